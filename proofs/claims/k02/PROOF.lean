import PyProof.Rows.All
import Wide.All
import OpenK.AllK
import Wide.FinOn
import KE.KExcSuper
import HandS.ForMost
import HandS.ForExc
import HandS.ExcInit
import HandS.ExcField
import HandS.IsInst
import KE.KExcIs
import HandS.Lambda
import HandS.Codes
import HandS.DictComp
import HandS.Star
import HandS.Text
import HandS.MakeKwOnly
import PyProof.InstNe
import PyProof.ListStr
import PySem.Challenge.RW_rulepurse_k02_trees_spots
import HandS.TryOnly
import HandS.Style
import HandS.TupAny
import HandS.Walk
import HandS.EndTab
section
set_option Elab.async false
set_option linter.all false
set_option maxRecDepth 100000
set_option maxHeartbeats 2000000
/-! Own exceptions below an own class over ValueError, whose __init__ says super().__init__(text) and stores its fields: how one is made. -/
namespace Rp
open PySem PySem.Spec PySem.W PySem.Calls PyProof.Rows PySem.HandSPX

/-! ### the text of such an __init__, with one field, with two -/
def xA1 (f : Str) (p1 p2 : Pos) : Arguments := { posonlyargs := [], args := [{ arg := "self", annotation := none, pos := p1 }, { arg := f, annotation := none, pos := p2 }], vararg := none, kwonlyargs := [], kw_defaults := [], kwarg := none, defaults := [] }
def xA2 (f f2 : Str) (p1 p2 p3 : Pos) : Arguments := { posonlyargs := [], args := [{ arg := "self", annotation := none, pos := p1 }, { arg := f, annotation := none, pos := p2 }, { arg := f2, annotation := none, pos := p3 }], vararg := none, kwonlyargs := [], kw_defaults := [], kwarg := none, defaults := [] }
def xSup (msg : Str) (q1 q2 q3 q4 q5 q6 : Pos) : Stmt := .Expr (.Call (.Attribute (.Call (.Name "super" q1) [] [] q2) "__init__" q3) [.Constant (.str msg) 0 q4] [] q5) q6
/-- the statement super().__init__(msg), its positions told by the row -/
structure SupSt (st : Stmt) : Prop where
  ex : ∃ (msg : Str) (q1 q2 q3 q4 q5 q6 : Pos) (pl : Env → Sem Bool), st = xSup msg q1 q2 q3 q4 q5 q6 ∧ ∀ env : Env, eval (.Call (.Attribute (.Call (.Name "super" q1) [] [] q2) "__init__" q3) [.Constant (.str msg) 0 q4] [] q5) env = (do
      let ov ← attributeBase (.Call (.Name "super" q1) [] [] q2) "__init__" env (eval (.Call (.Name "super" q1) [] [] q2) env)
      standAt q3.atName
      let (f, first) ← holding [ov] (getMethod ov "__init__" (pl env))
      callWith q5 f first (backTo q5 (starEach [.Constant (.str msg) 0 q4] env)) [])
example : SupSt (xSup "a" ⟨17, 8, 17, 13⟩ ⟨17, 8, 17, 15⟩ ⟨17, 8, 17, 24⟩ ⟨17, 25, 17, 41⟩ ⟨17, 8, 17, 42⟩ ⟨17, 8, 17, 42⟩) := ⟨_, _, _, _, _, _, _, _, rfl, fun _ => rfl⟩
def xSt (f : Str) (q1 q2 q3 q4 : Pos) : Stmt := .Assign [.Attribute (.Name "self" q1) f q2] (.Name f q3) q4
def xSc (ns : List (Str × NameKind)) : Scope := { kind := .function, names := ns, isGenerator := false, isCoroutine := false, more := [] }
def xN1 (f : Str) : List (Str × NameKind) := [(PySem.Str.ofString "self", .local), (f, .local), (PySem.Str.ofString "__class__", .free), (PySem.Str.ofString "super", .globalImplicit)]
def xN2 (f f2 : Str) : List (Str × NameKind) := [(PySem.Str.ofString "self", .local), (f, .local), (f2, .local), (PySem.Str.ofString "__class__", .free), (PySem.Str.ofString "super", .globalImplicit)]

/-- what the written part says of the class at C, its __init__ at fI -/
structure XCls (K : Frag) (C fI cc cda : Addr) : Prop where
  cls : ∃ nm q N bs bm sn sub ab col dd k0 k1 k2 k3 k5, K.lookup C = some (excClassObj nm q C N bs bm true sn sub ab col dd k0 k1 k2 k3 k5 "ValueError.__new__") ∧ refsVE bm = true
  sa : findIn K (.ref C) "__setattr__" = some (some (.builtin "object.__setattr__"))
  iC : findIn K (.ref C) "__init__" = some (some (.ref fI))
  tC : typeIn K (.ref fI) = some (.type "function")
  kC : keepIn K (.ref C) = true
  exC : subIn K (.ref C) (.type "BaseException") = some true
  veC : subIn K (.ref C) (.type "ValueError") = some true
  tyC : typeIn K (.ref C) = some (.type "type")
  hdC : hasDictIn K C = true
  sup : ks_superIn K C C "__init__" = some (some (.builtin "ValueError.__init__"))
  mro : mroIn K C (.ref C) = some true
  tp : nsIn K cStatics "thirdparty.any" = some none
  cell : ∃ cl cld csl, K.lookup cc = some ⟨cl, cld, .cell (some (.ref C)), csl⟩
  code : ∃ ccl cdd vs ccs file tf, K.lookup cda = some ⟨ccl, cdd, .fields vs, ccs⟩ ∧ vs[2]? = some (.str file tf) ∧ file = ("/claim/cut.py" : Str)

theorem clsIn_of {K : Frag} {C : Addr} {nm q : Str} {N : Addr} {bs bm : List Value} {sn : List Str} {sub : List Value} {ab : Bool} {col : Option Bool} {dd : Option Addr} {k0 k1 k2 k3 k5 : Option Value} {nid : String}
    (hC : K.lookup C = some (excClassObj nm q C N bs bm true sn sub ab col dd k0 k1 k2 k3 k5 nid)) :
    clsIn K C = some { name := nm, bases := bs, mro := .ref C :: bm, ns := N, qualname := q, hasDict := true, slotNames := sn, subclasses := sub, abstract := ab, collection := col, hasDel := false } := by unfold clsIn; rw [hC] <;> rfl

/-- what the world around offers to __init__ -/
structure XWorld (prog : Program) (mg : Str → Option Value) (h : Heap) : Prop where
  g : h.Ns mainGlobals mg
  b : ∃ mb, h.Ns builtinsNs mb ∧ mb ("super" : Str) = bootBuiltins "super"
  sup : mg "super" = none
  file : (prog.main.file : Str) = ("/claim/cut.py" : Str)
  top : (prog.main.scope.names.lookup ("super" : Str)).isSome = false
  lim : h.NoLimit
theorem XWorld.keeps {prog : Program} {mg : Str → Option Value} {h h' : Heap} (x : XWorld prog mg h) (k : ∀ b o, h.get? b = some o → h'.get? b = some o) : XWorld prog mg h' :=
  ⟨x.g.keeps k, let ⟨mb, h1, h2⟩ := x.b; ⟨mb, h1.keeps k, h2⟩, x.sup, x.file, x.top, x.lim.keeps k⟩

section
variable {prog : Program} {w : World} {A : Around} {E : Value → Shared → Prop} {s : Shared} {K : Frag} {mg : Str → Option Value} {C fI cc cda : Addr}

/-- super().__init__(msg): the exception's args are laid anew -/
theorem super_init {body : List Stmt} {nm qual : Str} {st : Stmt} {params : Arguments} {ns : List (Str × NameKind)} {L x t0 : Addr} {doc pm ct oc : Value} {an od : Option Addr} {osl : Array (Option Value)} {m : Str → Option Value} {Q : Flow → Shared → Prop} {ar : Arg}
    (S : SupSt st) (T : XCls K C fI cc cda) (X : K.In s.heap) (W : XWorld prog mg s.heap)
    (hf : K.lookup fI = some ⟨oc, od, .func (ksFn nm qual params body (xSc ns) .none .none doc pm an (.ref cda) ct cc), osl⟩) (hp : (params.posonlyargs ++ params.args).head? = some ar) (har : ar.arg = ("self" : Str))
    (hks : ns.lookup ("super" : Str) = some .globalImplicit) (hkc : ns.lookup ("__class__" : Str) = some .free) (hka : ns.lookup ("self" : Str) = some .local)
    (hn : s.heap.Ns L m) (hv : m "self" = some (.ref x)) (hx : s.heap.get? x = some (excO C t0)) (hxL : x ≠ L)
    (h : ∀ h' tk t1, (∀ b o, b ≠ x → s.heap.get? b = some o → h'.get? b = some o) → h'.get? x = some (excO C t1) → Q .next { s with heap := h', toks := tk }) :
    _root_.PySem.wpAt (model prog w) A (.func body (ksEnv qual (xSc ns) L fI (.ref cda) cc)) (exec st (ksEnv qual (xSc ns) L fI (.ref cda) cc)) Q E s := by
  obtain ⟨msg, q1, q2, q3, q4, q5, q6, pl, rfl, he⟩ := S.ex
  obtain ⟨nm', qn, N, bs, bm, sn, sub, ab, col, dd, k0, k1, k2, k3, k5, hC, hbm⟩ := T.cls
  have hcl := clsIn_of hC
  obtain ⟨cl, cld, csl, hcell⟩ := T.cell
  obtain ⟨ccl, cdd, vs, ccs, file, tf, hcode, hvs, hfe⟩ := T.code
  obtain ⟨mb, hb, hbs⟩ := W.b
  obtain ⟨hh, g, d, t, os⟩ := s
  have hxC : x ≠ C := fun z => by
    have e : hh.get? C = _ := X _ _ hC
    rw [← z, hx] at e
    cases e
  unfold xSup
  refine ks_wpAt_Expr_any ?_
  refine ks_wpAt_MethodCall (pl := pl _) ?_ (he _)
  refine ks_wpAt_super_base (env := ksEnv qual (xSc ns) L fI (.ref cda) cc) hks hkc (by decide +kernel) rfl (X _ _ hf) rfl hp rfl (X _ _ hcode) rfl hvs (by rw [W.file, hfe]; exact beq_self_eq_true _) W.top ?_
  refine ks_loadName_global rfl hks (loadGlobal_builtin (env := ksEnv qual (xSc ns) L fI (.ref cda) cc) W.g W.sup hb (hbs.trans (by decide +kernel)) ⟨rfl, ?_⟩)
  refine wpAny_loadName_free rfl hkc rfl ⟨_, X _ _ hcell, rfl⟩ ?_
  rw [har]
  refine wpAny_loadName_local rfl hka hn hv ?_
  refine ks_wpAny_isType_cls (X _ _ hC) rfl ⟨rfl, ?_⟩
  refine ks_wpAny_call_super (X _ _ hC) rfl hx rfl (fun c e => by cases e) (looks_mroIn X T.mro) (fun h' e k => ?_)
  have X' : K.In h' := X.keeps k
  have hx' := k _ _ hx
  have I : InstAt h' x (excO C t0) C none := ⟨hx', rfl, rfl, trivial⟩
  have hI : Looks (model prog w) h' (isInstance (.ref x) (.type "ValueError")) true := I.type.andThen (looks_subIn X' T.veC)
  have hm := T.sup
  unfold ks_superIn at hm
  rw [hcl] at hm
  refine kxs_getMethod kxs_ValueError e (looks_opaque X' T.tp) (l₀ := .ref C :: bm) ?_ rfl X' hm hI hxC rfl ?_
  · exact fun A Q E s k q => wpAny_bind ((looks_clsIn X' hcl) A _ E s k (wpAny_pure q))
  have hu : (h'.push (kxs_mw "ValueError.__init__" x)).get? h'.objs.size = some (kxs_mw "ValueError.__init__" x) := Heap.get?_push_size _ rfl
  refine kxs_callWith (i := "ValueError.__init__") (x := x) rfl ?_
  refine evalArgs_plain ?_
  show wpAny _ _ (spliced ((false, eval (.Constant (.str msg) 0 q4) (ksEnv qual (xSc ns) L fI (.ref cda) cc)) :: backTo q5 (starEach [] (ksEnv qual (xSc ns) L fI (.ref cda) cc)))) _ _ _
  refine Calls.spliced_cons (Calls.Constant_str ?_)
  refine Calls.spliced_nil ⟨hu, ?_⟩
  -- the wrapper is called
  have hx2 : (h'.push (kxs_mw "ValueError.__init__" x)).get? x = some (excO C t0) := Heap.get?_push_of_some _ hx'
  have hC2 : (h'.push (kxs_mw "ValueError.__init__" x)).get? C = _ := Heap.get?_push_of_some _ (X' _ _ hC)
  refine wpAny_call (codeAny_of_tree ?_)
  show wpAny _ A.in1 (callAny (.ref h'.objs.size) ⟨_, []⟩) _ _ _
  simp only [callAny]
  refine wpAny_bind (wpAny_load hu ?_)
  simp only [kxs_mw, show (Value.type "method-wrapper" == Value.type "method" || Value.type "method-wrapper" == Value.type "builtin_function_or_method" || Value.type "method-wrapper" == Value.type "method-wrapper") = true by decide, if_true]
  refine KFB.if_so (by decide) ?_
  refine wpAny_bind (check_bound_init F.excBase_ValueError.toExcCallFacts hC2 hx2 rfl ?_)
  refine wpAny_bind (wpAny_pure (wpAny_pure ?_))
  refine ⟨plainId_quiet F.excBase_ValueError.init.plain _, codeAny_builtin F.excBase_ValueError.initEntry ?_⟩
  refine exc_init_tree (cls := .ref C) (t0 := t0) (dv := none) (c2 := .none) (c3 := .none) (b4 := .bool false) hx2 (by rw [sizeLine_eq]; exact (show 1 ≤ 16777216 by decide)) (fun h3 k3 e3 _ => ?_)
  refine h h3 _ _ (fun b o hb e => k3 b o hb (Heap.get?_push_of_some _ (k b o e))) e3

theorem ldX {M : Model} {s : Shared} {env : Env} {m : Str → Option Value} {x : Str} {pos : Pos} {v : Value} {Q : Value → Shared → Prop} {A : Around} {E : Value → Shared → Prop} (hn : s.heap.Ns env.locals m) (hv : m x = some v) (hl : env.kindOf x = some .local) (h : Q v s)
    (hd : (x == ("__debug__" : Str)) = false) (hk : env.scope.kind = .function := by rfl) : wpAny M A (eval (.Name x pos) env) Q E s := wpAny_Name (wpAny_loadName_local hk hl hn hv h) hd
/-- what __init__ leaves of a fresh exception at x -/
structure InitEnd (h h' : Heap) (x C dx : Addr) (mA : Str → Option Value) : Prop where
  keep : ∀ b o, b ≠ x → h.get? b = some o → h'.get? b = some o
  obj : ∃ t1, h'.get? x = some { cls := .ref C, dict := some dx, data := .fields #[.ref t1, .none, .none, .none, .bool false, .none] }
  dbig : h.objs.size ≤ dx
  dne : dx ≠ x
  ns : h'.Ns1 dx mA
/-- a made exception -/
structure OwnMade (h h' : Heap) (e C d : Addr) (mA : Str → Option Value) : Prop where
  keep : ∀ b o, h.get? b = some o → h'.get? b = some o
  new : h.objs.size ≤ e
  obj : ∃ t1, h'.get? e = some { cls := .ref C, dict := some d, data := .fields #[.ref t1, .none, .none, .none, .bool false, .none] }
  dbig : h.objs.size ≤ d
  dne : d ≠ e
  ns : h'.Ns1 d mA
def m1 (f : Str) (v : Value) : Str → Option Value := fun y => if y = f then some v else none
def m2 (f : Str) (v : Value) (f2 : Str) (v2 : Value) : Str → Option Value := fun y => if y = f2 then some v2 else m1 f v y

/-- what the names say of a text with one field, with two -/
structure XF1 (f : Str) : Prop where
  kf : (xN1 f).lookup f = some .local
  kc : (xN1 f).lookup ("__class__" : Str) = some .free
  ks : (xN1 f).lookup ("super" : Str) = some .globalImplicit
  kself : (xN1 f).lookup ("self" : Str) = some .local
  df : (f == ("__debug__" : Str)) = false
  sf : (f == ("self" : Str)) = false
  bind : ∀ (qual : Str) (p1 p2 : Pos) (body : List Stmt) (doc pm : Value) (an : Option Addr) (cd ct : Value) (cc : Addr) (a b : Value), bindArgs (ksFn "__init__" qual (xA1 f p1 p2) body (xSc (xN1 f)) .none .none doc pm an cd ct cc) ⟨[a, b], []⟩ = pure ([("self", a), (f, b)] : List (Str × Value))
theorem xf_part : XF1 "part" := ⟨rfl, rfl, rfl, rfl, by decide +kernel, by decide +kernel, fun _ _ _ _ _ _ _ _ _ _ _ _ => rfl⟩
theorem xf_name : XF1 "name" := ⟨rfl, rfl, rfl, rfl, by decide +kernel, by decide +kernel, fun _ _ _ _ _ _ _ _ _ _ _ _ => rfl⟩
theorem xf_word : XF1 "word" := ⟨rfl, rfl, rfl, rfl, by decide +kernel, by decide +kernel, fun _ _ _ _ _ _ _ _ _ _ _ _ => rfl⟩
structure XF2 (f f2 : Str) : Prop where
  kf : (xN2 f f2).lookup f = some .local
  kf2 : (xN2 f f2).lookup f2 = some .local
  kc : (xN2 f f2).lookup ("__class__" : Str) = some .free
  ks : (xN2 f f2).lookup ("super" : Str) = some .globalImplicit
  kself : (xN2 f f2).lookup ("self" : Str) = some .local
  df : (f == ("__debug__" : Str)) = false
  df2 : (f2 == ("__debug__" : Str)) = false
  sf : (f == ("self" : Str)) = false
  sf2 : (f2 == ("self" : Str)) = false
  ff : (f == f2) = false
  bind : ∀ (qual : Str) (p1 p2 p3 : Pos) (body : List Stmt) (doc pm : Value) (an : Option Addr) (cd ct : Value) (cc : Addr) (a b c : Value), bindArgs (ksFn "__init__" qual (xA2 f f2 p1 p2 p3) body (xSc (xN2 f f2)) .none .none doc pm an cd ct cc) ⟨[a, b, c], []⟩ = pure ([("self", a), (f, b), (f2, c)] : List (Str × Value))
theorem xf_rule : XF2 "index" "reason" := ⟨rfl, rfl, rfl, rfl, rfl, by decide +kernel, by decide +kernel, by decide +kernel, by decide +kernel, by decide +kernel, fun _ _ _ _ _ _ _ _ _ _ _ _ _ _ => rfl⟩
theorem xf_text : XF2 "line" "word" := ⟨rfl, rfl, rfl, rfl, rfl, by decide +kernel, by decide +kernel, by decide +kernel, by decide +kernel, by decide +kernel, fun _ _ _ _ _ _ _ _ _ _ _ _ _ _ => rfl⟩
theorem xf_many : XF2 "what" "most" := ⟨rfl, rfl, rfl, rfl, rfl, by decide +kernel, by decide +kernel, by decide +kernel, by decide +kernel, by decide +kernel, fun _ _ _ _ _ _ _ _ _ _ _ _ _ _ => rfl⟩
/-- the class with one field f -/
structure X1 (K : Frag) (C fI cc cda : Addr) (f : Str) : Prop extends XCls K C fI cc cda, XF1 f where
  noN : findIn K (.ref C) f = some none
  fn : ∃ (oc : Value) (od : Option Addr) (doc pm : Value) (an : Option Addr) (ct : Value) (osl : Array (Option Value)) (qual : Str) (p1 p2 q1 q2 q3 q4 : Pos) (st : Stmt),
    K.lookup fI = some ⟨oc, od, .func (ksFn "__init__" qual (xA1 f p1 p2) [st, xSt f q1 q2 q3 q4] (xSc (xN1 f)) .none .none doc pm an (.ref cda) ct cc), osl⟩ ∧ codeIn K (.ref cda) qual = true ∧ SupSt st
/-- .. with two, f and f2 -/
structure X2 (K : Frag) (C fI cc cda : Addr) (f f2 : Str) : Prop extends XCls K C fI cc cda, XF2 f f2 where
  noN : findIn K (.ref C) f = some none
  noN2 : findIn K (.ref C) f2 = some none
  fn : ∃ (oc : Value) (od : Option Addr) (doc pm : Value) (an : Option Addr) (ct : Value) (osl : Array (Option Value)) (qual : Str) (p1 p2 p3 q1 q2 q3 q4 r1 r2 r3 r4 : Pos) (st : Stmt),
    K.lookup fI = some ⟨oc, od, .func (ksFn "__init__" qual (xA2 f f2 p1 p2 p3) [st, xSt f q1 q2 q3 q4, xSt f2 r1 r2 r3 r4] (xSc (xN2 f f2)) .none .none doc pm an (.ref cda) ct cc), osl⟩ ∧ codeIn K (.ref cda) qual = true ∧ SupSt st

theorem lk_self1 {f : Str} (sf : (f == ("self" : Str)) = false) {a b : Value} : ([("self", a), (f, b)] : List (Str × Value)).reverse.lookup ("self" : Str) = some a := by
  show ([(f, b), (("self" : Str), a)] : List (Str × Value)).lookup ("self" : Str) = some a
  have h : (("self" : Str) == f) = false := by rw [Bool.beq_comm]; exact sf
  simp [List.lookup, h]
theorem lk_f1 {f : Str} {a b : Value} : ([("self", a), (f, b)] : List (Str × Value)).reverse.lookup f = some b := by
  show ([(f, b), (("self" : Str), a)] : List (Str × Value)).lookup f = some b
  simp [List.lookup]

theorem init1 {f : Str} {R : Result → Shared → Prop} (T : X1 K C fI cc cda f) {x t0 : Addr} {v : Value} (X : K.In s.heap) (W : XWorld prog mg s.heap) (hx : s.heap.get? x = some (excO C t0)) (hnK : K.lookup x = none) (hroom : A.depth < recursionLimit)
    (hq : ∀ h' tk dx, InitEnd s.heap h' x C dx (m1 f v) → R (.ok (.ret .none)) { s with heap := h', toks := tk }) :
    codeAny (model prog w) A (.call (.ref fI) ⟨[.ref x, v], []⟩) R s := by
  obtain ⟨oc, od, doc, pm, an, ct, osl, qual, p1, p2, q1, q2, q3, q4, st, ho, hcd, S⟩ := T.fn
  obtain ⟨nm', qn, N, bs, bm, sn, sub, ab, col, dd, k0, k1, k2, k3, k5, hC, hbm⟩ := T.cls
  have hcl := clsIn_of hC
  have hloc : ∀ y ∈ ([("self", .ref x), (f, v)] : List (Str × Value)), (xSc (xN1 f)).names.lookup y.1 = some .local := fun y hy => by
    rcases List.mem_cons.mp hy with rfl | hy
    · rfl
    · rcases List.mem_cons.mp hy with rfl | hy
      · exact T.kf
      · cases hy
  refine ks_codeAny_call_defAt (fd := ksFn "__init__" qual (xA1 f p1 p2) [st, xSt f q1 q2 q3 q4] (xSc (xN1 f)) .none .none doc pm an (.ref cda) ct cc) (body := [st, xSt f q1 q2 q3 q4]) (binds := [("self", .ref x), (f, v)]) (args := ⟨[.ref x, v], []⟩) hroom (X _ _ ho) rfl W.lim (codeRec_of X hcd) rfl
    (BindsTo.of_eq (T.bind _ _ _ _ _ _ _ _ _ _ _ _)) (fun y hy => by have hy : y ∈ xN1 f := hy; simp only [xN1, List.mem_cons, List.not_mem_nil, or_false] at hy; rcases hy with rfl | rfl | rfl | rfl <;> (intro z; cases z)) hloc (fun h₁ hns k => ?_) rfl rfl rfl
  have hxL : x ≠ s.heap.objs.size := Nat.ne_of_lt (Heap.lt_size hx)
  refine ks_wpAt_execs_cons (super_init (s := { s with heap := h₁, toks := _ }) S T.toXCls (X.keeps k) (W.keeps k) ho rfl rfl T.ks T.kc T.kself hns (lk_self1 T.sf) (k _ _ hx) hxL fun h₂ tk₂ t1 k₂ hx₂ => ?_)
  have hns2 : h₂.Ns s.heap.objs.size _ := let ⟨o, es, ep, e, r⟩ := hns; ⟨o, es, ep, k₂ _ _ (Ne.symm hxL) e, r⟩
  have hnx : ∀ {b o}, K.lookup b = some o → b ≠ x := fun {b o} e z => by
    rw [z, hnK] at e
    cases e
  have X₂ : K.In h₂ := fun b o e => k₂ b o (hnx e) (k _ _ (X b o e))
  refine wpAt_of_wpAny (wpAny_execs_cons (plainObj_wpAny_Assign_Attribute (ldX hns2 lk_f1 T.kf (ldX hns2 (lk_self1 T.sf) T.kself ?_ (by decide)) T.df)))
  refine set_plain X₂ (ox := excO C t1) (od := none) ⟨hx₂, rfl, rfl, trivial⟩ T.sa ?_
  refine exc_osa X₂ hx₂ hcl (show refsVE (.ref C :: bm) = true from hbm) rfl T.noN (fun h₃ tk₃ dx k₃ dn dne hx₃ hn₃ => ?_)
  show wpAny _ _ (execs _ _) _ _ _
  have z : s.heap.objs.size < h₂.objs.size := hns2.lt
  exact wpAny_execs_nil (hq h₃ tk₃ dx ⟨fun b o hb e => k₃ b o hb (k₂ b o hb (k b o e)), ⟨t1, hx₃⟩, Nat.le_of_lt (Nat.lt_of_lt_of_le z dn), dne, hn₃⟩)

theorem lk2_self {f f2 : Str} (sf : (f == ("self" : Str)) = false) (sf2 : (f2 == ("self" : Str)) = false) {a b c : Value} : ([("self", a), (f, b), (f2, c)] : List (Str × Value)).reverse.lookup ("self" : Str) = some a := by
  show ([(f2, c), (f, b), (("self" : Str), a)] : List (Str × Value)).lookup ("self" : Str) = some a
  have h : (("self" : Str) == f) = false := by rw [Bool.beq_comm]; exact sf
  have h2 : (("self" : Str) == f2) = false := by rw [Bool.beq_comm]; exact sf2
  simp [List.lookup, h, h2]
theorem lk2_f {f f2 : Str} (ff : (f == f2) = false) {a b c : Value} : ([("self", a), (f, b), (f2, c)] : List (Str × Value)).reverse.lookup f = some b := by
  show ([(f2, c), (f, b), (("self" : Str), a)] : List (Str × Value)).lookup f = some b
  simp [List.lookup, ff]
theorem lk2_f2 {f f2 : Str} {a b c : Value} : ([("self", a), (f, b), (f2, c)] : List (Str × Value)).reverse.lookup f2 = some c := by
  show ([(f2, c), (f, b), (("self" : Str), a)] : List (Str × Value)).lookup f2 = some c
  simp [List.lookup]
theorem within1 {f : Str} {v : Value} : PySem.Within (m1 f v) [f] := fun y h => by
  by_cases e : y = f
  · rw [e]
    exact List.mem_cons_self
  · exact absurd (show m1 f v y = none from if_neg e) h
theorem init2 {f f2 : Str} {R : Result → Shared → Prop} (T : X2 K C fI cc cda f f2) {x t0 : Addr} {v v2 : Value} (X : K.In s.heap) (W : XWorld prog mg s.heap) (hx : s.heap.get? x = some (excO C t0)) (hnK : K.lookup x = none) (hroom : A.depth < recursionLimit)
    (hq : ∀ h' tk dx, InitEnd s.heap h' x C dx (m2 f v f2 v2) → R (.ok (.ret .none)) { s with heap := h', toks := tk }) :
    codeAny (model prog w) A (.call (.ref fI) ⟨[.ref x, v, v2], []⟩) R s := by
  obtain ⟨oc, od, doc, pm, an, ct, osl, qual, p1, p2, p3, q1, q2, q3, q4, r1, r2, r3, r4, st, ho, hcd, S⟩ := T.fn
  obtain ⟨nm', qn, N, bs, bm, sn, sub, ab, col, dd, k0, k1, k2, k3, k5, hC, hbm⟩ := T.cls
  have hcl := clsIn_of hC
  have hloc : ∀ y ∈ ([("self", .ref x), (f, v), (f2, v2)] : List (Str × Value)), (xSc (xN2 f f2)).names.lookup y.1 = some .local := fun y hy => by
    rcases List.mem_cons.mp hy with rfl | hy
    · rfl
    · rcases List.mem_cons.mp hy with rfl | hy
      · exact T.kf
      · rcases List.mem_cons.mp hy with rfl | hy
        · exact T.kf2
        · cases hy
  refine ks_codeAny_call_defAt (fd := ksFn "__init__" qual (xA2 f f2 p1 p2 p3) [st, xSt f q1 q2 q3 q4, xSt f2 r1 r2 r3 r4] (xSc (xN2 f f2)) .none .none doc pm an (.ref cda) ct cc) (body := [st, xSt f q1 q2 q3 q4, xSt f2 r1 r2 r3 r4]) (binds := [("self", .ref x), (f, v), (f2, v2)]) (args := ⟨[.ref x, v, v2], []⟩) hroom (X _ _ ho) rfl W.lim (codeRec_of X hcd) rfl
    (BindsTo.of_eq (T.bind _ _ _ _ _ _ _ _ _ _ _ _ _ _)) (fun y hy => by have hy : y ∈ xN2 f f2 := hy; simp only [xN2, List.mem_cons, List.not_mem_nil, or_false] at hy; rcases hy with rfl | rfl | rfl | rfl | rfl <;> (intro z; cases z)) hloc (fun h₁ hns k => ?_) rfl rfl rfl
  have hxL : x ≠ s.heap.objs.size := Nat.ne_of_lt (Heap.lt_size hx)
  refine ks_wpAt_execs_cons (super_init (s := { s with heap := h₁, toks := _ }) S T.toXCls (X.keeps k) (W.keeps k) ho rfl rfl T.ks T.kc T.kself hns (lk2_self T.sf T.sf2) (k _ _ hx) hxL fun h₂ tk₂ t1 k₂ hx₂ => ?_)
  have hns2 : h₂.Ns s.heap.objs.size _ := let ⟨o, es, ep, e, r⟩ := hns; ⟨o, es, ep, k₂ _ _ (Ne.symm hxL) e, r⟩
  have hnx : ∀ {b o}, K.lookup b = some o → b ≠ x := fun {b o} e z => by
    rw [z, hnK] at e
    cases e
  have X₂ : K.In h₂ := fun b o e => k₂ b o (hnx e) (k _ _ (X b o e))
  refine wpAt_of_wpAny (wpAny_execs_cons (plainObj_wpAny_Assign_Attribute (ldX hns2 (lk2_f T.ff) T.kf (ldX hns2 (lk2_self T.sf T.sf2) T.kself ?_ (by decide)) T.df)))
  refine set_plain X₂ (ox := excO C t1) (od := none) ⟨hx₂, rfl, rfl, trivial⟩ T.sa ?_
  refine exc_osa X₂ hx₂ hcl (show refsVE (.ref C :: bm) = true from hbm) rfl T.noN (fun h₃ tk₃ dx k₃ dn dne hx₃ hn₃ => ?_)
  have z : s.heap.objs.size < h₂.objs.size := hns2.lt
  have hns3 : h₃.Ns s.heap.objs.size _ := let ⟨o, es, ep, e, r⟩ := hns2; ⟨o, es, ep, k₃ _ _ (Ne.symm hxL) e, r⟩
  have X₃ : K.In h₃ := fun b o e => k₃ b o (hnx e) (X₂ b o e)
  show wpAny _ _ (execs _ _) _ _ _
  refine wpAny_execs_cons (plainObj_wpAny_Assign_Attribute (ldX hns3 lk2_f2 T.kf2 (ldX hns3 (lk2_self T.sf T.sf2) T.kself ?_ (by decide)) T.df2))
  obtain ⟨oD, _, _, hoD, _, _⟩ := id hn₃
  refine set_plain X₃ (ox := _) (od := some oD) ⟨hx₃, rfl, rfl, hoD⟩ T.sa ?_
  refine PySem.OEX.osa_old X₃ hx₃ hn₃ within1 (by show 1 ≤ 1000; decide) hcl (show refsVE (.ref C :: bm) = true from hbm) rfl T.noN2 (fun h₄ tk₄ k₄ hn₄ => ?_)
  show wpAny _ _ (execs _ _) _ _ _
  exact wpAny_execs_nil (hq h₄ tk₄ dx ⟨fun b o hb e => k₄ b o (fun y => by
      have y2 := Heap.lt_size (k₂ b o hb (k b o e))
      rw [y] at y2
      exact absurd (Nat.lt_of_lt_of_le y2 dn) (Nat.lt_irrefl _)) (k₃ b o hb (k₂ b o hb (k b o e))), ⟨t1, k₄ _ _ (Ne.symm dne) hx₃⟩, Nat.le_of_lt (Nat.lt_of_lt_of_le z dn), dne, hn₄⟩)

/-- C(..) made: the common part -/
theorem made (T : XCls K C fI cc cda) {vs : List Value} {mA : Str → Option Value} {R : Result → Shared → Prop} (X : K.In s.heap) (W : XWorld prog mg s.heap) (hlen : vs.length ≤ sizeLine)
    (init : ∀ (s : Shared) (x t0 : Addr) (A : Around) (R : Result → Shared → Prop), K.In s.heap → XWorld prog mg s.heap → s.heap.get? x = some (excO C t0) → K.lookup x = none → A.depth < recursionLimit →
      (∀ h' tk dx, InitEnd s.heap h' x C dx mA → R (.ok (.ret .none)) { s with heap := h', toks := tk }) → codeAny (model prog w) A (.call (.ref fI) ⟨.ref x :: vs, []⟩) R s)
    (hroom : A.depth + 1 < recursionLimit)
    (hq : ∀ h' tk e d, OwnMade s.heap h' e C d mA → R (.ok (.ret (.ref e))) { s with heap := h', toks := tk }) :
    codeAny (model prog w) A (.call (.ref C) ⟨vs, []⟩) R s := by
  obtain ⟨nm, q, N, bs, bm, sn, sub, ab, col, dd, k0, k1, k2, k3, k5, hC, hbm⟩ := T.cls
  obtain ⟨hp, g, dr, tk, os⟩ := s
  have k : ∀ b o, hp.get? b = some o → ((hp.push (kdv_tup vs)).push (excO C hp.objs.size)).get? b = some o := fun b o e => Heap.get?_push_of_some _ (Heap.get?_push_of_some _ e)
  have hget : ((hp.push (kdv_tup vs)).push (excO C hp.objs.size)).get? (hp.objs.size + 1) = some (excO C hp.objs.size) := by heap_get
  have hnx : K.lookup (hp.objs.size + 1) = none := by
    cases e : K.lookup (hp.objs.size + 1) with
    | none => rfl
    | some o =>
      have z : hp.get? (hp.objs.size + 1) = some o := X _ _ e
      exact absurd (Nat.lt_of_succ_lt (Heap.lt_size z)) (Nat.lt_irrefl _)
  refine call_own F.excBase_ValueError (fun X => refsVE_contains X bm hbm) (X _ _ hC) (looks_findIn X T.iC) (fun self => bind_fn X self T.tC) hlen ?_
  refine init ⟨(hp.push (kdv_tup vs)).push (excO C hp.objs.size), g, dr, tk, os⟩ _ _ _ _ (X.keeps k) (W.keeps k) hget hnx ?_ fun h' tk' dx ⟨k', hx, dn, dne, hns⟩ => ?_
  · show A.depth + 1 < recursionLimit
    exact hroom
  · have old : ∀ b o, hp.get? b = some o → h'.get? b = some o := fun b o e => k' b o (Nat.ne_of_lt (Nat.lt_succ_of_lt (Heap.lt_size e))) (k b o e)
    have z : hp.objs.size + 1 + 1 ≤ dx := by
      first
        | (simpa only [Heap.size_push] using dn)
        | exact dn
        | (have q := dn; rw [Heap.size_push, Heap.size_push] at q; exact q)
    exact ⟨rfl, hq h' tk' (hp.objs.size + 1) dx ⟨old, Nat.le_succ _, hx, Nat.le_trans (Nat.le_trans (Nat.le_succ _) (Nat.le_succ _)) z, dne, hns⟩⟩
end
end Rp

namespace L2
open PySem PySem.Spec PyProof.Rows
theorem relO_m1 {f : Str} {v : V} {u : Value} (r : RelV v u) (y : Str) : RelO (List.lookup y [(f, v)]) (Rp.m1 f u y) := by
  unfold Rp.m1
  by_cases h : y = f
  · subst h
    rw [if_pos rfl]
    have q : List.lookup y [(y, v)] = some v := by simp [List.lookup]
    rw [q]
    exact r
  · rw [if_neg h]
    have qw : (y == f) = false := by simpa using h
    have q2 : List.lookup y [(f, v)] = none := by simp [List.lookup, qw]
    rw [q2]
    trivial
theorem relO_m2 {f f2 : Str} {v v2 : V} {u u2 : Value} (r : RelV v u) (r2 : RelV v2 u2) (y : Str) : RelO (List.lookup y [(f2, v2), (f, v)]) (Rp.m2 f u f2 u2 y) := by
  unfold Rp.m2
  by_cases h : y = f2
  · subst h
    rw [if_pos rfl]
    have q : List.lookup y [(y, v2), (f, v)] = some v2 := by simp [List.lookup]
    rw [q]
    exact r2
  · rw [if_neg h]
    have qw : (y == f2) = false := by simpa using h
    have q2 : List.lookup y [(f2, v2), (f, v)] = List.lookup y [(f, v)] := by simp [List.lookup, qw]
    rw [q2]
    exact relO_m1 r y
/-- what the program's text around says, for super() -/
structure XProg (prog : Program) (mg : Str → Option Value) : Prop where
  sup : mg "super" = none
  file : (prog.main.file : Str) = ("/claim/cut.py" : Str)
  top : (prog.main.scope.names.lookup ("super" : Str)).isSome = false
theorem XProg.world {X : Cx} {pins : List (Addr × Obj)} {σ : L2.St} {H : Hp} {s : Shared} (G : XProg X.prog X.mg) (I : Inv X pins σ H s) : Rp.XWorld X.prog X.mg s.heap :=
  ⟨I.mod.glob.keeps I.bk, let ⟨mb, h1, h2⟩ := I.mod.blt; ⟨mb, h1.keeps I.bk, h2 _ (by decide +kernel)⟩, G.sup, G.file, G.top, I.nolimit⟩
section
variable {X : Cx} {C fI cc cda : Addr} {x f f2 : Str} {p pos : Pos} {a b : Expr} {ta : TA} {k : Nat}
/-- the made exception is let go of the tracked, its dict is told -/
theorem mkp_of {pins : List (Addr × Obj)} {σ : L2.St} {H1 : Hp} {Q : XK} {hp h' : Heap} {g : Array GenState} {dr : Drawn} {tk tk' : Nat} {os : OsState} {e d : Addr} {mA : Str → Option Value} {fs : List (Str × V)} (T : Rp.XCls X.K C fI cc cda)
    (I1 : Inv X pins σ H1 ⟨hp, g, dr, tk, os⟩) (M : Rp.OwnMade hp h' e C d mA) (rel : ∀ y, RelO (fs.lookup y) (mA y)) (q1 : ∀ d, H1 d = none → Q (.ref C) (some d) (upd H1 d (.xd fs))) : MkP X pins σ Q (.ref e) ⟨h', g, dr, tk', os⟩ := by
  obtain ⟨t1, hoe⟩ := M.obj
  have hns := M.ns
  obtain ⟨G', g1, g2⟩ := restrict h' fun b => decide (b ≠ e)
  have gk : ∀ b, b ≠ e → G'.get? b = h'.get? b := fun b hb => g1 b (decide_eq_true hb)
  have ge : G'.get? e = none := g2 e (by simp)
  have old : ∀ b o, hp.get? b = some o → G'.get? b = some o := fun b o q => (gk b (Nat.ne_of_lt (Nat.lt_of_lt_of_le (Heap.lt_size q) M.new))).trans (M.keep b o q)
  have ob : ObjOk X.prog X.w (upd H1 d (.xd fs)) G' d (.xd fs) := ⟨_, hns.at (fun o q => (gk d M.dne).trans q), rel⟩
  have J : Inv X pins σ (upd H1 d (.xd fs)) ⟨G', g, dr, tk', os⟩ := I1.laid (t' := tk') old M.dbig ob
  refine ⟨e, _, _, ⟨G', g, dr, tk', os⟩, _, .ref C, some d, rfl, J, fun b o q => ?_, ge, hoe, ⟨rfl, rfl⟩, rfl, rfl, ?_, rfl, I1.bare, raises_own T.exC T.tyC, q1 d (I1.hok.fresh M.dbig)⟩
  · by_cases hb : b = e
    · have q' : G'.get? b = some o := q
      rw [hb, ge] at q'; cases q'
    · exact (gk b hb).symm.trans q
  · rw [upd_ne (Ne.symm M.dne)]
    exact I1.hok.fresh M.new
/-- C(e) of a class with one field; C(e, e2) of one with two -/
def tMk1 (C : Addr) (f : Str) (ta : TA) : L2.St → Hp → XK → Prop := fun σ H Q => ta σ H fun vs H1 => ∃ v, vs = [v] ∧ ∀ d, H1 d = none → Q (.ref C) (some d) (upd H1 d (.xd [(f, v)]))
def tMk2 (C : Addr) (f f2 : Str) (ta : TA) : L2.St → Hp → XK → Prop := fun σ H Q => ta σ H fun vs H1 => ∃ v v2, vs = [v, v2] ∧ ∀ d, H1 d = none → Q (.ref C) (some d) (upd H1 d (.xd [(f2, v2), (f, v)]))
theorem pmk_x1 (T : Rp.X1 X.K C fI cc cda f) (G : XProg X.prog X.mg) (hr : Room k X.A) (hm : X.mg x = some (.ref C)) (ha : PA X [a] ta) (hg : Gl X x := by rfl) (hdb : (x == ("__debug__" : Str)) = false := by decide)
    (he : starEach (a :: []) X.env = (false, eval a X.env) :: starEach [] X.env := by rfl) (hpl : (backTo pos (starEach [] X.env)).any (·.1) = false := by rfl) :
    PMk X (.Call (.Name x p) [a] [] pos) (tMk1 C f ta) := by
  intro pins s σ H Q I h
  refine wpAny_Call_Name_kw (ld_glob I hg hm ?_ hdb)
  refine PySem.W.callWith_K (h₀ := X.base) I.ok.mod.kin T.kC (thn (ha.run pos pins s σ H _ I h) fun us s1 hh => ?_) he hpl
  obtain ⟨vs, H1, I1, r1, v, ev, q1⟩ := hh
  subst ev
  refine ⟨I1.kIn, ?_⟩
  cases r1 with
  | cons rv rn =>
    rename_i v' us'
    cases rn
    show wpAny _ _ (call (.ref C) [v']) _ _ _
    have W := G.world I1
    have KI := I1.kIn
    obtain ⟨hp, g, dr, tk, os⟩ := s1
    exact wpAny_call (Rp.made T.toXCls KI W (by rw [sizeLine_eq]; exact (show 1 ≤ 16777216 by decide)) (fun s x t0 A R a b c d e f => Rp.init1 T a b c d e f) (by have := hr.dp; omega) fun h' tk' e d M => mkp_of T.toXCls I1 M (relO_m1 rv) q1)
theorem pmk_x2 (T : Rp.X2 X.K C fI cc cda f f2) (G : XProg X.prog X.mg) (hr : Room k X.A) (hm : X.mg x = some (.ref C)) (ha : PA X [a, b] ta) (hg : Gl X x := by rfl) (hdb : (x == ("__debug__" : Str)) = false := by decide)
    (he : starEach [a, b] X.env = (false, eval a X.env) :: starEach [b] X.env := by rfl) (hpl : (backTo pos (starEach [b] X.env)).any (·.1) = false := by rfl) :
    PMk X (.Call (.Name x p) [a, b] [] pos) (tMk2 C f f2 ta) := by
  intro pins s σ H Q I h
  refine wpAny_Call_Name_kw (ld_glob I hg hm ?_ hdb)
  refine PySem.W.callWith_K (h₀ := X.base) I.ok.mod.kin T.kC (thn (ha.run pos pins s σ H _ I h) fun us s1 hh => ?_) he hpl
  obtain ⟨vs, H1, I1, r1, v, v2, ev, q1⟩ := hh
  subst ev
  refine ⟨I1.kIn, ?_⟩
  cases r1 with
  | cons rv rn =>
    rename_i v' us'
    cases rn with
    | cons rv2 rn =>
      rename_i v2' us'
      cases rn
      show wpAny _ _ (call (.ref C) [v', v2']) _ _ _
      have W := G.world I1
      have KI := I1.kIn
      obtain ⟨hp, g, dr, tk, os⟩ := s1
      exact wpAny_call (Rp.made T.toXCls KI W (by rw [sizeLine_eq]; exact (show 2 ≤ 16777216 by decide)) (fun s x t0 A R a b c d e f => Rp.init2 T a b c d e f) (by have := hr.dp; omega) fun h' tk' e d M => mkp_of T.toXCls I1 M (relO_m2 rv rv2) q1)
/-- raise C(e) -/
theorem ps_raise1 {pos2 : Pos} {W : WX} (hc : X.calm = true) (T : Rp.X1 X.K C fI cc cda f) (G : XProg X.prog X.mg) (hr : Room k X.A) (tk : Takes X W) (hm : X.mg x = some (.ref C)) (ha : PA X [a] ta) (hg : Gl X x := by rfl) (hdb : (x == ("__debug__" : Str)) = false := by decide)
    (he : starEach (a :: []) X.env = (false, eval a X.env) :: starEach [] X.env := by rfl) (hpl : (backTo pos (starEach [] X.env)).any (·.1) = false := by rfl) :
    PS X (.Raise (some (.Call (.Name x p) [a] [] pos)) none pos2) (fun _ σ H => tMk1 C f ta σ H fun cls d H' => W cls d σ H') := ps_raise hc tk (pmk_x1 T G hr hm ha hg hdb he hpl)
theorem ps_raise2 {pos2 : Pos} {W : WX} (hc : X.calm = true) (T : Rp.X2 X.K C fI cc cda f f2) (G : XProg X.prog X.mg) (hr : Room k X.A) (tk : Takes X W) (hm : X.mg x = some (.ref C)) (ha : PA X [a, b] ta) (hg : Gl X x := by rfl) (hdb : (x == ("__debug__" : Str)) = false := by decide)
    (he : starEach [a, b] X.env = (false, eval a X.env) :: starEach [b] X.env := by rfl) (hpl : (backTo pos (starEach [b] X.env)).any (·.1) = false := by rfl) :
    PS X (.Raise (some (.Call (.Name x p) [a, b] [] pos)) none pos2) (fun _ σ H => tMk2 C f f2 ta σ H fun cls d H' => W cls d σ H') := ps_raise hc tk (pmk_x2 T G hr hm ha hg hdb he hpl)
end
end L2
end

section
set_option Elab.async false
set_option linter.all false
set_option maxRecDepth 100000
set_option maxHeartbeats 2000000
/-! A caught exception kept as a value behind its except suite: its class is asked, its fields are read. -/
namespace L2
open PySem PySem.Spec PyProof.Rows
/-- at a: an exception of the class cls, its own dict at d -/
def ExV (cls : Value) (d : Option Addr) (a : Addr) : HO := .ext fun h => ∃ (oe : Obj) (vs : Array Value), h.get? a = some oe ∧ Zc cls d oe ∧ oe.data = .fields vs
theorem exV_ok {P : Program} {w : World} {H : Hp} {h : Heap} {a : Addr} {cls : Value} {d : Option Addr} {oe : Obj} {vs : Array Value} (e : h.get? a = some oe) (z : Zc cls d oe) (hd : oe.data = .fields vs) : ObjOk P w H h a (ExV cls d a) :=
  ⟨⟨oe, vs, e, z, hd⟩, ⟨oe, e⟩, fun _ _ ⟨o, v, q, r⟩ k => ⟨o, v, k o q, r⟩⟩
section
variable {X : Cx} {pins : List (Addr × Obj)} {σ : St} {H : Hp} {s : Shared}
/-- a new untracked exception is tracked from now on -/
theorem Inv.track (I : Inv X pins σ H s) {a : Addr} {oe : Obj} {vs : Array Value} {cls : Value} {d : Option Addr} (ha : s.heap.get? a = some oe) (hz : Zc cls d oe) (hd : oe.data = .fields vs) (na : H a = none) (n0 : X.s_0.heap.get? a = none) (nL : a ≠ X.env.locals) (nF : a ∉ X.fs)
    (np : ∀ p ∈ X.pn ++ pins, p.1 ≠ a) : Inv X pins σ (upd H a (ExV cls d a)) s := by
  have ne0 : ∀ {b : Addr} {o : Obj}, X.s_0.heap.get? b = some o → b ≠ a := fun {b o} e z => by
    rw [z, n0] at e
    cases e
  have neH : ∀ {b : Addr} {u : HO}, H b = some u → b ≠ a := fun {b u} e z => by
    rw [z, na] at e
    cases e
  refine ⟨I.ok, I.os, I.bare, ⟨fun b o e n hb hx => I.base.keep b o e n hb hx, fun b o e n hb hx => I.base.slot b o e n hb hx, fun b o e n hx => by rw [upd_ne (ne0 e)]; exact I.base.free b o e n hx, fun b o e hx => I.base.there b o e hx,
    fun b xs e => by have q := I.base.tups b xs e; rw [upd_ne (neH q)]; exact q, fun b o u e => by have q := I.base.frzs b o u e; rw [upd_ne (neH q)]; exact q, fun b ps e => by obtain ⟨m, q⟩ := I.base.tbls b ps e; exact ⟨m, by rw [upd_ne (neH q)]; exact q⟩⟩,
    I.loc, I.cell, by rw [upd_ne (Ne.symm nL)]; exact I.free, fun x c e => ?_, fun p hp => ?_, fun b u e => ?_, I.len⟩
  · rw [upd_ne]
    · exact I.freeC x c e
    · intro z
      obtain ⟨v, o, ho, hdc⟩ := I.cell x c e
      rw [z, ha] at ho
      cases ho
      rw [hd] at hdc
      cases hdc
  · obtain ⟨e, n, r⟩ := I.pin p hp
    exact ⟨e, by rw [upd_ne (np p hp)]; exact n, r⟩
  · by_cases hb : b = a
    · subst hb
      rw [upd_same] at e
      cases e
      exact exV_ok ha hz hd
    · rw [upd_ne hb] at e
      exact (I.hok b u e).stay (fun _ _ _ q => q) (fun c q => by rw [upd_ne (neH q)]; exact q) fun c xs q => by rw [upd_ne (neH q)]; exact q
/-- what 'except x as n' wishes, the exception being known behind the suite -/
def wVal (K : PySem.W.Frag) (c : Value) (i : Nat) (ts : Addr → Value → Option Addr → TS) (Wout : WX) (D : Ends) : WX := fun cls d σ H =>
  ∃ b, PySem.W.exmOne K cls c = some b ∧ (b = true → ∀ a, H a = none → ts a cls d { nx := fun σ' H' => D.nx (σ'.set i none) (upd H' a (ExV cls d a)), rt := fun v H' => D.rt v (upd H' a (ExV cls d a)), bk := fun σ' H' => D.bk (σ'.set i none) (upd H' a (ExV cls d a)), ct := fun σ' H' => D.ct (σ'.set i none) (upd H' a (ExV cls d a)) } (σ.set i (some (.ref a))) H) ∧
    (b = false → Wout cls d σ H)
end
section
variable {X : Cx} {x n : Str} {c : Value} {i : Nat} {body suite : List Stmt} {b₀ : Stmt} {np pos pos' : Pos} {tb : WX → TS} {ts : Addr → Value → Option Addr → TS} {Wout : WX}
theorem ps_try_val (hex : ∀ {a : Addr}, a ∉ X.ex) (hs : X.stack = X.env :: X.outer) (hf : X.env.frame = some X.env.locals) (hN : X.N.Nodup) (hi : X.N[i]? = some n) (hln : X.env.kindOf n = some .local) (hc : Names X x c) (tk : Takes X Wout)
    (hb : ∀ (W : WX) (pn : List (Addr × Obj)) (xe : Value → Shared → Prop), Takes (X.tr pn xe) W → PassesOwn (model X.prog X.w) X.A X.env xe → PSs (X.tr pn xe) body (tb W))
    (hsu : ∀ (a : Addr) (oe : Obj) (cls : Value) (d : Option Addr) (pn : List (Addr × Obj)), Zc cls d oe → (∃ vs, oe.data = .fields vs) → PSs (X.suite a ((a, oe) :: pn)) (b₀ :: suite) (ts a cls d)) :
    PS X (.Try body [.ExceptHandler (some (.Name x np)) (some n) (b₀ :: suite) pos'] [] [] pos) (fun D σ H => tb (wVal X.K c i ts Wout D) D σ H) := by
  refine ⟨fun pins s σ H D I h => ?_⟩
  have ok := I.ok
  have hfr : X.A.frames = some (X.env :: X.outer) := by rw [ok.frames, hs]
  have hloc : Loc X.env.scope n := .inl hln
  refine wpAny_Try_except ?_
  refine wpAny_mono ((hb (wVal X.K c i ts Wout D) (X.pn ++ pins) (fun e s₁ => wpAny (model X.prog X.w) X.A (noteFrame e X.env) (fun _ s₂ => wpAny (model X.prog X.w) X.A (setFlight e none) (fun _ s₃ =>
    wpAny (model X.prog X.w) X.A (handleBy e X.env [.ExceptHandler (some (.Name x np)) (some n) (b₀ :: suite) pos']) (SP X pins D) X.xe s₃) X.xe s₂) X.xe s₁) (fun u s' xx => ?_) PassesOwn.looking).run [] s σ H D (I.toTry _) h) (fun f s1 hsp => ?_) (fun e s1 he => he)
  · -- the catch
    obtain ⟨a, B, sI, pins', σ', H', cls, d, rfl, J', nb, up, sky, na, os, ag, b, hb1, hyes, hno⟩ := xx
    have J : Inv X pins σ' H' sI := J'.ofTry ok
    have sky' : Sky B (X.env :: X.outer) a (Zc cls d) X.env.locals s'.heap := by rw [← hs]; exact sky
    show wpAny (model X.prog X.w) X.A (noteFrame (.ref a) X.env) _ _ _
    refine Sky.land Zc.steady hfr hf sky' fun h3 fl3 up3 => ?_
    have J3 : Inv X pins σ' H' { s' with heap := h3 } := J.landed nb fl3.1 (up.trans up3) os ag
    obtain ⟨oe3, vs3, he3, hz3, hd3⟩ := fl3.there
    have notFr : ∀ {h : Heap} {o : Obj} {vs : Array Value}, h.FunFrames B (X.env :: X.outer) → h.get? a = some o → o.data = .fields vs → a ∉ frs (X.env :: X.outer) := fun {h o vs} ff e dd hm => by
      obtain ⟨_, o', e', hnf⟩ := ff.mem hm
      rw [e] at e'; cases e'
      exact hnf _ dd
    have nfr := notFr fl3.2.2.1 he3 hd3
    have nL : a ≠ X.env.locals := fun z => nfr (List.mem_filterMap.mpr ⟨X.env, List.mem_cons_self, by rw [hf, z]⟩)
    have nF : a ∉ X.fs := fun hm => by
      obtain ⟨e, he, q⟩ := List.mem_filterMap.mp hm
      exact nfr (List.mem_filterMap.mpr ⟨e, List.mem_cons_of_mem _ he, q⟩)
    have S3 := J3.suite he3 hd3 na nL nF
    refine wpAny_handleBy_cons (codeAny_handlers_test ?_) (by intro q; cases q)
    have LT : PySem.W.Looks (model X.prog X.w) h3 (typeOf (.ref a)) cls := fun A Q E s k q => wpAny_typeOf_ref (k _ _ he3) (by rw [hz3.1]; exact q)
    have LM := PySem.W.exm_one (M := model X.prog X.w) (J3.kIn) LT hb1
    have test : ∀ {Q : Value → Shared → Prop} {E : Value → Shared → Prop}, Q c { s' with heap := h3 } → wpAny (model X.prog X.w) (X.A.mark (some (.ref a))) (eval (.Name x np) X.env) Q E { s' with heap := h3 } := fun {Q E} q => by
      obtain ⟨hg, hdbg, hm | ⟨hm, hv, hnn⟩⟩ := hc
      · exact ld_glob (X := X.suite a ((a, oe3) :: (X.pn ++ pins))) S3 hg hm q hdbg
      · exact ld_blt (X := X.suite a ((a, oe3) :: (X.pn ++ pins))) S3 hg hm hv q hnn hdbg
    refine test (LM.here ?_)
    cases b with
    | true =>
      refine codeAny_handlers_suite_as ?_
      refine HandSPX.lands_againZ fl3 fun h4 fl4 up4 => ?_
      have J4 : Inv X pins σ' H' { s' with heap := h4 } := J.landed nb fl4.1 ((up.trans up3).trans up4) os ag
      obtain ⟨oe4, vs4, he4, hz4, hd4⟩ := fl4.there
      have S4 := J4.suite he4 hd4 na nL nF
      refine store_ok (X := X.suite a ((a, oe4) :: (X.pn ++ pins))) (v := .ref a) S4 hN hi hloc rfl (fun s5 S5 => ?_) (.inr hln)
      refine wpAny_mono ((hsu a oe4 cls d (X.pn ++ pins) hz4 ⟨_, hd4⟩).run [] s5 _ H' _ S5 (hyes rfl a na)) (fun f s6 hsp => ?_) (fun _ _ z => False.elim z)
      have end_ : ∀ {σ6 : St} {H6 : Hp} {Q : Shared → Prop}, Inv (X.suite a ((a, oe4) :: (X.pn ++ pins))) [] σ6 H6 s6 → (∀ s7, Inv X pins (σ6.set i none) (upd H6 a (ExV cls d a)) s7 → Q s7) →
          wpAny (model X.prog X.w) X.A (do bindName X.env n .none; unbindBehindTheSuite X.env n pos') (fun _ s7 => Q s7) X.xe s6 := fun {σ6 H6 Q} S6 hq => by
        obtain ⟨ha6, hn6, _⟩ := S6.pin (a, oe4) (List.mem_append_left _ List.mem_cons_self)
        have J6 := S6.unsuite ok
        have n0 : sI.heap.get? a = none := by
          cases e : sI.heap.get? a with
          | none => rfl
          | some o =>
            have z := nb a o e (by rw [hs]; exact nfr)
            rw [fl3.2.1] at z
            cases z
        refine gone_ok (J6.track ha6 hz4 hd4 hn6 ?_ nL nF (fun p hp => ?_)) hN hi hln hq
        · cases e : X.s_0.heap.get? a with
          | none => rfl
          | some o =>
            by_cases hx : a ∈ X.ex
            · exact absurd hx hex
            · obtain ⟨o', z⟩ := J.base.there a o e hx
              rw [n0] at z
              cases z
        · intro z
          have q := (J.pin p hp).1
          rw [z, n0] at q
          cases q
      cases f with
      | next =>
        obtain ⟨σ6, H6, S6, q6⟩ := hsp
        exact end_ S6 fun s7 J7 => ⟨_, _, J7, q6⟩
      | brk =>
        obtain ⟨σ6, H6, S6, q6⟩ := hsp
        exact end_ S6 fun s7 J7 => ⟨_, _, J7, q6⟩
      | cont =>
        obtain ⟨σ6, H6, S6, q6⟩ := hsp
        exact end_ S6 fun s7 J7 => ⟨_, _, J7, q6⟩
      | ret u =>
        obtain ⟨v6, σ6, H6, S6, r6, q6⟩ := hsp
        exact end_ S6 fun s7 J7 => ⟨_, _, _, J7, r6, q6⟩
    | false =>
      show wpAny _ X.A (handleBy (.ref a) X.env []) _ _ _
      refine wpAny_handleBy_nil ?_
      obtain ⟨k1, k2, k3, oe, vs, T, oT, ts', he, hz, hd, h1, hr⟩ := id fl3
      unfold PySem.passOn
      refine wpAny_bind (wpAny_field he hd h1 ?_)
      rw [if_neg (show ¬ ((Value.ref T == Value.none) = true) from by simp)]
      have fin : wpAny (model X.prog X.w) X.A (setFlight (.ref a) X.env.frame) (fun _ s4 => wpAny (model X.prog X.w) X.A (throw (.ref a) : Sem Flow) (SP X pins D) X.xe s4) X.xe { s' with heap := h3 } := by
        rw [hf]
        refine HandSPX.setFlight_upZ fl3 fun h4 hh4 up4 => wpAny_throw (tk _ _ ?_)
        exact ⟨a, B, sI, pins, σ', H', cls, d, rfl, J, nb, (up.trans up3).trans up4, .inr (.inr (by rw [hs]; exact hh4)), na, os, ag, hno rfl⟩
      first
        | exact wpAny_bind (wpAny_pure (wpAny_bind fin))
        | exact wpAny_bind fin
  · cases f with
    | next =>
      obtain ⟨σ', H', J', q⟩ := hsp
      exact wpAny_execs_nil ⟨σ', H', J'.ofTry ok, q⟩
    | brk =>
      obtain ⟨σ', H', J', q⟩ := hsp
      exact ⟨σ', H', J'.ofTry ok, q⟩
    | cont =>
      obtain ⟨σ', H', J', q⟩ := hsp
      exact ⟨σ', H', J'.ofTry ok, q⟩
    | ret u =>
      obtain ⟨v, σ', H', J', r, q⟩ := hsp
      exact ⟨v, σ', H', J'.ofTry ok, r, q⟩
end
/-! ### isinstance of such a value, its fields -/
/-- what the class D must say, so that isinstance asks its instances rightly and their fields are read -/
structure ExcD (K : PySem.W.Frag) (D : Addr) : Prop where
  hg : PySem.W.findIn K (.ref D) "__getattribute__" = some (some (.builtin "BaseException.__getattribute__"))
  hk : PySem.W.findIn K (.ref D) "__getattr__" = some none
  hs : PySem.W.subIn K (.ref D) (.type "BaseException") = some true
  hd : PySem.W.hasDictIn K D = true
  ha : PySem.W.findIn K (.ref D) "__class__" = some (some (.builtin "object.__class__"))
  hn : PySem.W.specialIn K (.builtin "object.__class__") "__get__" = some (some (.builtin "getset_descriptor.__get__"))
  ht : PySem.W.takesIn K (.builtin "object.__class__") = some true
  hm : PySem.W.mroIn K D (.type "object") = some true
/-- the type of a value, such an exception or one of the library's kinds -/
inductive TyZ (K : PySem.W.Frag) (H : Hp) : V → Value → Prop where
  | x {x : V} {t : Value} (h : TyX K H x t) : TyZ K H x t
  | e {a D : Addr} {d : Option Addr} (h : H a = some (ExV (.ref D) d a)) (hd : ∀ dd, d = some dd → ∃ fs, H dd = some (.xd fs)) (c : ExcD K D) : TyZ K H (.ref a) (.ref D)
def rIsZ (K : PySem.W.Frag) : List V → Hp → VK → Prop := fun xs H Q => ∃ (x c : V) (t u : Value) (b : Bool), xs = [x, c] ∧ ClsV c u ∧ TyZ K H x t ∧ PySem.W.kitOne K t u = some b ∧ Q (.bl b) H
def rIsZT (K : PySem.W.Frag) : List V → Hp → VK → Prop := fun xs H Q => ∃ (x : V) (tp : Addr) (cs : List V) (t : Value) (us : List Value) (b : Bool), xs = [x, .ref tp] ∧ H tp = some (.tup cs) ∧ Paired ClsV cs us ∧ TyZ K H x t ∧ PySem.W.kitAny K t us = some b ∧ Q (.bl b) H
section
variable {X : Cx} {pins : List (Addr × Obj)} {σ : St} {H : Hp} {s : Shared}
/-- the exception as an instance, its dict told -/
theorem exv_at (I : Inv X pins σ H s) {a D : Addr} {d : Option Addr} (h : H a = some (ExV (.ref D) d a)) (hd : ∀ dd, d = some dd → ∃ fs, H dd = some (.xd fs)) : ∃ oe od, PySem.W.InstAt s.heap a oe D od := by
  obtain ⟨⟨oe, vs, e, z, hv⟩, _, _⟩ := (show ObjOk X.prog X.w H s.heap a (ExV (.ref D) d a) from I.hok a _ h)
  cases d with
  | none => exact ⟨oe, none, e, z.1, by unfold PySem.W.notCls; rw [hv] <;> rfl, by rw [z.2]; trivial⟩
  | some dd =>
    obtain ⟨fs, hf⟩ := hd dd rfl
    have hx : ObjOk X.prog X.w H s.heap dd (.xd fs) := I.hok dd _ hf
    obtain ⟨mA, hns, hr⟩ := hx
    obtain ⟨od, es, ep, ho, _⟩ := hns
    exact ⟨oe, some od, e, z.1, by unfold PySem.W.notCls; rw [hv] <;> rfl, by rw [z.2]; exact ho⟩
theorem kit_ofZ {x : V} {u t : Value} (I : Inv X pins σ H s) (rx : RelV x u) (ty : TyZ X.K H x t) : ∃ P : Heap → Prop, PySem.W.KitX X.K u t P ∧ P s.heap ∧ u ≠ .builtin "__main__.__loader__#opaque" := by
  cases ty with
  | x h => exact kit_of I rx h
  | e h hd c =>
    obtain rfl := (show u = Value.ref _ from rx)
    obtain ⟨oe, od, J⟩ := exv_at I h hd
    refine ⟨_, PySem.W.kitx_exc (ox := oe) (od := od) ?_ c.hg c.hk c.hs c.ha c.hn c.ht c.hm, J, fun z => nomatch z⟩
    obtain ⟨cd, hc, _⟩ := PySem.W.any_some c.hd
    rw [hc]
    rfl
theorem call_isZ : CallR X (.builtin "isinstance") (rIsZ X.K) := by
  intro pins s σ H xs us Q I r h
  obtain ⟨x, c, t, u, b, rfl, k, ty, e, q⟩ := h
  obtain ⟨u1, u2, rfl, r1, r2⟩ := vals2 r
  have e2 := k.eq r2
  subst e2
  obtain ⟨P, Z, p, hx⟩ := kit_ofZ I r1 ty
  exact PySem.W.kia_one Z I.kIn p e hx fun tk => ⟨.bl b, H, I.tok tk, rfl, q⟩
theorem call_isZT : CallR X (.builtin "isinstance") (rIsZT X.K) := by
  intro pins s σ H xs us Q I r h
  obtain ⟨x, tp, cs, t, ws, b, rfl, hT, k, ty, e, q⟩ := h
  obtain ⟨u1, u2, rfl, r1, r2⟩ := vals2 r
  cases (show u2 = Value.ref tp from r2)
  obtain ⟨P, Z, p, hx⟩ := kit_ofZ I r1 ty
  obtain ⟨_, its, rv, o, h1, h2, n, h3⟩ := (show ObjOk X.prog X.w H s.heap tp (.tup cs) from I.hok tp _ hT)
  have e3 := ClsV.all k rv
  subst e3
  obtain ⟨oc, od, dt, sl⟩ := o
  simp only at h2 h3
  subst h2 h3
  exact PySem.W.kia_tup Z I.kIn p h1 e hx fun tk => ⟨.bl b, H, I.tok tk, rfl, q⟩
end
/-- e.f, e such an exception -/
def tXv (K : PySem.W.Frag) (f : Str) (te : TE) : TE := fun σ H Q => te σ H fun x H1 => ∃ (a D dd : Addr) (fs : List (Str × V)) (v : V), x = .ref a ∧ H1 a = some (ExV (.ref D) (some dd) a) ∧ ExcD K D ∧ PySem.W.findIn K (.ref D) f = some none ∧ H1 dd = some (.xd fs) ∧ fs.lookup f = some v ∧ Q v H1
theorem pe_xv {X : Cx} {e : Expr} {te : TE} {pos : Pos} {n : Str} (he : PE X e te) (hb : attributeBase e n X.env (eval e X.env) = eval e X.env := by rfl) : PE X (.Attribute e n pos) (tXv X.K n te) := by
  refine ⟨fun pins s σ H Q I h => ?_⟩
  refine attr_of hb (thn (he.run pins s σ H _ I h) fun u s1 hh => ?_)
  obtain ⟨x, H1, I1, rx, a, D, dd, fs, v, ex, hex, T, hno, ea, l, q⟩ := hh
  subst ex
  obtain rfl : u = Value.ref a := rx
  obtain ⟨⟨oe, vs, e, z, hv⟩, _, _⟩ := (show ObjOk X.prog X.w H1 s1.heap a (ExV (.ref D) (some dd) a) from I1.hok a _ hex)
  have hx : ObjOk X.prog X.w H1 s1.heap dd (.xd fs) := I1.hok dd _ ea
  obtain ⟨mA, hns, hr⟩ := hx
  obtain ⟨od, ho, hl⟩ := lookIn_ns hns
  obtain ⟨u, hu, ru⟩ := RelO.some_of (v := v) (o := mA n) (by rw [← l]; exact hr n)
  have J : PySem.W.InstAt s1.heap a oe D (some od) := ⟨e, z.1, by unfold PySem.W.notCls; rw [hv] <;> rfl, by rw [z.2]; exact ho⟩
  exact HandSPX.exc_get I1.kIn J T.hg T.hk T.hs (PySem.W.findObj_own T.hd hno rfl (by rw [hl, hu])) (handed_of ru) ⟨v, H1, I1.tok _, ru, q⟩
end L2
end

section
set_option Elab.async false
set_option linter.all false
set_option maxRecDepth 100000
set_option maxHeartbeats 2000000
/-! A lambda with one parameter whose default is 0 (lambda a1=0: ..), handed to a def that calls it without arguments. The proofs are HandS.Lambda's and KE.KLam's, turned to a function with defaults. -/
namespace PySem.W
open PySem PySem.Spec PySem.Calls PyProof.Rows
abbrev klaD_fn (name qual : Str) (params : Arguments) (body : Expr) (scope : Scope) (cl : List (Str × Addr)) (dV pm cdv ct : Value) : FuncData := { kla_fn name qual params body scope cl pm cdv ct with defaults := dV }
abbrev klaD_obj (name qual : Str) (params : Arguments) (body : Expr) (scope : Scope) (clos : List (Str × Addr)) (dV pm : Value) (c' : Addr) (ctv : Value) : Obj := { cls := .type "function", data := .func (klaD_fn name qual params body scope clos dV pm (.ref c') ctv) }
section
variable {M : Model} {A : Around} {E : Value → Shared → Prop} {s : Shared} {name qual : Str} {params : Arguments} {body : Expr} {scope : Scope} {env : Env} {c P : Addr} {ps : Array Value} {pos : Pos} {firstLine : Nat} {mg : Str → Option Value}
  {clos : List (Str × Addr)} {dV : Value} {Q : Value → Shared → Prop}
theorem lamD_tail (hcl : closureFor scope env = pure clos) (hge0 : env.globals = mainGlobals) (hg : s.heap.Ns mainGlobals mg) (hcode : env.code = .ref c) (C : CodeHd s.heap c P) (hP : s.heap.get? P = some (tabObj ps)) (ht : TriplesOk ps.toList)
    (hnf : codeAmong pos ps.toList = none) (hgP : mainGlobals ≠ P) (hb : s.heap.BuiltinsAt mg P)
    (h : ∀ c' ctv h' tk, Heap.ExtBut P s.heap h' → s.heap.objs.size ≤ c' → c' < h'.objs.size → h'.CodeRec (.ref c') qual → h'.get? P = some (tabObj (ps ++ #[rawInt pos.line, rawInt pos.col, .ref c'])) →
      Q (.ref h'.objs.size) { s with heap := h'.push (klaD_obj name qual params body scope clos dV ((mg "__name__").getD .none) c' ctv), toks := tk }) :
    wpAny M A (makeTail name qual params (.expr body) scope env dV .none none pos firstLine) Q E s := by
  obtain ⟨bm, ob, hbm, hne0, _, hneP, hbo, hcls, hdict, hdata⟩ := hb
  unfold makeTail
  rw [hcl, hge0]
  refine wpAny_bind (wpAny_pure ?_)
  cases clos with
  | nil =>
    simp only [List.isEmpty_nil, if_true]
    refine wpAny_bind (wpAny_pure ?_)
    refine wpAny_bind (wpAny_functionCodeX hcode (C.code hP ht) (C.tab hP) hnf fun c' h' tk hx hge hlt _ hrec htb _ => ?_)
    have hg' := hg.extBut hx hgP
    refine wpAny_bind (wpAny_builtinsFor hg' hbm hne0 (hx _ _ hneP hbo) hcls hdict hdata ?_)
    refine wpAny_bind (wpAny_nsGet hg' ?_)
    exact wpAny_bind (wpAny_pure (wpAny_newObj_type (h c' .none h' tk hx hge hlt hrec htb.2) (by size_fits)))
  | cons q r =>
    simp only [List.isEmpty_cons, Bool.false_eq_true, if_false]
    refine wpAny_bind (wpAny_newTextTuple ?_)
    refine wpAny_bind (wpAny_functionCodeX hcode ((C.keeps fun b o e => Heap.get?_push_of_some _ e).code (Heap.get?_push_of_some _ hP) ht) ((C.keeps fun b o e => Heap.get?_push_of_some _ e).tab (Heap.get?_push_of_some _ hP)) hnf fun c' h' tk hx hge hlt _ hrec htb _ => ?_)
    have hg' := (hg.push _).extBut hx hgP
    have hx' : Heap.ExtBut P s.heap h' := fun b o hb' e => hx b o hb' (Heap.get?_push_of_some _ e)
    have hge' : s.heap.objs.size ≤ c' := Nat.le_trans (by rw [Heap.size_push]; omega) hge
    refine wpAny_bind (wpAny_builtinsFor hg' hbm hne0 (hx' _ _ hneP hbo) hcls hdict hdata ?_)
    refine wpAny_bind (wpAny_nsGet hg' ?_)
    exact wpAny_bind (wpAny_pure (wpAny_newObj_type (h c' _ h' tk hx' hge' hlt hrec htb.2) (by size_fits)))
theorem lamD_tailHit {cv : Value} (hcl : closureFor scope env = pure clos) (hge0 : env.globals = mainGlobals) (hg : s.heap.Ns mainGlobals mg) (hcode : env.code = .ref c) (C : CodeHd s.heap c P) (hP : s.heap.get? P = some (tabObj ps)) (ht : TriplesOk ps.toList)
    (hf : codeAmong pos ps.toList = some cv) (hb : s.heap.BuiltinsAt mg P)
    (h : ∀ (ctv : Value) (h' : Heap) (tk : Tok), (∀ b o, s.heap.get? b = some o → h'.get? b = some o) → s.heap.objs.size ≤ h'.objs.size →
      Q (.ref h'.objs.size) { s with heap := h'.push { cls := .type "function", data := .func (klaD_fn name qual params body scope clos dV ((mg "__name__").getD .none) cv ctv) }, toks := tk }) :
    wpAny M A (makeTail name qual params (.expr body) scope env dV .none none pos firstLine) Q E s := by
  obtain ⟨bm, ob, hbm, hne0, _, hneP, hbo, hcls, hdict, hdata⟩ := hb
  unfold makeTail
  rw [hcl, hge0]
  refine wpAny_bind (wpAny_pure ?_)
  cases clos with
  | nil =>
    simp only [List.isEmpty_nil, if_true]
    refine wpAny_bind (wpAny_pure ?_)
    refine wpAny_bind (wpAny_functionCode_hit hcode (C.code hP ht) hf ?_)
    refine wpAny_bind (wpAny_builtinsFor hg hbm hne0 hbo hcls hdict hdata ?_)
    refine wpAny_bind (wpAny_nsGet hg ?_)
    exact wpAny_bind (wpAny_pure (wpAny_newObj_type (h .none s.heap s.toks (fun _ _ e => e) (Nat.le_refl _)) (by size_fits)))
  | cons q r =>
    simp only [List.isEmpty_cons, Bool.false_eq_true, if_false]
    refine wpAny_bind (wpAny_newTextTuple ?_)
    refine wpAny_bind (wpAny_functionCode_hit hcode ((C.keeps fun b o e => Heap.get?_push_of_some _ e).code (Heap.get?_push_of_some _ hP) ht) hf ?_)
    refine wpAny_bind (wpAny_builtinsFor (hg.push _) hbm hne0 (Heap.get?_push_of_some _ hbo) hcls hdict hdata ?_)
    refine wpAny_bind (wpAny_nsGet (hg.push _) ?_)
    have hsz : ∀ oT : Obj, s.heap.objs.size ≤ (s.heap.push oT).objs.size := fun oT => by rw [Heap.size_push]; omega
    exact wpAny_bind (wpAny_pure (wpAny_newObj_type (h _ _ s.toks (fun b o e => Heap.get?_push_of_some _ e) (hsz _)) (by size_fits)))
end
end PySem.W
namespace LamX
open PySem PySem.Spec PyProof.Rows L2
/-- the tuple of the defaults -/
abbrev zeroTup (t : Tok) : Obj := { cls := .type "tuple", data := .seq [Value.int 0 t].toArray }
/-- names of its own that the def around lacks, captured ones, globals -/
structure LamD (N : List Str) (sc scope : Scope) : Prop where
  kind : scope.kind = .function
  co : scope.isCoroutine = false
  gen : scope.isGenerator = false
  own : ∀ y ∈ scope.names, (y.2 = .local → y.1 ∉ N) ∧ y.2 ≠ .cell
  free : ∀ y ∈ scope.names, y.2 = .free → sc.names.lookup y.1 = some .cell ∨ sc.names.lookup y.1 = some .free
def lamDB (N : List Str) (sc scope : Scope) : Bool :=
  decide (scope.kind = .function) && !scope.isCoroutine && !scope.isGenerator && scope.names.all fun y => (!decide (y.2 = .local) || !decide (y.1 ∈ N)) && !decide (y.2 = .cell) && (!decide (y.2 = .free) || decide (sc.names.lookup y.1 = some .cell) || decide (sc.names.lookup y.1 = some .free))
theorem lamD_by {N : List Str} {sc scope : Scope} (h : lamDB N sc scope = true) : LamD N sc scope := by
  unfold lamDB at h
  simp only [Bool.and_eq_true, Bool.or_eq_true, Bool.not_eq_true', decide_eq_true_eq, decide_eq_false_iff_not, List.all_eq_true] at h
  obtain ⟨⟨⟨h1, h2⟩, h3⟩, h4⟩ := h
  refine ⟨h1, h2, h3, fun y hy => ⟨fun e => ?_, (h4 y hy).1.2⟩, fun y hy e => ?_⟩
  · rcases (h4 y hy).1.1 with z | z
    · exact absurd e z
    · exact z
  · rcases (h4 y hy).2 with (z | z) | z
    · exact absurd e z
    · exact .inl z
    · exact .inr z
theorem LamD.has {X : Cx} {scope : Scope} (L : LamD X.N X.env.scope scope) (ok : X.Ok) : ∀ y ∈ scope.names, y.2 = .free → ∃ c, X.env.cells.lookup y.1 = some c := fun y hy e => by
  rcases L.free y hy e with k | k
  · exact ok.has _ (.inl k)
  · exact ok.has _ (.inr k)
section
variable {X : Cx} {pins : List (Addr × Obj)} {σ : L2.St} {H : Hp} {s : Shared}
theorem lamD_makeT {dV : Value} {T : List (Addr × Str)} {c P : Addr} {params : Arguments} {body : Expr} {scope : Scope} {pos : Pos} {E : Value → Shared → Prop} {Q : Value → Shared → Prop} (I : Inv X pins σ H s) (TB : TabB X.base X.mg c P) (hcode : X.env.code = .ref c)
    (hm : (P, X.env.qual ++ "<lambda>") ∈ T) (hu : ∀ p ∈ T, p.1 = P → p.2 = X.env.qual ++ "<lambda>") (hT : Tabs T H) (hfree : ∀ y ∈ scope.names, y.2 = .free → ∃ c, X.env.cells.lookup y.1 = some c)
    (h : ∀ (f c' : Addr) (pm ctv : Value) (H1 : Hp) (s' : Shared), Inv X pins σ H1 s' → (∀ b o, H b = none → s.heap.get? b = some o → s'.heap.get? b = some o ∧ H1 b = none) → ExtN H H1 → Tabs T H1 →
      s'.heap.get? f = some (PySem.W.klaD_obj "<lambda>" (X.env.qual ++ "<lambda>") params body scope (cloFrom X.env.cells scope.names []) dV pm c' ctv) → H1 f = none → f ∉ frs X.stack → H1 c' = some (CodeO c' (X.env.qual ++ "<lambda>")) → Q (.ref f) s') :
    wpAny (model X.prog X.w) X.A (makeTail "<lambda>" (X.env.qual ++ "<lambda>") params (.expr body) scope X.env dV .none none pos pos.line) Q E s := by
  obtain ⟨ps, hP, ht, ha⟩ := hT _ hm
  have bP : s.heap.BuiltinsAt X.mg P := TB.bm.keeps I.bk
  have hP' : s.heap.get? P = some { cls := .none, data := .fields ps } := I.hok P _ hP
  have nofr : ∀ f, s.heap.objs.size ≤ f → f ∉ frs X.stack := fun f hf z => by
    rcases List.mem_cons.mp (I.stkSub _ z) with e | e
    · have h1 := I.lt
      rw [← e] at h1
      exact Nat.lt_irrefl _ (Nat.lt_of_lt_of_le h1 hf)
    · exact I.nofs hf e
  cases hc : codeAmong pos ps.toList with
  | none =>
    refine PySem.W.lamD_tail (mg := X.mg) (c := c) (P := P) (ps := ps) (closure_ok hfree) I.ok.glob (I.mod.glob.keeps I.bk) hcode (TB.code.keeps I.bk) hP' ht hc TB.gP bP fun c' ctv h' tk hx hge hlt hrec htb => ?_
    obtain ⟨c2, oc, vs, t, e2, hoc, hd, hv⟩ := hrec
    cases e2
    have hsz : s.heap.objs.size ≤ h'.objs.size := Nat.le_trans hge (Nat.le_of_lt hlt)
    have nC : H c' = none := I.hok.fresh hge
    have I1 := inv_table (t' := tk) (more := #[rawInt pos.line, rawInt pos.col, .ref c']) (h' := h'.push (PySem.W.klaD_obj "<lambda>" (X.env.qual ++ "<lambda>") params body scope (cloFrom X.env.cells scope.names []) dV ((X.mg "__name__").getD .none) c' ctv)) I hP
      (fun b o hb e => Heap.get?_push_of_some _ (hx b o hb e)) (Heap.get?_push_of_some _ htb) hge ⟨oc, vs, t, Heap.get?_push_of_some _ hoc, hd, hv⟩
    have hE : ExtN H (upd (upd H P (.tbl (ps ++ #[rawInt pos.line, rawInt pos.col, .ref c']))) c' (CodeO c' (X.env.qual ++ "<lambda>"))) := fun b o e n => by
      rw [upd_ne (ne_of_none e nC), upd_ne (fun z => n ps (Option.some.inj (e.symm.trans (by rw [z]; exact hP))))]
      exact e
    have eL : (ps ++ #[rawInt pos.line, rawInt pos.col, .ref c']).toList = ps.toList ++ [rawInt pos.line, rawInt pos.col, .ref c'] := by simp
    refine h h'.objs.size c' ((X.mg "__name__").getD .none) ctv _ _ I1 (fun b o n e => ?_) hE (fun p hp => ?_) (Heap.get?_push_size _ rfl) ?_ (nofr _ hsz) upd_same
    · have l := Heap.lt_size e
      refine ⟨Heap.get?_push_of_some _ (hx b o (fun z => by rw [z, hP] at n; cases n) e), ?_⟩
      rw [upd_ne (fun z => by rw [z] at l; exact absurd (Nat.lt_of_lt_of_le l hge) (Nat.lt_irrefl _)), upd_ne (fun z => by rw [z, hP] at n; cases n)]
      exact n
    · by_cases hb : p.1 = P
      · rw [hu p hp hb, hb]
        refine ⟨_, by rw [upd_ne (ne_of_none hP nC), upd_same], by rw [eL]; exact PySem.TriplesOk_snoc _ _ _ _ ht, fun p' cv hcv => ?_⟩
        rw [eL] at hcv
        rcases among_app _ ht hcv with z | z
        · obtain ⟨c0, e1, e2⟩ := ha p' cv z
          exact ⟨c0, e1, hE _ _ e2 codeO_ne⟩
        · exact ⟨c', z, upd_same⟩
      · obtain ⟨ps', a1, a2, a3⟩ := hT p hp
        refine ⟨ps', by rw [upd_ne (ne_of_none a1 nC), upd_ne hb]; exact a1, a2, fun p' cv hcv => ?_⟩
        obtain ⟨c0, e1, e2⟩ := a3 p' cv hcv
        exact ⟨c0, e1, hE _ _ e2 codeO_ne⟩
    · have n1 : h'.objs.size ≠ c' := Nat.ne_of_gt hlt
      have n2 : h'.objs.size ≠ P := Nat.ne_of_gt (Nat.lt_of_lt_of_le (Heap.lt_size hP') hsz)
      rw [upd_ne n1, upd_ne n2]
      exact I.hok.fresh hsz
  | some cv =>
    obtain ⟨c', e, hco⟩ := ha pos cv hc
    subst e
    refine PySem.W.lamD_tailHit (mg := X.mg) (c := c) (P := P) (ps := ps) (closure_ok hfree) I.ok.glob (I.mod.glob.keeps I.bk) hcode (TB.code.keeps I.bk) hP' ht hc bP fun ctv h' tk hx hsz => ?_
    have I1 : Inv X pins σ H { s with heap := h'.push (PySem.W.klaD_obj "<lambda>" (X.env.qual ++ "<lambda>") params body scope (cloFrom X.env.cells scope.names []) dV ((X.mg "__name__").getD .none) c' ctv), toks := tk } := I.kept fun b o e => Heap.get?_push_of_some _ (hx b o e)
    exact h h'.objs.size c' ((X.mg "__name__").getD .none) ctv H _ I1 (fun b o n e => ⟨Heap.get?_push_of_some _ (hx b o e), n⟩) (ExtN.refl H) hT (Heap.get?_push_size _ rfl) (I.hok.fresh hsz) (nofr _ hsz) hco

theorem lamD_make {T : List (Addr × Str)} {c P : Addr} {params : Arguments} {body : Expr} {scope : Scope} {pos : Pos} {E : Value → Shared → Prop} {Q : Value → Shared → Prop} (I : Inv X pins σ H s) (TB : TabB X.base X.mg c P) (hcode : X.env.code = .ref c)
    (hm : (P, X.env.qual ++ "<lambda>") ∈ T) (hu : ∀ p ∈ T, p.1 = P → p.2 = X.env.qual ++ "<lambda>") (hT : Tabs T H) (hd0 : ∃ j p, params.defaults = [.Constant (.int 0) j p]) (hk0 : params.kw_defaults = []) (hfree : ∀ y ∈ scope.names, y.2 = .free → ∃ c, X.env.cells.lookup y.1 = some c)
    (h : ∀ (f c' T0 : Addr) (tk0 : Tok) (pm ctv : Value) (H1 : Hp) (s' : Shared), Inv X pins σ H1 s' → s'.heap.get? T0 = some (zeroTup tk0) → H1 T0 = none → T0 ∉ frs X.stack → ExtN H H1 → Tabs T H1 →
      s'.heap.get? f = some (PySem.W.klaD_obj "<lambda>" (X.env.qual ++ "<lambda>") params body scope (cloFrom X.env.cells scope.names []) (.ref T0) pm c' ctv) → H1 f = none → f ∉ frs X.stack → H1 c' = some (CodeO c' (X.env.qual ++ "<lambda>")) → Q (.ref f) s') :
    wpAny (model X.prog X.w) X.A (eval (.Lambda params body scope pos) X.env) Q E s := by
  obtain ⟨j, p, hd⟩ := hd0
  obtain ⟨po, ar, va, ko, kd, kw, df⟩ := params
  obtain rfl : df = _ := hd
  obtain rfl : kd = _ := hk0
  rw [arm_eval_Lambda]
  show wpAny _ _ (do let dv ← evalAll [eval (.Constant (.int 0) j p) X.env]; let kdv ← holding dv (evalAllOpt []); makeFunction "<lambda>" (X.env.qual ++ "<lambda>") _ (.expr body) scope X.env dv kdv [] pos pos.line) _ _ _
  refine wpAny_bind (wpAny_evalAll_cons (wpAny_Constant_int (wpAny_evalAll_nil ?_)))
  refine wpAny_bind (wpAny_holding (wpAny_pure ?_))
  rw [makeFunction_eq]
  simp only [List.zip_nil_right, List.filterMap_nil, List.isEmpty_nil, if_true, pure_bind, List.isEmpty_cons, Bool.false_eq_true, if_false]
  refine wpAny_bind (wpAny_newTextTuple ?_)
  have hsz : s.heap.objs.size ≤ s.heap.objs.size := Nat.le_refl _
  have I1 : Inv X pins σ H { s with heap := s.heap.push (zeroTup s.toks), toks := s.toks + 1 } := I.kept fun b o e => Heap.get?_push_of_some _ e
  have hg : (s.heap.push (zeroTup s.toks)).get? s.heap.objs.size = some (zeroTup s.toks) := Heap.get?_push_size _ rfl
  have nfr : s.heap.objs.size ∉ frs X.stack := fun z => by
    rcases List.mem_cons.mp (I.stkSub _ z) with e | e
    · have h1 := I.lt
      rw [← e] at h1
      exact Nat.lt_irrefl _ h1
    · exact I.nofs hsz e
  refine lamD_makeT (s := { s with heap := s.heap.push (zeroTup s.toks), toks := s.toks + 1 }) I1 TB hcode hm hu hT hfree fun f c' pm ctv H1 s' J kp eN T1 hf hfn hfr hco => ?_
  have n0 : H s.heap.objs.size = none := I.hok.fresh hsz
  obtain ⟨hT0, n1⟩ := kp _ _ n0 hg
  exact h f c' s.heap.objs.size s.toks pm ctv H1 s' J hT0 n1 nfr eN T1 hf hfn hfr hco
end
section
variable {X : Cx} {pins : List (Addr × Obj)} {σ : L2.St} {H HZ : Hp} {s s1 : Shared}
theorem lamD_start {bs : List (Str × Value)} {A : Around} {outer : List Env} {E : XK} {scope : Scope} {f c' : Addr} {h₁ : Heap} {tk : Nat} (I : Inv X pins σ H s) (L : LamD X.N X.env.scope scope) (e0 : Env0 X.prog X.w X.K X.mg X.base A outer s1 HZ) (hd : A.handled = none)
    (un : Un (frs X.stack) [] H HZ s.heap s1.heap) (hns : h₁.Ns s1.heap.objs.size fun y => bs.reverse.lookup y) (kp : ∀ b o, s1.heap.get? b = some o → h₁.get? b = some o) :
    Inv (lamCx X A outer s1 HZ E scope f c') [] σ HZ { s1 with heap := h₁, toks := tk } := by
  have hfree := L.has I.ok
  have cm : ∀ {y c}, (cloFrom X.env.cells scope.names []).lookup y = some c → X.env.cells.lookup y = some c := fun {y c} e => by
    rcases cloFrom_mem (PySem.mem_of_lookup e) with hm | ⟨h1, h2⟩
    · cases hm
    · obtain ⟨c1, hc⟩ := hfree _ h1 rfl
      have hc : X.env.cells.lookup y = some c1 := hc
      have e2 : c = c1 := by
        rw [h2, hc] <;> rfl
      rw [e2]
      exact hc
  have look : ∀ {y}, scope.names.lookup y = some .free → ∃ c, (cloFrom X.env.cells scope.names []).lookup y = some c := fun {y} hl => by
    have hy : (y, NameKind.free) ∈ scope.names := PySem.mem_of_lookup hl
    exact mem_lookup (cloFrom_has (cells := X.env.cells) (acc := []) hy)
  have cellK : ∀ {c : Addr} {v : Option Value}, H c = none → s.heap.IsCell c v → h₁.IsCell c v := fun {c v} n ⟨o, ho, hd⟩ => by
    obtain ⟨sl, q⟩ := un.any ho n (by simp)
    exact ⟨_, kp _ _ q, hd⟩
  have noA : ∀ b : Addr, b ∉ (lamCx X A outer s1 HZ E scope f c').ex := fun b z => absurd (show b ∈ ([] : List Addr) from z) (by simp)
  refine ⟨⟨e0.mod, L.kind, rfl, rfl, Nat.le_refl _, fun y z c e1 e2 => I.ok.inj y z c (cm e1) (cm e2), fun y hy => ?_, fun y c z _ => ?_, fun _ => hd, Around.frames_deeper e0.frames, .inr ⟨rfl, rfl⟩, fun b z => absurd z (noA b), e0.bs, e0.bsz, fun b _ _ => noA b,
      fun b z => absurd z (noA b), e0.funs, e0.frf⟩,
    rfl, e0.bare, Un.kept kp, ⟨_, hns, fun i y v e1 e2 e3 => ?_⟩, fun y c e => ?_, e0.hok.fresh (Nat.le_refl _), fun y c e => ?_, fun q hq => absurd (show q ∈ ([] : List (Addr × Obj)) ++ [] from hq) (by simp), e0.hok.kept kp, I.len⟩
  · have hy : scope.names.lookup y = some .cell ∨ scope.names.lookup y = some .free := hy
    rcases hy with hy | hy
    · exact absurd rfl (L.own _ (PySem.mem_of_lookup hy)).2
    · exact look hy
  · have z : false = true := z
    cases z
  · have e3 : Vis scope y := e3
    rcases e3 with k | k | k
    · exact absurd (List.mem_of_getElem? e1) ((L.own _ (PySem.mem_of_lookup k)).1 rfl)
    · exact absurd rfl (L.own _ (PySem.mem_of_lookup k)).2
    · obtain ⟨m, hn, hl⟩ := I.loc
      have hvis : Vis X.env.scope y := (L.free _ (PySem.mem_of_lookup k) rfl).elim (fun k => .inr (.inl k)) (fun k => .inr (.inr k))
      obtain ⟨w', r, q⟩ := hl i y v e1 e2 hvis
      obtain ⟨c2, h2⟩ := look k
      refine ⟨w', r, .inr ⟨.inr k, c2, h2, ?_⟩⟩
      have c1 := cm h2
      rcases q with ⟨k', _⟩ | ⟨_, c3, e', z⟩
      · have k' : X.env.scope.names.lookup y = some .local := k'
        rcases L.free _ (PySem.mem_of_lookup k) rfl with k2 | k2 <;> rw [show X.env.scope.names.lookup y = _ from k2] at k' <;> cases k'
      · rw [c1] at e'
        cases e'
        exact cellK (I.freeC y _ c1) z
  · obtain ⟨w', z⟩ := I.cell y c (cm e)
    exact ⟨w', cellK (I.freeC y c (cm e)) z⟩
  · obtain ⟨v, o, ho, hd⟩ := I.cell y c (cm e)
    exact un.free c o ho (I.freeC y c (cm e)) (by simp)
/-- the def that calls what it got: a calls it, the way out told of the very state; TT: what it makes of the lambda's reading -/
def GivesToS (X : Cx) (Ng : List Str) (x : Str) (sg : Scope) (g : Addr) (cdg : Value) (bg : List Stmt) (a : Str) (q : Str) (TT : (XK → Hp → VK → Prop) → Hp → VK → Prop) : Prop :=
  ∀ (f c' : Addr) (s : Shared) (H : Hp) (Q : VK) (tl : XK → Hp → VK → Prop),
    (∀ (W : WX) (pn : List (Addr × Obj)) (xe : Value → Shared → Prop) (Eσ : L2.St → XK) (p1 p2 : Pos), Takes ((cxOf C8.CX0 X.prog X.w X.K X.mg X.base Ng x sg g cdg X.A X.stack s H C8.E0).tr pn xe) W → (∀ cls d σ' H', Eσ σ' cls d H' → W cls d σ' H') →
      PE ((cxOf C8.CX0 X.prog X.w X.K X.mg X.base Ng x sg g cdg X.A X.stack s H C8.E0).tr pn xe) (.Call (.Name a p1) [] [] p2) (fun σZ HZ R => σZ[0]? = some (some (.ref f)) ∧ HZ c' = some (CodeO c' q) ∧ tl (Eσ σZ) HZ R)) →
    H c' = some (CodeO c' q) → TT tl H Q →
    ∃ t, PSs (cxOf C8.CX0 X.prog X.w X.K X.mg X.base Ng x sg g cdg X.A X.stack s H C8.E0).nox bg t ∧ t { nx := fun _ H' => Q .non H', rt := Q } (L2.start Ng [.ref f]) H
theorem pe_actD {T0 : Addr} {tk0 : Tok} {nm : Str} {CXg : CXT} {Eg : XK} {Ng : List Str} {qg : Str} {sg : Scope} {g f c' : Addr} {cdg pm ctv : Value} {params : Arguments} {body : Expr} {scope : Scope} {k i : Nat} {a : Str} {pn : List (Addr × Obj)} {xe : Value → Shared → Prop} {W : WX} {E : L2.St → XK} {tb : XK → TE} {p1 p2 : Pos}
    (I : Inv X pins σ H s) (L : LamD X.N X.env.scope scope) (hf : s.heap.get? f = some (PySem.W.klaD_obj "<lambda>" (X.env.qual ++ "<lambda>") params body scope (cloFrom X.env.cells scope.names []) (.ref T0) pm c' ctv)) (hfn : H f = none) (hfr : f ∉ frs X.stack)
    (hbind : ∃ k, bindArgs (PySem.W.klaD_fn "<lambda>" (X.env.qual ++ "<lambda>") params body scope (cloFrom X.env.cells scope.names []) (.ref T0) pm (.ref c') ctv) ⟨[], []⟩ = seqItems? (.ref T0) >>= k ∧ k (some #[.int 0 tk0]) = pure [(nm, .int 0 tk0)])
    (hT : s.heap.get? T0 = some (zeroTup tk0)) (hTn : H T0 = none) (hTr : T0 ∉ frs X.stack) (hloc : scope.names.lookup nm = some .local)
    (tk : Takes ((cxOf CXg X.prog X.w X.K X.mg X.base Ng qg sg g cdg X.A X.stack s H Eg).tr pn xe) W) (hW : ∀ cls d σ' H', E σ' cls d H' → W cls d σ' H') (hr : Room (k + 1) (X.A.deeper (envOfC qg sg s.heap.objs.size g cdg)))
    (hbody : ∀ (A : Around) (outer : List Env) (s : Shared) (H : Hp) (E : XK), Room k (A.deeper (lamEnv X scope s.heap.objs.size f c')) → PE (lamCx X A outer s H E scope f c') body (tb E))
    (hN : Ng[i]? = some a) (hv : Vis sg a) (hd : (a == ("__debug__" : Str)) = false := by decide) (hcd : (a == ("__classdict__" : Str)) = false := by decide) :
    PE ((cxOf CXg X.prog X.w X.K X.mg X.base Ng qg sg g cdg X.A X.stack s H Eg).tr pn xe) (.Call (.Name a p1) [] [] p2)
      (fun σZ HZ Q => σZ[i]? = some (some (.ref f)) ∧ HZ c' = some (CodeO c' (X.env.qual ++ "<lambda>")) ∧ tb (E σZ) σ HZ Q) := by
  refine ⟨fun pinsZ sZ σZ HZ Q IZ h => ?_⟩
  obtain ⟨hs, hc, ht⟩ := h
  refine wpAny_Call_Name_kw (thn ((pe_var (pos := p1) (i := i) hN hv hd hcd).run pinsZ sZ σZ HZ (fun v H1 => v = .ref f ∧ H1 = HZ) IZ ⟨.ref f, hs, rfl, rfl⟩) fun u s1 ⟨v, H1, I1, r1, q1⟩ => ?_)
  obtain ⟨ev, eH⟩ := q1
  subst ev
  rw [eH] at I1
  obtain rfl : u = Value.ref f := r1
  have of1 : s1.heap.get? f = some (PySem.W.klaD_obj "<lambda>" (X.env.qual ++ "<lambda>") params body scope (cloFrom X.env.cells scope.names []) (.ref T0) pm c' ctv) := I1.base.keep f _ hf hfn hfr (fun z => nomatch (show f ∈ ([] : List Addr) from z))
  refine PySem.W.callWith_F0 ⟨_, _, _, _, of1⟩ ?_
  have oT1 : s1.heap.get? T0 = some (zeroTup tk0) := I1.base.keep T0 _ hT hTn hTr (fun z => nomatch (show T0 ∈ ([] : List Addr) from z))
  obtain ⟨kk, hb1, hb2⟩ := hbind
  have un : Un (frs X.stack) [] H HZ s.heap s1.heap := I1.base
  obtain ⟨⟨oc, vs, t, hoc, hdc, hvc⟩, _, _⟩ := I1.hok c' _ hc
  have rc : codeAny (model X.prog X.w) (X.A.deeper (envOfC qg sg s.heap.objs.size g cdg)) (.call (.ref f) ⟨[], []⟩) (CR (L2.CX X.prog X.w) (envOfC qg sg s.heap.objs.size g cdg :: X.stack) X.prog X.w HZ s1 Q (E σZ)) s1 := by
    refine PySem.W.kla_callFunE hr.depth of1 rfl L.co L.gen rfl ⟨c', oc, vs, t, rfl, hoc, hdc, hvc⟩ ?_
    rw [hb1]
    refine wpAny_bind (wpAny_seqItems oT1 rfl ?_)
    rw [hb2]
    refine wpAny_pure (wpAny_newFunctionEnv (fun y hy => (L.own y hy).2) (fun y hy => (List.mem_cons.mp hy).elim (fun e => by subst e; exact hloc) (fun z => nomatch z)) (fun h₁ hns hsb => ⟨I1.nolimit.fresh _ hsb, ?_⟩) L.kind)
    show codeAny _ _ (.expr body (lamEnv X scope s1.heap.objs.size f c')) _ _
    have kp : ∀ b o, s1.heap.get? b = some o → h₁.get? b = some o := fun b o e => hsb.extBut b o (Nat.ne_of_lt (Heap.lt_size e)) (Heap.get?_push_of_some _ e)
    have J : Inv (lamCx X (X.A.deeper (envOfC qg sg s.heap.objs.size g cdg)) (envOfC qg sg s.heap.objs.size g cdg :: X.stack) s1 HZ (E σZ) scope f c') [] σ HZ { s1 with heap := h₁, toks := s1.toks + ([(nm, Value.int 0 tk0)] : List (Str × Value)).length } :=
      lamD_start I L I1.env0 hr.hd un hns kp
    refine PySem.W.kla_codeExpr (wpAny_mono ((hbody _ _ s1 HZ (E σZ) (hr.deeper _)).run [] _ _ HZ Q J ht) (fun v s' hq => ?_) fun e s' hq => hq)
    obtain ⟨w', H', J', rv, q⟩ := hq
    exact ⟨w', H', J'.os, J'.bare, J'.base, J'.hok, rv, q⟩
  refine wpAny_call (codeAny_mono rc fun r s' hq => ?_)
  cases r with
  | error e => exact tk e s' (XE.of_call I1 (fun cls d H' h => hW cls d σZ H' h) hq)
  | ok fl =>
    cases fl with
    | ret u => exact I1.after hq
    | next => exact False.elim hq
    | brk => exact False.elim hq
    | cont => exact False.elim hq
end
section
variable {X : Cx}
theorem pe_lamcallD {nm : Str} {T : List (Addr × Str)} {TT : (XK → Hp → VK → Prop) → Hp → VK → Prop} {x a : Str} {g c P : Addr} {k : Nat} {pg : Arguments} {bg : List Stmt} {sg : Scope} {dV kV doc pm cdv ct oc : Value} {an od : Option Addr} {osl : Array (Option Value)} {Ng : List Str}
    {params : Arguments} {body : Expr} {scope : Scope} {t : XK → TE} {p lpos pos : Pos} (hg : Gl X x) (hm : X.mg x = some (.ref g)) (hk : PySem.W.keepIn X.K (.ref g) = true)
    (lk : X.K.lookup g = some ⟨oc, od, .func (PySem.W.fnOf x x pg bg sg dV kV doc pm an cdv ct), osl⟩) (hcg : PySem.W.codeIn X.K cdv x = true) (hb : L2.Binds X.K (PySem.W.fnOf x x pg bg sg dV kV doc pm an cdv ct) [a] []) (Sg : FnScope Ng [a] sg) (hNg : Ng[0]? = some a) (hva : Vis sg a)
    (hG : GivesToS X Ng x sg g cdv bg a (X.env.qual ++ "<lambda>") TT)
    (TB : TabB X.base X.mg c P) (hcode : X.env.code = .ref c) (hmT : (P, X.env.qual ++ "<lambda>") ∈ T) (hu : ∀ p ∈ T, p.1 = P → p.2 = X.env.qual ++ "<lambda>") (hr : Room (k + 2) X.A) (L : LamD X.N X.env.scope scope) (hd0 : ∃ j p, params.defaults = [.Constant (.int 0) j p]) (hk0 : params.kw_defaults = []) (hloc : scope.names.lookup nm = some .local)
    (hbind : ∀ (q : Str) (cl : List (Str × Addr)) (T0 : Addr) (tk0 : Tok) (pm cv ctv : Value), ∃ k, bindArgs (PySem.W.klaD_fn "<lambda>" q params body scope cl (.ref T0) pm cv ctv) ⟨[], []⟩ = seqItems? (.ref T0) >>= k ∧ k (some #[.int 0 tk0]) = pure [(nm, .int 0 tk0)])
    (hbody : ∀ (A : Around) (outer : List Env) (s : Shared) (H : Hp) (E : XK) (f c' : Addr), Room k (A.deeper (lamEnv X scope s.heap.objs.size f c')) → PE (lamCx X A outer s H E scope f c') body (t E))
    (hdb : (x == ("__debug__" : Str)) = false := by decide) (hd : (a == ("__debug__" : Str)) = false := by decide) (hcd : (a == ("__classdict__" : Str)) = false := by decide) :
    PE X (.Call (.Name x p) [.Lambda params body scope lpos] [] pos) (tLam T TT t) := by
  refine ⟨fun pins s σ H Q I h => ?_⟩
  obtain ⟨hT, h⟩ := h
  refine wpAny_Call_Name_kw (ld_glob I hg hm ?_ hdb)
  refine PySem.W.callWith_K (h₀ := X.base) I.ok.mod.kin hk ?_ (by rfl) (by rfl)
  show wpAny _ _ (spliced ((false, eval (.Lambda params body scope lpos) X.env) :: backTo pos (starEach [] X.env))) _ _ s
  refine Calls.spliced_cons (lamD_make I TB hcode hmT hu hT hd0 hk0 (L.has I.ok) fun f c' T0 tk0 pm' ctv H1 s' I1 hT0 hT0n hT0r eN T1 hf hfn hfr hco => ?_)
  refine Calls.spliced_nil ⟨I1.kIn, ?_⟩
  have rc : codeAny (model X.prog X.w) X.A (.call (.ref g) ⟨[.ref f], []⟩) (CR C8.CX0 X.stack X.prog X.w H1 s' Q C8.E0) s' := by
    refine run_ofS (N := Ng) (ps := [a]) (us := [.ref f]) (vs := [.ref f]) lk hcg Sg hr I1.env0 (hb s' [.ref f] I1.kIn rfl) (.cons rfl .nil) rfl fun hr' => ?_
    obtain ⟨t', ht', hq'⟩ := hG f c' s' H1 Q (fun E H' Q' => t E σ H' Q') (fun W pn xe E p1 p2 tk hW => pe_actD (i := 0) I1 L hf hfn hfr (hbind _ _ _ _ _ _ _) hT0 hT0n hT0r hloc tk hW hr' (fun A outer s H E hr2 => hbody A outer s H E f c' hr2) hNg hva hd hcd) hco (h H1 eN T1)
    exact ⟨t', ht'.nox, hq'⟩
  refine wpAny_call (codeAny_mono rc fun r s2 hq => ?_)
  cases r with
  | error e => exact (show False from hq).elim
  | ok fl =>
    cases fl with
    | ret u => exact I1.after hq
    | next => exact False.elim hq
    | brk => exact False.elim hq
    | cont => exact False.elim hq
end
/-! ### lambdas without parameters, the way out told of the very state -/
section
variable {X : Cx} {pins : List (Addr × Obj)} {σ : L2.St} {H HZ : Hp} {s s1 : Shared}
theorem pe_actN {CXg : CXT} {Eg : XK} {Ng : List Str} {qg : Str} {sg : Scope} {g f c' : Addr} {cdg pm ctv : Value} {params : Arguments} {body : Expr} {scope : Scope} {k i : Nat} {a : Str} {pn : List (Addr × Obj)} {xe : Value → Shared → Prop} {W : WX} {E : L2.St → XK} {tb : XK → TE} {p1 p2 : Pos}
    (I : Inv X pins σ H s) (L : LamS X.env.scope scope) (hf : s.heap.get? f = some (PySem.W.kla_obj "<lambda>" (X.env.qual ++ "<lambda>") params body scope (cloFrom X.env.cells scope.names []) pm c' ctv)) (hfn : H f = none) (hfr : f ∉ frs X.stack)
    (hbind : bindArgs (PySem.W.kla_fn "<lambda>" (X.env.qual ++ "<lambda>") params body scope (cloFrom X.env.cells scope.names []) pm (.ref c') ctv) ⟨[], []⟩ = pure [])
    (tk : Takes ((cxOf CXg X.prog X.w X.K X.mg X.base Ng qg sg g cdg X.A X.stack s H Eg).tr pn xe) W) (hW : ∀ cls d σ' H', E σ' cls d H' → W cls d σ' H') (hr : Room (k + 1) (X.A.deeper (envOfC qg sg s.heap.objs.size g cdg)))
    (hbody : ∀ (A : Around) (outer : List Env) (s : Shared) (H : Hp) (E : XK), Room k (A.deeper (lamEnv X scope s.heap.objs.size f c')) → PE (lamCx X A outer s H E scope f c') body (tb E))
    (hN : Ng[i]? = some a) (hv : Vis sg a) (hd : (a == ("__debug__" : Str)) = false := by decide) (hcd : (a == ("__classdict__" : Str)) = false := by decide) :
    PE ((cxOf CXg X.prog X.w X.K X.mg X.base Ng qg sg g cdg X.A X.stack s H Eg).tr pn xe) (.Call (.Name a p1) [] [] p2)
      (fun σZ HZ Q => σZ[i]? = some (some (.ref f)) ∧ HZ c' = some (CodeO c' (X.env.qual ++ "<lambda>")) ∧ tb (E σZ) σ HZ Q) := by
  refine ⟨fun pinsZ sZ σZ HZ Q IZ h => ?_⟩
  obtain ⟨hs, hc, ht⟩ := h
  refine wpAny_Call_Name_kw (thn ((pe_var (pos := p1) (i := i) hN hv hd hcd).run pinsZ sZ σZ HZ (fun v H1 => v = .ref f ∧ H1 = HZ) IZ ⟨.ref f, hs, rfl, rfl⟩) fun u s1 ⟨v, H1, I1, r1, q1⟩ => ?_)
  obtain ⟨ev, eH⟩ := q1
  subst ev
  rw [eH] at I1
  obtain rfl : u = Value.ref f := r1
  have of1 : s1.heap.get? f = some (PySem.W.kla_obj "<lambda>" (X.env.qual ++ "<lambda>") params body scope (cloFrom X.env.cells scope.names []) pm c' ctv) := I1.base.keep f _ hf hfn hfr (fun z => nomatch (show f ∈ ([] : List Addr) from z))
  refine PySem.W.callWith_F0 ⟨_, _, _, _, of1⟩ ?_
  have un : Un (frs X.stack) [] H HZ s.heap s1.heap := I1.base
  obtain ⟨⟨oc, vs, t, hoc, hdc, hvc⟩, _, _⟩ := I1.hok c' _ hc
  have rc : codeAny (model X.prog X.w) (X.A.deeper (envOfC qg sg s.heap.objs.size g cdg)) (.call (.ref f) ⟨[], []⟩) (CR (L2.CX X.prog X.w) (envOfC qg sg s.heap.objs.size g cdg :: X.stack) X.prog X.w HZ s1 Q (E σZ)) s1 := by
    refine PySem.W.kla_callFunE hr.depth of1 rfl L.co L.gen rfl ⟨c', oc, vs, t, rfl, hoc, hdc, hvc⟩ ?_
    rw [hbind]
    refine wpAny_pure (wpAny_newFunctionEnv (fun y hy => (L.own y hy).2) (fun y hy => (List.not_mem_nil hy).elim) (fun h₁ hns hsb => ⟨I1.nolimit.fresh _ hsb, ?_⟩) L.kind)
    show codeAny _ _ (.expr body (lamEnv X scope s1.heap.objs.size f c')) _ _
    have kp : ∀ b o, s1.heap.get? b = some o → h₁.get? b = some o := fun b o e => hsb.extBut b o (Nat.ne_of_lt (Heap.lt_size e)) (Heap.get?_push_of_some _ e)
    have J : Inv (lamCx X (X.A.deeper (envOfC qg sg s.heap.objs.size g cdg)) (envOfC qg sg s.heap.objs.size g cdg :: X.stack) s1 HZ (E σZ) scope f c') [] σ HZ { s1 with heap := h₁, toks := s1.toks + ([] : List (Str × Value)).length } :=
      lam_start2 I L I1.env0 hr.hd un hns kp
    refine PySem.W.kla_codeExpr (wpAny_mono ((hbody _ _ s1 HZ (E σZ) (hr.deeper _)).run [] _ _ HZ Q J ht) (fun v s' hq => ?_) fun e s' hq => hq)
    obtain ⟨w', H', J', rv, q⟩ := hq
    exact ⟨w', H', J'.os, J'.bare, J'.base, J'.hok, rv, q⟩
  refine wpAny_call (codeAny_mono rc fun r s' hq => ?_)
  cases r with
  | error e => exact tk e s' (XE.of_call I1 (fun cls d H' h => hW cls d σZ H' h) hq)
  | ok fl =>
    cases fl with
    | ret u => exact I1.after hq
    | next => exact False.elim hq
    | brk => exact False.elim hq
    | cont => exact False.elim hq
end
section
variable {X : Cx}
theorem pe_lamcallN {T : List (Addr × Str)} {TT : (XK → Hp → VK → Prop) → Hp → VK → Prop} {x a : Str} {g c P : Addr} {k : Nat} {pg : Arguments} {bg : List Stmt} {sg : Scope} {dV kV doc pm cdv ct oc : Value} {an od : Option Addr} {osl : Array (Option Value)} {Ng : List Str}
    {params : Arguments} {body : Expr} {scope : Scope} {t : XK → TE} {p lpos pos : Pos} (hg : Gl X x) (hm : X.mg x = some (.ref g)) (hk : PySem.W.keepIn X.K (.ref g) = true)
    (lk : X.K.lookup g = some ⟨oc, od, .func (PySem.W.fnOf x x pg bg sg dV kV doc pm an cdv ct), osl⟩) (hcg : PySem.W.codeIn X.K cdv x = true) (hb : L2.Binds X.K (PySem.W.fnOf x x pg bg sg dV kV doc pm an cdv ct) [a] []) (Sg : FnScope Ng [a] sg) (hNg : Ng[0]? = some a) (hva : Vis sg a)
    (hG : GivesToS X Ng x sg g cdv bg a (X.env.qual ++ "<lambda>") TT)
    (TB : TabB X.base X.mg c P) (hcode : X.env.code = .ref c) (hmT : (P, X.env.qual ++ "<lambda>") ∈ T) (hu : ∀ p ∈ T, p.1 = P → p.2 = X.env.qual ++ "<lambda>") (hr : Room (k + 2) X.A) (L : LamS X.env.scope scope) (hdef : defaultsOf params X.env = ([], []))
    (hbind : ∀ (q : Str) (cl : List (Str × Addr)) (pm cv ctv : Value), bindArgs (PySem.W.kla_fn "<lambda>" q params body scope cl pm cv ctv) ⟨[], []⟩ = pure [])
    (hbody : ∀ (A : Around) (outer : List Env) (s : Shared) (H : Hp) (E : XK) (f c' : Addr), Room k (A.deeper (lamEnv X scope s.heap.objs.size f c')) → PE (lamCx X A outer s H E scope f c') body (t E))
    (hdb : (x == ("__debug__" : Str)) = false := by decide) (hd : (a == ("__debug__" : Str)) = false := by decide) (hcd : (a == ("__classdict__" : Str)) = false := by decide) :
    PE X (.Call (.Name x p) [.Lambda params body scope lpos] [] pos) (tLam T TT t) := by
  refine ⟨fun pins s σ H Q I h => ?_⟩
  obtain ⟨hT, h⟩ := h
  refine wpAny_Call_Name_kw (ld_glob I hg hm ?_ hdb)
  refine PySem.W.callWith_K (h₀ := X.base) I.ok.mod.kin hk ?_ (by rfl) (by rfl)
  show wpAny _ _ (spliced ((false, eval (.Lambda params body scope lpos) X.env) :: backTo pos (starEach [] X.env))) _ _ s
  refine Calls.spliced_cons (lam_make2 I TB hcode hmT hu hT hdef (L.has I.ok) fun f c' pm' ctv H1 s' I1 eN T1 hf hfn hfr hco => ?_)
  refine Calls.spliced_nil ⟨I1.kIn, ?_⟩
  have rc : codeAny (model X.prog X.w) X.A (.call (.ref g) ⟨[.ref f], []⟩) (CR C8.CX0 X.stack X.prog X.w H1 s' Q C8.E0) s' := by
    refine run_ofS (N := Ng) (ps := [a]) (us := [.ref f]) (vs := [.ref f]) lk hcg Sg hr I1.env0 (hb s' [.ref f] I1.kIn rfl) (.cons rfl .nil) rfl fun hr' => ?_
    obtain ⟨t', ht', hq'⟩ := hG f c' s' H1 Q (fun E H' Q' => t E σ H' Q') (fun W pn xe E p1 p2 tk hW => pe_actN (i := 0) I1 L hf hfn hfr (hbind _ _ _ _ _) tk hW hr' (fun A outer s H E hr2 => hbody A outer s H E f c' hr2) hNg hva hd hcd) hco (h H1 eN T1)
    exact ⟨t', ht'.nox, hq'⟩
  refine wpAny_call (codeAny_mono rc fun r s2 hq => ?_)
  cases r with
  | error e => exact (show False from hq).elim
  | ok fl =>
    cases fl with
    | ret u => exact I1.after hq
    | next => exact False.elim hq
    | brk => exact False.elim hq
    | cont => exact False.elim hq
end
end LamX
end

section
set_option Elab.async false
set_option linter.all false
set_option maxRecDepth 100000
set_option maxHeartbeats 2000000
/-! Data on the heap: what a value is worth (R), heaps that grow (Ex), heaps in which the pen alone may change (Xt). -/
namespace Rp
open PySem L2

/-! ### heaps -/
def Ex (H H' : Hp) : Prop := ∀ a o, H a = some o → H' a = some o
theorem Ex.refl (H : Hp) : Ex H H := fun _ _ h => h
theorem Ex.trans {H H1 H2 : Hp} (a : Ex H H1) (b : Ex H1 H2) : Ex H H2 := fun x o h => b x o (a x o h)
theorem Ex.new {H : Hp} {p : Addr} {o : HO} (h : H p = none) : Ex H (upd H p o) := fun a u e => by
  rw [upd_ne (ne_of_none e h)]
  exact e
theorem Ex.mut {H H' : Hp} {p : Addr} {o : HO} (e : Ex H H') (h : H p = none) : Ex H (upd H' p o) := fun a u ha => by
  rw [upd_ne (ne_of_none ha h)]
  exact e a u ha
theorem Ex.free {H H' : Hp} {p : Addr} (e : Ex H H') (h : H' p = none) : H p = none := by
  cases h1 : H p with
  | none => rfl
  | some o =>
    rw [e p o h1] at h
    cases h
theorem upd_at {H : Hp} {a b : Addr} {o u : HO} (h : H b = some u) (n : b ≠ a) : upd H a o b = some u := by rw [upd_ne n]; exact h
/-- no table of code objects -/
def Nt (o : HO) : Prop := ∀ ps, o ≠ .tbl ps
/-- all but what N names, and but tables of code objects, stays -/
def Xn (N : Addr → Prop) (H H' : Hp) : Prop := ∀ a o, ¬ N a → Nt o → H a = some o → H' a = some o
theorem Xn.refl (N : Addr → Prop) (H : Hp) : Xn N H H := fun _ _ _ _ h => h
theorem Xn.trans {N : Addr → Prop} {H H1 H2 : Hp} (a : Xn N H H1) (b : Xn N H1 H2) : Xn N H H2 := fun x o n t h => b x o n t (a x o n t h)
theorem Xn.sub {N N' : Addr → Prop} {H H' : Hp} (a : Xn N H H') (h : ∀ b, N b → N' b) : Xn N' H H' := fun x o n t e => a x o (fun z => n (h x z)) t e
theorem Ex.xn {N : Addr → Prop} {H H' : Hp} (e : Ex H H') : Xn N H H' := fun a o _ _ h => e a o h
theorem nt_lst {xs : List V} : Nt (.lst xs) := fun _ z => by cases z
theorem nt_tup {xs : List V} : Nt (.tup xs) := fun _ z => by cases z
theorem nt_dK {kvs : List (Key × V)} : Nt (.dK kvs) := fun _ z => by cases z
theorem nt_ins {C dx : Addr} {fs : List (Str × V)} : Nt (.ins C dx fs) := fun _ z => by cases z
theorem nt_xd {fs : List (Str × V)} : Nt (.xd fs) := fun _ z => by cases z
/-- what N names is tracked -/
def NOk (N : Addr → Prop) (H : Hp) : Prop := ∀ a, N a → H a ≠ none
theorem NOk.ex {N : Addr → Prop} {H H' : Hp} (n : NOk N H) (e : Ex H H') : NOk N H' := fun a ha => by
  cases h : H a with
  | none => exact absurd h (n a ha)
  | some o =>
    rw [e a o h]
    exact fun z => by cases z
theorem NOk.not {N : Addr → Prop} {H : Hp} {p : Addr} (n : NOk N H) (h : H p = none) : ¬ N p := fun z => n p z h
/-- N and one more -/
def plus (N : Addr → Prop) (D : Addr) : Addr → Prop := fun a => N a ∨ a = D
theorem NOk.plus {N : Addr → Prop} {H : Hp} {D : Addr} (n : NOk N H) (h : H D ≠ none) : NOk (Rp.plus N D) H := fun a ha => by
  rcases ha with z | z
  · exact n a z
  · rw [z]
    exact h

/-! ### data -/
mutual
/-- at H the value is worth the datum; what N names (the pen, a list that grows) is no part of it -/
inductive R (N : Addr → Prop) (H : Hp) : V → PyData → Prop
  | non : R N H .non .none
  | bl (b : Bool) : R N H (.bl b) (.bool b)
  | int (i : Int) : R N H (.int i) (.int i)
  | str (x : Str) : R N H (.str x) (.str x)
  | lst {a : Addr} {xs : List V} {ds : List PyData} : H a = some (.lst xs) → ¬ N a → RAll N H xs ds → R N H (.ref a) (.list ds)
  | tup {a : Addr} {xs : List V} {ds : List PyData} : H a = some (.tup xs) → ¬ N a → RAll N H xs ds → R N H (.ref a) (.tuple ds)
  | dic {a : Addr} : H a = some (.dK []) → ¬ N a → R N H (.ref a) (.dict [])
inductive RAll (N : Addr → Prop) (H : Hp) : List V → List PyData → Prop
  | nil : RAll N H [] []
  | cons {v : V} {vs : List V} {d : PyData} {ds : List PyData} : R N H v d → RAll N H vs ds → RAll N H (v :: vs) (d :: ds)
end
mutual
theorem R.mono {N : Addr → Prop} {H H' : Hp} (e : Xn N H H') : ∀ {v : V} {d : PyData}, R N H v d → R N H' v d
  | _, _, .non => .non
  | _, _, .bl b => .bl b
  | _, _, .int i => .int i
  | _, _, .str x => .str x
  | _, _, .lst h n r => .lst (e _ _ n nt_lst h) n (RAll.mono e r)
  | _, _, .tup h n r => .tup (e _ _ n nt_tup h) n (RAll.mono e r)
  | _, _, .dic h n => .dic (e _ _ n nt_dK h) n
theorem RAll.mono {N : Addr → Prop} {H H' : Hp} (e : Xn N H H') : ∀ {vs : List V} {ds : List PyData}, RAll N H vs ds → RAll N H' vs ds
  | _, _, .nil => .nil
  | _, _, .cons r t => .cons (R.mono e r) (RAll.mono e t)
end
theorem R.ex {N : Addr → Prop} {H H' : Hp} {v : V} {d : PyData} (e : Ex H H') (r : R N H v d) : R N H' v d := r.mono e.xn
theorem RAll.ex {N : Addr → Prop} {H H' : Hp} {vs : List V} {ds : List PyData} (e : Ex H H') (r : RAll N H vs ds) : RAll N H' vs ds := r.mono e.xn
theorem RAll.length {N : Addr → Prop} {H : Hp} : ∀ {vs : List V} {ds : List PyData}, RAll N H vs ds → vs.length = ds.length
  | _, _, .nil => rfl
  | _, _, .cons _ t => congrArg (· + 1) (RAll.length t)
theorem RAll.get {N : Addr → Prop} {H : Hp} : ∀ {vs : List V} {ds : List PyData} {i : Nat} {v : V}, RAll N H vs ds → vs[i]? = some v → ∃ d, ds[i]? = some d ∧ R N H v d
  | _, _, _, _, .nil, e => by simp at e
  | _, _, 0, _, .cons r _, e => by
    simp at e
    subst e
    exact ⟨_, rfl, r⟩
  | _, _, i + 1, v, .cons _ t, e => by
    obtain ⟨d, h1, h2⟩ := RAll.get (i := i) (v := v) t (by simpa using e)
    exact ⟨d, by simpa using h1, h2⟩
theorem RAll.getD {N : Addr → Prop} {H : Hp} : ∀ {vs : List V} {ds : List PyData} {i : Nat} {d : PyData}, RAll N H vs ds → ds[i]? = some d → ∃ v, vs[i]? = some v ∧ R N H v d
  | _, _, _, _, .nil, e => by simp at e
  | _, _, 0, _, .cons r _, e => by
    simp at e
    subst e
    exact ⟨_, rfl, r⟩
  | _, _, i + 1, d, .cons _ t, e => by
    obtain ⟨v, h1, h2⟩ := RAll.getD (i := i) (d := d) t (by simpa using e)
    exact ⟨v, by simpa using h1, h2⟩
theorem RAll.append {N : Addr → Prop} {H : Hp} : ∀ {xs ys : List V} {ds es : List PyData}, RAll N H xs ds → RAll N H ys es → RAll N H (xs ++ ys) (ds ++ es)
  | _, _, _, _, .nil, s => s
  | _, _, _, _, .cons r t, s => .cons r (RAll.append t s)
theorem RAll.take {N : Addr → Prop} {H : Hp} : ∀ {xs : List V} {ds : List PyData} (n : Nat), RAll N H xs ds → RAll N H (xs.take n) (ds.take n)
  | _, _, 0, _ => by simpa using RAll.nil
  | _, _, _ + 1, .nil => .nil
  | _, _, n + 1, .cons r t => .cons r (RAll.take n t)
theorem RAll.drop {N : Addr → Prop} {H : Hp} : ∀ {xs : List V} {ds : List PyData} (n : Nat), RAll N H xs ds → RAll N H (xs.drop n) (ds.drop n)
  | _, _, 0, r => r
  | _, _, _ + 1, .nil => .nil
  | _, _, n + 1, .cons _ t => RAll.drop n t

mutual
theorem R.plus {N : Addr → Prop} {H : Hp} {D : Addr} (h : H D = none) : ∀ {v : V} {d : PyData}, R N H v d → R (Rp.plus N D) H v d
  | _, _, .non => .non
  | _, _, .bl b => .bl b
  | _, _, .int i => .int i
  | _, _, .str x => .str x
  | _, _, .lst e n r => .lst e (fun z => z.elim n (ne_of_none e h)) (RAll.plus h r)
  | _, _, .tup e n r => .tup e (fun z => z.elim n (ne_of_none e h)) (RAll.plus h r)
  | _, _, .dic e n => .dic e (fun z => z.elim n (ne_of_none e h))
theorem RAll.plus {N : Addr → Prop} {H : Hp} {D : Addr} (h : H D = none) : ∀ {vs : List V} {ds : List PyData}, RAll N H vs ds → RAll (Rp.plus N D) H vs ds
  | _, _, .nil => .nil
  | _, _, .cons r t => .cons (R.plus h r) (RAll.plus h t)
end
mutual
theorem R.less {N : Addr → Prop} {H : Hp} {D : Addr} : ∀ {v : V} {d : PyData}, R (Rp.plus N D) H v d → R N H v d
  | _, _, .non => .non
  | _, _, .bl b => .bl b
  | _, _, .int i => .int i
  | _, _, .str x => .str x
  | _, _, .lst e n r => .lst e (fun z => n (.inl z)) (RAll.less r)
  | _, _, .tup e n r => .tup e (fun z => n (.inl z)) (RAll.less r)
  | _, _, .dic e n => .dic e (fun z => n (.inl z))
theorem RAll.less {N : Addr → Prop} {H : Hp} {D : Addr} : ∀ {vs : List V} {ds : List PyData}, RAll (Rp.plus N D) H vs ds → RAll N H vs ds
  | _, _, .nil => .nil
  | _, _, .cons r t => .cons (R.less r) (RAll.less t)
end
/-! no dict within -/
mutual
def noDict : PyData → Bool
  | .dict _ => false
  | .list xs | .tuple xs => noDicts xs
  | .none | .bool _ | .int _ | .str _ => true
def noDicts : List PyData → Bool
  | [] => true
  | x :: xs => noDict x && noDicts xs
end
mutual
theorem R.dp {K : PySem.W.Frag} {N : Addr → Prop} {H : Hp} : ∀ {v : V} {d : PyData}, R N H v d → noDict d = true → Dp K H v d
  | _, _, .non, _ => .non
  | _, _, .bl b, _ => .bl b
  | _, _, .int i, _ => .int i
  | _, _, .str x, _ => .str x
  | _, _, .lst h _ r, n => .lst (SqL.of h) (RAll.dp r n)
  | _, _, .tup h _ r, n => .tup (SqT.of h) (RAll.dp r n)
  | _, _, .dic _ _, n => by cases n
theorem RAll.dp {K : PySem.W.Frag} {N : Addr → Prop} {H : Hp} : ∀ {vs : List V} {ds : List PyData}, RAll N H vs ds → noDicts ds = true → DpAll K H vs ds
  | _, _, .nil, _ => .nil
  | _, _, .cons r t, n => by
    have n' := Bool.and_eq_true_iff.mp n
    exact .cons (R.dp r n'.1) (RAll.dp t n'.2)
end

/-! ### types -/
def tyName : PyData → String
  | .none => "NoneType"
  | .bool _ => "bool"
  | .int _ => "int"
  | .str _ => "str"
  | .list _ => "list"
  | .tuple _ => "tuple"
  | .dict _ => "dict"
theorem R.ty {K : PySem.W.Frag} {N : Addr → Prop} {H : Hp} {v : V} {d : PyData} (r : R N H v d) : TyZ K H v (.type (tyName d)) := by
  cases r with
  | non => exact .x (.base .non)
  | bl b => exact .x (.base (.bl b))
  | int i => exact .x (.base (.int i))
  | str x => exact .x (.base (.str x))
  | lst h n r => exact .x (.base (.lst h))
  | tup h n r => exact .x (.base (.tup h))
  | dic h n => exact .x (.base (.dK h))
def isInt : PyData → Bool | .int _ => true | _ => false
def isBool : PyData → Bool | .bool _ => true | _ => false
def isStr : PyData → Bool | .str _ => true | _ => false
def isLst : PyData → Bool | .list _ => true | _ => false
def isTup : PyData → Bool | .tuple _ => true | _ => false
def isListed : PyData → Bool | .list _ => true | .tuple _ => true | _ => false
section
variable {K : PySem.W.Frag}
theorem kit_int (d : PyData) : PySem.W.kitOne K (.type (tyName d)) (.type "int") = some (isInt d || isBool d) := by
  cases d with
  | none => exact kit_ty (show kitB "NoneType" "int" = some false by decide +kernel)
  | bool _ => exact kit_ty (show kitB "bool" "int" = some true by decide +kernel)
  | int _ => exact kit_ty (show kitB "int" "int" = some true by decide +kernel)
  | str _ => exact kit_ty (show kitB "str" "int" = some false by decide +kernel)
  | list _ => exact kit_ty (show kitB "list" "int" = some false by decide +kernel)
  | tuple _ => exact kit_ty (show kitB "tuple" "int" = some false by decide +kernel)
  | dict _ => exact kit_ty (show kitB "dict" "int" = some false by decide +kernel)
theorem kit_bool (d : PyData) : PySem.W.kitOne K (.type (tyName d)) (.type "bool") = some (isBool d) := by
  cases d with
  | none => exact kit_ty (show kitB "NoneType" "bool" = some false by decide +kernel)
  | bool _ => exact kit_ty (show kitB "bool" "bool" = some true by decide +kernel)
  | int _ => exact kit_ty (show kitB "int" "bool" = some false by decide +kernel)
  | str _ => exact kit_ty (show kitB "str" "bool" = some false by decide +kernel)
  | list _ => exact kit_ty (show kitB "list" "bool" = some false by decide +kernel)
  | tuple _ => exact kit_ty (show kitB "tuple" "bool" = some false by decide +kernel)
  | dict _ => exact kit_ty (show kitB "dict" "bool" = some false by decide +kernel)
theorem kit_str (d : PyData) : PySem.W.kitOne K (.type (tyName d)) (.type "str") = some (isStr d) := by
  cases d with
  | none => exact kit_ty (show kitB "NoneType" "str" = some false by decide +kernel)
  | bool _ => exact kit_ty (show kitB "bool" "str" = some false by decide +kernel)
  | int _ => exact kit_ty (show kitB "int" "str" = some false by decide +kernel)
  | str _ => exact kit_ty (show kitB "str" "str" = some true by decide +kernel)
  | list _ => exact kit_ty (show kitB "list" "str" = some false by decide +kernel)
  | tuple _ => exact kit_ty (show kitB "tuple" "str" = some false by decide +kernel)
  | dict _ => exact kit_ty (show kitB "dict" "str" = some false by decide +kernel)
theorem kit_lst (d : PyData) : PySem.W.kitOne K (.type (tyName d)) (.type "list") = some (isLst d) := by
  cases d with
  | none => exact kit_ty (show kitB "NoneType" "list" = some false by decide +kernel)
  | bool _ => exact kit_ty (show kitB "bool" "list" = some false by decide +kernel)
  | int _ => exact kit_ty (show kitB "int" "list" = some false by decide +kernel)
  | str _ => exact kit_ty (show kitB "str" "list" = some false by decide +kernel)
  | list _ => exact kit_ty (show kitB "list" "list" = some true by decide +kernel)
  | tuple _ => exact kit_ty (show kitB "tuple" "list" = some false by decide +kernel)
  | dict _ => exact kit_ty (show kitB "dict" "list" = some false by decide +kernel)
theorem kit_tup (d : PyData) : PySem.W.kitOne K (.type (tyName d)) (.type "tuple") = some (isTup d) := by
  cases d with
  | none => exact kit_ty (show kitB "NoneType" "tuple" = some false by decide +kernel)
  | bool _ => exact kit_ty (show kitB "bool" "tuple" = some false by decide +kernel)
  | int _ => exact kit_ty (show kitB "int" "tuple" = some false by decide +kernel)
  | str _ => exact kit_ty (show kitB "str" "tuple" = some false by decide +kernel)
  | list _ => exact kit_ty (show kitB "list" "tuple" = some false by decide +kernel)
  | tuple _ => exact kit_ty (show kitB "tuple" "tuple" = some true by decide +kernel)
  | dict _ => exact kit_ty (show kitB "dict" "tuple" = some false by decide +kernel)
theorem kit_listed (d : PyData) : PySem.W.kitAny K (.type (tyName d)) [.type "list", .type "tuple"] = some (isListed d) := by
  refine kitAny_cons (kit_lst d) (fun h => kitAny_cons (b := isTup d) (kit_tup d) (fun h2 => ?_) fun h2 => ?_) fun h => ?_
  · cases d <;> first | rfl | (cases h; done) | (cases h2; done)
  · cases d <;> first | rfl | (cases h; done) | (cases h2; done)
  · cases d <;> first | rfl | (cases h; done)
end
end Rp
namespace Rp
open PySem L2
theorem RAll.one {N : Addr → Prop} {H : Hp} {vs : List V} {d : PyData} (r : RAll N H vs [d]) : ∃ v, vs = [v] ∧ R N H v d := by
  cases r with
  | cons h t => cases t; exact ⟨_, rfl, h⟩
theorem RAll.two {N : Addr → Prop} {H : Hp} {vs : List V} {d e : PyData} (r : RAll N H vs [d, e]) : ∃ v w, vs = [v, w] ∧ R N H v d ∧ R N H w e := by
  cases r with
  | cons h t =>
    obtain ⟨w, rfl, h2⟩ := t.one
    exact ⟨_, _, rfl, h, h2⟩
theorem RAll.three {N : Addr → Prop} {H : Hp} {vs : List V} {d e f : PyData} (r : RAll N H vs [d, e, f]) : ∃ v w z, vs = [v, w, z] ∧ R N H v d ∧ R N H w e ∧ R N H z f := by
  cases r with
  | cons h t =>
    obtain ⟨w, z, rfl, h2, h3⟩ := t.two
    exact ⟨_, _, _, rfl, h, h2, h3⟩
/-- a def that hands back a datum of its arguments' data -/
def spP (F : List PyData → Option PyData) : Sp := fun vs H Q _ => ∃ (N : Addr → Prop) (ds : List PyData) (d : PyData), NOk N H ∧ RAll N H vs ds ∧ F ds = some d ∧ ∀ v H', Ex H H' → R N H' v d → Q v H'
theorem R.bool {N : Addr → Prop} {H : Hp} {v : V} {b : Bool} (r : R N H v (.bool b)) : v = .bl b := by
  cases r
  rfl
theorem R.intv {N : Addr → Prop} {H : Hp} {v : V} {i : Int} (r : R N H v (.int i)) : v = .int i := by
  cases r
  rfl
theorem R.strv {N : Addr → Prop} {H : Hp} {v : V} {x : Str} (r : R N H v (.str x)) : v = .str x := by
  cases r
  rfl
/-- a call of such a def, by its data -/
theorem call_P {F : List PyData → Option PyData} {N : Addr → Prop} {vs : List V} {H : Hp} {Q : VK} {ds : List PyData} {d : PyData} (n : NOk N H) (r : RAll N H vs ds) (h : F ds = some d) (k : ∀ v H', Ex H H' → R N H' v d → Q v H') : spP F (vs ++ []) H Q C8.E0 := by
  rw [List.append_nil]
  exact ⟨N, ds, d, n, r, h, k⟩
theorem call_B {F : List PyData → Option PyData} {N : Addr → Prop} {vs : List V} {H : Hp} {Q : VK} {ds : List PyData} {b : Bool} (n : NOk N H) (r : RAll N H vs ds) (h : F ds = some (.bool b)) (k : ∀ H', Ex H H' → Q (.bl b) H') : spP F (vs ++ []) H Q C8.E0 :=
  call_P n r h fun v H' e rv => by
    rw [rv.bool]
    exact k H' e
end Rp
end

section
set_option Elab.async false
set_option linter.all false
set_option maxRecDepth 100000
set_option maxHeartbeats 2000000
/-! Comprehensions and loops over data. -/
namespace Rp
open PySem PySem.Spec PyProof.Rows L2
/-- what is walked is a list or a tuple -/
def SeqOf (K : PySem.W.Frag) (a : Addr) (H1 : Hp) (J : It) : Prop := (J = Itl K a ∧ ∃ xs, SqL K H1 a xs) ∨ (J = Itt K a ∧ ∃ xs, SqT K H1 a xs)
def iSeq (K : PySem.W.Frag) (tl : TE) : TI := fun σ H R => tl σ H fun x H1 => ∃ a J, x = .ref a ∧ SeqOf K a H1 J ∧ R J H1
theorem pi_seq {X : Cx} {tg l : Expr} {tl : TE} (hl : PE X l tl) : PI X tg l (iSeq X.K tl) := by
  refine ⟨fun pins s σ H R I h => ?_⟩
  refine thn (hl.run pins s σ H _ I h) fun v s1 ⟨x, H1, I1, r1, a, J, e, sq, q⟩ => ?_
  subst e
  cases r1
  have fr : FpOk X pins H1 s1.heap.objs.size := I1.fpOk (Nat.le_refl _) (I1.hok.fresh (Nat.le_refl _))
  have one : ∀ b ∈ [s1.heap.objs.size], FpOk X pins H1 b := fun b hb => by
    have z : b = s1.heap.objs.size := by simpa using hb
    subst z
    exact fr
  rcases sq with ⟨rfl, xs, hq⟩ | ⟨rfl, xs, hq⟩
  · obtain ⟨its, rv, p, hz⟩ := I1.list hq
    exact wpAny_pyIter_list p.isList ⟨_, [_], _, _, H1, rfl, I1.kept (t' := s1.toks) fun b o e => Heap.get?_push_of_some _ e, turn_list a _, ⟨_, Heap.get?_push_size _ rfl, rfl, rfl⟩, one, q⟩
  · obtain ⟨its, rv, p, hz⟩ := I1.tuple hq
    exact wpAny_pyIter_tuple (show s1.heap.IsTuple a its.toArray from p) ⟨_, [_], _, _, H1, rfl, I1.kept (t' := s1.toks) fun b o e => Heap.get?_push_of_some _ e, turn_tuple a _, ⟨_, Heap.get?_push_size _ rfl, rfl, rfl⟩, one, q⟩
/-- the datum's items -/
def itemsOf : PyData → List PyData
  | .list ds => ds
  | .tuple ds => ds
  | _ => []
theorem set_wipe {σ : L2.St} {i : Nat} {v : Option V} : wipe ((wipe σ [i]).set i v) [i] = wipe σ [i] := by
  show ((σ.set i none).set i v).set i none = σ.set i none
  rw [List.set_set, List.set_set]
theorem take_snoc {α : Type} {l : List α} {i : Nat} {x : α} (h : l[i]? = some x) : l.take (i + 1) = l.take i ++ [x] := by
  rw [List.take_succ, h]
  rfl
/-- the walker J goes over the data ds -/
structure WalkD (N : Addr → Prop) (J : It) (H1 : Hp) (ds : List PyData) : Prop where
  stop : ∀ i H, Ex H1 H → ds.length ≤ i → J.stop i H
  go : ∀ i H, Ex H1 H → i < ds.length → J.go i H
  item : ∀ i H x H', Ex H1 H → i < ds.length → J.yld i H x H' → H' = H ∧ ∃ d, ds[i]? = some d ∧ ∀ D, H1 D = none → R (plus N D) H x d
theorem wk_list {K : PySem.W.Frag} {N : Addr → Prop} {a : Addr} {H1 : Hp} {xs : List V} {ds : List PyData} (h : H1 a = some (.lst xs)) (r : RAll N H1 xs ds) : WalkD N (Itl K a) H1 ds where
  stop := fun i H e hi => ⟨xs, SqL.of (e _ _ h), by rw [r.length]; exact hi⟩
  go := fun i H e hi => ⟨xs, xs[i]'(by rw [r.length]; exact hi), SqL.of (e _ _ h), by simp⟩
  item := fun i H x H' e hi y => by
    obtain ⟨h', q⟩ := y
    have hx := q xs (SqL.of (e _ _ h))
    obtain ⟨d, hd, rd⟩ := r.get hx
    exact ⟨h', d, hd, fun D hD => (rd.plus hD).ex e⟩
theorem wk_tup {K : PySem.W.Frag} {N : Addr → Prop} {a : Addr} {H1 : Hp} {xs : List V} {ds : List PyData} (h : H1 a = some (.tup xs)) (r : RAll N H1 xs ds) : WalkD N (Itt K a) H1 ds where
  stop := fun i H e hi => ⟨xs, SqT.of (e _ _ h), by rw [r.length]; exact hi⟩
  go := fun i H e hi => ⟨xs, xs[i]'(by rw [r.length]; exact hi), SqT.of (e _ _ h), by simp⟩
  item := fun i H x H' e hi y => by
    obtain ⟨h', q⟩ := y
    have hx := q xs (SqT.of (e _ _ h))
    obtain ⟨d, hd, rd⟩ := r.get hx
    exact ⟨h', d, hd, fun D hD => (rd.plus hD).ex e⟩
def rangeD (lo : Int) (n : Nat) : List PyData := (List.range n).map fun i : Nat => PyData.int (lo + (i : Int))
theorem wk_range {N : Addr → Prop} {lo : Int} {n : Nat} {H1 : Hp} : WalkD N (Itr lo n) H1 (rangeD lo n) where
  stop := fun i H e hi => by
    have z : (rangeD lo n).length = n := by simp [rangeD]
    rw [z] at hi
    exact hi
  go := fun i H e hi => by
    have z : (rangeD lo n).length = n := by simp [rangeD]
    rw [z] at hi
    exact hi
  item := fun i H x H' e hi y => by
    have z : (rangeD lo n).length = n := by simp [rangeD]
    rw [z] at hi
    obtain ⟨h', hx⟩ := y
    subst hx
    exact ⟨h', .int (lo + i), by simp [rangeD, List.getElem?_map, List.getElem?_range hi], fun D hD => .int _⟩
/-- a text's signs -/
def signsD (x : Str) : List PyData := x.cps.toList.map fun c => PyData.str ⟨#[c]⟩
theorem wk_text {N : Addr → Prop} {x : Str} {H1 : Hp} : WalkD N (Its x) H1 (signsD x) where
  stop := fun i H e hi => by
    have z : (signsD x).length = x.cps.size := by simp [signsD]
    rw [z] at hi
    exact hi
  go := fun i H e hi => by
    have z : (signsD x).length = x.cps.size := by simp [signsD]
    rw [z] at hi
    exact hi
  item := fun i H v H' e hi y => by
    obtain ⟨h', c, hc, hv⟩ := y
    subst hv
    refine ⟨h', .str ⟨#[c]⟩, ?_, fun D hD => .str _⟩
    have z : x.cps.toList[i]? = some c := by rw [Array.getElem?_toList]; exact hc
    simp [signsD, List.getElem?_map, z]
/-- [e for x in data if t]: each element a datum of the item's; the walk that tLc asks for -/
theorem lc_gen {N : Addr → Prop} {D : Addr} {ds : List PyData} {tt : TT} {te : TE} {i : Nat} {σ : L2.St} {H1 : Hp} {Qd : Hp → Prop} {J : It} (keep : PyData → Bool) (f : PyData → PyData) (wk : WalkD N J H1 ds)
    (hD : H1 D = none) (nN : NOk N H1) (hlen : ds.length ≤ 100000)
    (test : ∀ (v : V) (d : PyData) (H2 : Hp), d ∈ ds → Ex H1 H2 → NOk (plus N D) H2 → R (plus N D) H2 v d → ∀ Q' : Bool → Hp → Prop, (∀ H3, Ex H2 H3 → Q' (keep d) H3) → tt ((wipe σ [i]).set i (some v)) H2 Q')
    (step : ∀ (v : V) (d : PyData) (H2 : Hp), d ∈ ds → keep d = true → Ex H1 H2 → NOk (plus N D) H2 → R (plus N D) H2 v d → ∀ Q' : VK, (∀ y H3, Ex H2 H3 → R (plus N D) H3 y (f d) → Q' y H3) → te ((wipe σ [i]).set i (some v)) H2 Q')
    (hd : ∀ (H2 : Hp) (ys : List V), Ex H1 H2 → H2 D = some (.lst ys) → RAll N H2 ys ((ds.filter keep).map f) → Qd H2) :
    ∃ W : Nat → Nat → Hp → Prop, (∃ m, W 0 m (upd H1 D (.lst []))) ∧ ∀ i' m H, W i' m H →
    (J.stop i' H ∧ Qd H) ∨ (J.go i' H ∧ ∃ Nx : Hp → Prop, (∀ H', Nx H' → ∃ m', m' < m ∧ W (i' + 1) m' H') ∧ ∀ x H', J.yld i' H x H' → gName i x (wipe σ [i]) H' fun σ2 H2 => wipe σ2 [i] = wipe σ [i] ∧ tt σ2 H2 fun b H3 =>
      if b = true then te σ2 H3 fun y H4 => ∃ acc, H4 D = some (.lst acc) ∧ acc.length < sizeLine ∧ Nx (upd H4 D (.lst (acc ++ [y]))) else Nx H3) := by
  let Pv : Nat → Hp → Prop := fun j H => Ex H1 H ∧ ∃ ys, H D = some (.lst ys) ∧ RAll (plus N D) H ys (((ds.take j).filter keep).map f)
  have h0 : Pv 0 (upd H1 D (.lst [])) := ⟨Ex.new hD, [], upd_same, .nil⟩
  have hdone : ∀ H, Pv ds.length H → Qd H := fun H ⟨e, ys, hy, ry⟩ => hd H ys e hy (by
    rw [List.take_length] at ry
    exact ry.less)
  have hstep : ∀ j x H d, ds[j]? = some d → R (plus N D) H x d → Pv j H → gName i x (wipe σ [i]) H fun σ2 H2 => wipe σ2 [i] = wipe σ [i] ∧ tt σ2 H2 fun b H3 =>
      if b = true then te σ2 H3 fun y H4 => ∃ acc, H4 D = some (.lst acc) ∧ acc.length < sizeLine ∧ Pv (j + 1) (upd H4 D (.lst (acc ++ [y]))) else Pv (j + 1) H3 := by
    rintro j x H d hdj rx ⟨e, ys, hy, ry⟩
    have hm : d ∈ ds := List.mem_of_getElem? hdj
    have hN : NOk (plus N D) H := (nN.ex e).plus (by rw [hy]; exact fun z => by cases z)
    refine ⟨set_wipe, test x d H hm e hN rx _ fun H3 e3 => ?_⟩
    cases hk : keep d with
    | false =>
      refine iteF ⟨e.trans e3, ys, e3 _ _ hy, ?_⟩
      rw [take_snoc hdj, List.filter_append]
      have z : [d].filter keep = [] := by simp [hk]
      rw [z, List.append_nil]
      exact ry.ex e3
    | true =>
      refine iteT (step x d H3 hm hk (e.trans e3) (hN.ex e3) (rx.ex e3) _ fun y H4 e4 r4 => ?_)
      have hy4 := e4 _ _ (e3 _ _ hy)
      have ly : ys.length ≤ ds.length := by
        rw [ry.length, List.length_map]
        exact Nat.le_trans (List.length_filter_le _ _) (by rw [List.length_take]; omega)
      refine ⟨ys, hy4, Nat.lt_of_le_of_lt (Nat.le_trans ly hlen) (by decide), ((e.trans e3).trans e4).mut hD, ys ++ [y], upd_same, ?_⟩
      have ext : Xn (plus N D) H4 (upd H4 D (.lst (ys ++ [y]))) := fun b o n _ h => upd_at h fun z => n (.inr z)
      rw [take_snoc hdj, List.filter_append, List.map_append]
      have z : [d].filter keep = [d] := by simp [hk]
      rw [z]
      exact (((ry.ex e3).ex e4).mono ext).append (.cons (r4.mono ext) .nil)
  refine ⟨fun j m H => m = ds.length - j ∧ j ≤ ds.length ∧ Pv j H, ⟨ds.length, by simp, Nat.zero_le _, h0⟩, ?_⟩
  rintro j m H ⟨rfl, hj, p⟩
  by_cases hlt : j < ds.length
  · refine .inr ⟨wk.go j H p.1 hlt, Pv (j + 1), fun H' p' => ⟨ds.length - (j + 1), by omega, rfl, hlt, p'⟩, fun x H' y => ?_⟩
    obtain ⟨eH, d, hd', rx⟩ := wk.item j H x H' p.1 hlt y
    subst eH
    exact hstep j x H' d hd' (rx D hD) p
  · have z : j = ds.length := by omega
    subst z
    exact .inl ⟨wk.stop _ H p.1 (Nat.le_refl _), hdone H p⟩
/-- a comprehension without a test over a walker, its elements data of the items -/
theorem lc_map {N : Addr → Prop} {D : Addr} {ds : List PyData} {te : TE} {i : Nat} {σ : L2.St} {H1 : Hp} {Qd : Hp → Prop} {J : It} (f : PyData → PyData) (wk : WalkD N J H1 ds)
    (hD : H1 D = none) (nN : NOk N H1) (hlen : ds.length ≤ 100000)
    (step : ∀ (v : V) (d : PyData) (H2 : Hp), d ∈ ds → Ex H1 H2 → NOk (plus N D) H2 → R (plus N D) H2 v d → ∀ Q' : VK, (∀ y H3, Ex H2 H3 → R (plus N D) H3 y (f d) → Q' y H3) → te ((wipe σ [i]).set i (some v)) H2 Q')
    (hd : ∀ (H2 : Hp) (ys : List V), Ex H1 H2 → H2 D = some (.lst ys) → RAll N H2 ys (ds.map f) → Qd H2) :
    ∃ W : Nat → Nat → Hp → Prop, (∃ m, W 0 m (upd H1 D (.lst []))) ∧ ∀ i' m H, W i' m H →
    (J.stop i' H ∧ Qd H) ∨ (J.go i' H ∧ ∃ Nx : Hp → Prop, (∀ H', Nx H' → ∃ m', m' < m ∧ W (i' + 1) m' H') ∧ ∀ x H', J.yld i' H x H' → gName i x (wipe σ [i]) H' fun σ2 H2 => wipe σ2 [i] = wipe σ [i] ∧ tYes σ2 H2 fun b H3 =>
      if b = true then te σ2 H3 fun y H4 => ∃ acc, H4 D = some (.lst acc) ∧ acc.length < sizeLine ∧ Nx (upd H4 D (.lst (acc ++ [y]))) else Nx H3) :=
  lc_gen (fun _ => true) f wk hD nN hlen (fun _ _ H2 _ _ _ _ Q' q => q H2 (Ex.refl H2)) (fun v d H2 hm _ e n r Q' q => step v d H2 hm e n r Q' q) fun H2 ys e hy ry => hd H2 ys e hy (by
    have z : ds.filter (fun _ => true) = ds := by simp
    rw [z] at ry
    exact ry)
theorem RAll.bools {N : Addr → Prop} {H : Hp} : ∀ {ys : List V} {bs : List Bool}, RAll N H ys (bs.map PyData.bool) → ys = bs.map V.bl
  | _, [], .nil => rfl
  | _, b :: r, .cons h t => by
    rw [h.bool, RAll.bools t]
    rfl
theorem RAll.ints {N : Addr → Prop} {H : Hp} : ∀ {ys : List V} {bs : List Int}, RAll N H ys (bs.map PyData.int) → ys = bs.map V.int
  | _, [], .nil => rfl
  | _, b :: r, .cons h t => by
    rw [h.intv, RAll.ints t]
    rfl
theorem RAll.strs {N : Addr → Prop} {H : Hp} : ∀ {ys : List V} {bs : List Str}, RAll N H ys (bs.map PyData.str) → ys = bs.map V.str
  | _, [], .nil => rfl
  | _, b :: r, .cons h t => by
    rw [h.strv, RAll.strs t]
    rfl
/-- all(..) of a list of booleans -/
theorem all_R {K : PySem.W.Frag} {N : Addr → Prop} {H : Hp} {Q : VK} {D : Addr} {ys : List V} {bs : List Bool} (hy : H D = some (.lst ys)) (r : RAll N H ys (bs.map PyData.bool)) (k : Q (.bl (bs.all id)) H) : rAll K [.ref D] H Q :=
  ⟨D, bs, rfl, SqL.of (by rw [hy, r.bools]), k⟩
/-- a list or a tuple is walked -/
theorem seq_walk {K : PySem.W.Frag} {N : Addr → Prop} {a : Addr} {H1 : Hp} {xs : List V} {ds : List PyData} (ha : H1 a = some (.lst xs) ∨ H1 a = some (.tup xs)) (ra : RAll N H1 xs ds) : ∃ J, SeqOf K a H1 J ∧ WalkD N J H1 ds := by
  rcases ha with ha | ha
  · exact ⟨_, .inl ⟨rfl, xs, SqL.of ha⟩, wk_list ha ra⟩
  · exact ⟨_, .inr ⟨rfl, xs, SqT.of ha⟩, wk_tup ha ra⟩
theorem seq_of {N : Addr → Prop} {H : Hp} {v : V} {d : PyData} (r : R N H v d) (h : isListed d = true) : ∃ a xs, v = .ref a ∧ (H a = some (.lst xs) ∨ H a = some (.tup xs)) ∧ RAll N H xs (itemsOf d) := by
  cases r with
  | lst e n q => exact ⟨_, _, rfl, .inl e, q⟩
  | tup e n q => exact ⟨_, _, rfl, .inr e, q⟩
  | _ => cases h
end Rp
end

section
set_option Elab.async false
set_option linter.all false
set_option maxRecDepth 100000
set_option maxHeartbeats 2000000
/-! Dicts with texts as keys and data as values, made by a comprehension. -/
namespace Rp
open PySem PySem.Spec PyProof.Rows L2
def putS (es : List (Str × PyData)) (k : Str) (v : PyData) : List (Str × PyData) := if (es.any fun e => decide (e.1 = k)) = true then es.map (fun e => if e.1 = k then (e.1, v) else e) else es ++ [(k, v)]
/-- the pairs of a dict are worth the told ones -/
inductive KvR (N : Addr → Prop) (H : Hp) : List (Key × V) → List (Str × PyData) → Prop
  | nil : KvR N H [] []
  | cons {k : Str} {v : V} {d : PyData} {r : List (Key × V)} {t : List (Str × PyData)} : R N H v d → KvR N H r t → KvR N H ((Sum.inr k, v) :: r) ((k, d) :: t)
theorem KvR.mono {N : Addr → Prop} {H H' : Hp} (e : Xn N H H') : ∀ {kvs : List (Key × V)} {es : List (Str × PyData)}, KvR N H kvs es → KvR N H' kvs es
  | _, _, .nil => .nil
  | _, _, .cons r t => .cons (r.mono e) (KvR.mono e t)
theorem KvR.ex {N : Addr → Prop} {H H' : Hp} {kvs : List (Key × V)} {es : List (Str × PyData)} (e : Ex H H') (r : KvR N H kvs es) : KvR N H' kvs es := r.mono e.xn
theorem KvR.less {N : Addr → Prop} {D : Addr} {H : Hp} : ∀ {kvs : List (Key × V)} {es : List (Str × PyData)}, KvR (plus N D) H kvs es → KvR N H kvs es
  | _, _, .nil => .nil
  | _, _, .cons r t => .cons r.less (KvR.less t)
theorem KvR.length {N : Addr → Prop} {H : Hp} : ∀ {kvs : List (Key × V)} {es : List (Str × PyData)}, KvR N H kvs es → kvs.length = es.length
  | _, _, .nil => rfl
  | _, _, .cons _ t => congrArg (· + 1) (KvR.length t)
theorem inr_eq {a b : Str} : ((Sum.inr a : Key) = Sum.inr b) ↔ a = b := ⟨fun h => Sum.inr.inj h, fun h => by rw [h]⟩
theorem KvR.any {N : Addr → Prop} {H : Hp} {k : Str} : ∀ {kvs : List (Key × V)} {es : List (Str × PyData)}, KvR N H kvs es → (kvs.any fun e => decide (e.1 = (Sum.inr k : Key))) = es.any fun e => decide (e.1 = k)
  | _, _, .nil => rfl
  | _, _, .cons _ t => by simp only [List.any_cons, KvR.any t, inr_eq]
theorem KvR.snoc {N : Addr → Prop} {H : Hp} {k : Str} {v : V} {d : PyData} (r : R N H v d) : ∀ {kvs : List (Key × V)} {es : List (Str × PyData)}, KvR N H kvs es → KvR N H (kvs ++ [(Sum.inr k, v)]) (es ++ [(k, d)])
  | _, _, .nil => .cons r .nil
  | _, _, .cons q t => .cons q (KvR.snoc r t)
theorem KvR.set {N : Addr → Prop} {H : Hp} {k : Str} {v : V} {d : PyData} (r : R N H v d) : ∀ {kvs : List (Key × V)} {es : List (Str × PyData)}, KvR N H kvs es →
    KvR N H (kvs.map fun e => if e.1 = (Sum.inr k : Key) then (e.1, v) else e) (es.map fun e => if e.1 = k then (e.1, d) else e)
  | _, _, .nil => .nil
  | _, _, @KvR.cons _ _ k' v' d' _ _ q t => by
    simp only [List.map_cons, inr_eq]
    by_cases h : k' = k
    · rw [if_pos h, if_pos h]
      exact .cons r (KvR.set r t)
    · rw [if_neg h, if_neg h]
      exact .cons q (KvR.set r t)
theorem KvR.put {N : Addr → Prop} {H : Hp} {k : Str} {v : V} {d : PyData} {kvs : List (Key × V)} {es : List (Str × PyData)} (q : KvR N H kvs es) (r : R N H v d) : KvR N H (putK kvs (Sum.inr k) v) (putS es k d) := by
  unfold putK putS
  rw [q.any]
  split
  · exact q.set r
  · exact q.snoc r
theorem putS_len (es : List (Str × PyData)) (k : Str) (v : PyData) : (putS es k v).length ≤ es.length + 1 := by
  unfold putS
  split
  · rw [List.length_map]
    exact Nat.le_succ _
  · rw [List.length_append]
    exact Nat.le_refl _
def putAll (kf : PyData → Str) (vf : PyData → PyData) (ds : List PyData) : List (Str × PyData) := ds.foldl (fun es d => putS es (kf d) (vf d)) []
theorem putAll_snoc (kf : PyData → Str) (vf : PyData → PyData) (ds : List PyData) (d : PyData) : putAll kf vf (ds ++ [d]) = putS (putAll kf vf ds) (kf d) (vf d) := by
  unfold putAll
  rw [List.foldl_append]
  rfl
/-- {k: v for x in data} -/
theorem dc_map {N : Addr → Prop} {D : Addr} {ds : List PyData} {tk tv : TE} {i : Nat} {σ : L2.St} {H1 : Hp} {Qd : Hp → Prop} {J : It} (kf : PyData → Str) (vf : PyData → PyData) (wk : WalkD N J H1 ds)
    (hD : H1 D = none) (nN : NOk N H1) (hlen : ds.length ≤ 100000)
    (step : ∀ (v : V) (d : PyData) (H2 : Hp), d ∈ ds → Ex H1 H2 → NOk (plus N D) H2 → R (plus N D) H2 v d → ∀ Q' : V → V → Hp → Prop, (∀ z H3, Ex H2 H3 → R (plus N D) H3 z (vf d) → Q' (.str (kf d)) z H3) → tk ((wipe σ [i]).set i (some v)) H2 fun y H4 => tv ((wipe σ [i]).set i (some v)) H4 fun z H5 => Q' y z H5)
    (hd : ∀ (H2 : Hp) (kvs : List (Key × V)), Ex H1 H2 → H2 D = some (.dK kvs) → KvR N H2 kvs (putAll kf vf ds) → Qd H2) :
    ∃ W : Nat → Nat → Hp → Prop, (∃ m, W 0 m (upd H1 D (.dK []))) ∧ ∀ i' m H, W i' m H →
  (J.stop i' H ∧ Qd H) ∨ (J.go i' H ∧ ∃ Nx : Hp → Prop, (∀ H', Nx H' → ∃ m', m' < m ∧ W (i' + 1) m' H') ∧ ∀ x H', J.yld i' H x H' → gName i x (wipe σ [i]) H' fun σ2 H2 => wipe σ2 [i] = wipe σ [i] ∧ tYes σ2 H2 fun b H3 =>
    if b = true then tk σ2 H3 fun y H4 => tv σ2 H4 fun z H5 => ∃ kvs k, y = kV k ∧ H5 D = some (.dK kvs) ∧ kvs.length < sizeLine ∧ Nx (upd H5 D (.dK (putK kvs k z))) else Nx H3) := by
  let Pv : Nat → Hp → Prop := fun j H => Ex H1 H ∧ ∃ kvs, H D = some (.dK kvs) ∧ kvs.length ≤ j ∧ KvR (plus N D) H kvs (putAll kf vf (ds.take j))
  refine ⟨fun j m H => m = ds.length - j ∧ j ≤ ds.length ∧ Pv j H, ⟨ds.length, by simp, Nat.zero_le _, Ex.new hD, [], upd_same, Nat.zero_le _, .nil⟩, ?_⟩
  rintro j m H ⟨rfl, hj, e, kvs, hy, hl, ry⟩
  by_cases hlt : j < ds.length
  · refine .inr ⟨wk.go j H e hlt, Pv (j + 1), fun H' p' => ⟨ds.length - (j + 1), by omega, rfl, hlt, p'⟩, fun x H' y => ?_⟩
    obtain ⟨eH, d, hdj, rx⟩ := wk.item j H x H' e hlt y
    subst eH
    have hN : NOk (plus N D) H' := (nN.ex e).plus (by rw [hy]; exact fun z => by cases z)
    refine ⟨set_wipe, ?_⟩
    refine iteT (B := Pv (j + 1) H') ?_
    refine (step x d H' (List.mem_of_getElem? hdj) e hN (rx D hD) (fun y z H5 => ∃ kvs k, y = kV k ∧ H5 D = some (.dK kvs) ∧ kvs.length < sizeLine ∧ Pv (j + 1) (upd H5 D (.dK (putK kvs k z)))) fun z H5 e5 rz => ?_)
    have hy5 := e5 _ _ hy
    refine ⟨kvs, Sum.inr (kf d), rfl, hy5, Nat.lt_of_le_of_lt (Nat.le_trans hl (Nat.le_trans hj hlen)) (by decide), (e.trans e5).mut hD, _, upd_same, ?_, ?_⟩
    · have := putS_len (putAll kf vf (ds.take j)) (kf d) (vf d)
      have l1 := ((ry.ex e5).put rz (k := kf d)).length
      have l2 := ry.length
      omega
    · have ext : Xn (plus N D) H5 (upd H5 D (.dK (putK kvs (Sum.inr (kf d)) z))) := fun b o n _ h => upd_at h fun z => n (.inr z)
      rw [take_snoc hdj, putAll_snoc]
      exact ((ry.ex e5).mono ext).put (rz.mono ext)
  · have z : j = ds.length := by omega
    subst z
    rw [List.take_length] at ry
    exact .inl ⟨wk.stop _ H e (Nat.le_refl _), hd H kvs e hy ry.less⟩
/-- unlike keys: each pair stands for itself -/
theorem putAll_nodup {kf : PyData → Str} {vf : PyData → PyData} : ∀ {ds : List PyData}, (ds.map kf).Nodup → putAll kf vf ds = ds.map fun d => (kf d, vf d) := by
  intro ds
  suffices h : ∀ (acc : List PyData), ((acc ++ ds).map kf).Nodup → ds.foldl (fun es d => putS es (kf d) (vf d)) (acc.map fun d => (kf d, vf d)) = (acc ++ ds).map fun d => (kf d, vf d) by
    intro hn
    exact h [] hn
  induction ds with
  | nil => intro acc _; simp
  | cons d r ih =>
    intro acc hn
    have e : putS (acc.map fun d => (kf d, vf d)) (kf d) (vf d) = (acc ++ [d]).map fun d => (kf d, vf d) := by
      unfold putS
      rw [if_neg]
      · simp
      · intro z
        obtain ⟨p, hp, hk⟩ := List.any_eq_true.mp z
        obtain ⟨a, ha, rfl⟩ := List.mem_map.mp hp
        have hk' : kf a = kf d := of_decide_eq_true hk
        rw [List.map_append, List.nodup_append] at hn
        exact hn.2.2 _ (List.mem_map_of_mem ha) _ (List.mem_map_of_mem List.mem_cons_self) hk'
    rw [List.foldl_cons, e, ih (acc ++ [d]) (by simpa using hn)]
    simp
theorem putS_dup {es : List (Str × PyData)} {k : Str} {v : PyData} (h : k ∈ es.map (·.1)) : (putS es k v).map (·.1) = es.map (·.1) := by
  unfold putS
  rw [if_pos]
  · rw [List.map_map]
    refine List.map_congr_left fun e _ => ?_
    show (if e.1 = k then (e.1, v) else e).1 = e.1
    split <;> rfl
  · obtain ⟨e, he, hk⟩ := List.mem_map.mp h
    exact List.any_eq_true.mpr ⟨e, he, decide_eq_true hk⟩
theorem putS_new {es : List (Str × PyData)} {k : Str} {v : PyData} (h : k ∉ es.map (·.1)) : (putS es k v).map (·.1) = es.map (·.1) ++ [k] := by
  unfold putS
  rw [if_neg]
  · simp
  · intro z
    obtain ⟨e, he, hk⟩ := List.any_eq_true.mp z
    exact h (List.mem_map.mpr ⟨e, he, of_decide_eq_true hk⟩)
/-- as many pairs as items exactly if the keys are unlike -/
theorem putAll_len {kf : PyData → Str} {vf : PyData → PyData} (ds : List PyData) : (putAll kf vf ds).length ≤ ds.length ∧ ((putAll kf vf ds).length = ds.length ↔ (ds.map kf).Nodup) ∧ (∀ k, k ∈ (putAll kf vf ds).map (·.1) ↔ k ∈ ds.map kf) := by
  have gen : ∀ (n : Nat) (ds : List PyData), ds.length = n → (putAll kf vf ds).length ≤ ds.length ∧ ((putAll kf vf ds).length = ds.length ↔ (ds.map kf).Nodup) ∧ (∀ k, k ∈ (putAll kf vf ds).map (·.1) ↔ k ∈ ds.map kf) := by
    intro n
    induction n with
    | zero =>
      intro ds h
      have e : ds = [] := List.length_eq_zero_iff.mp h
      subst e
      exact ⟨Nat.le_refl _, ⟨fun _ => List.nodup_nil, fun _ => rfl⟩, fun k => Iff.rfl⟩
    | succ n ih =>
      intro ds h
      have hne : ds ≠ [] := fun z => by rw [z] at h; cases h
      obtain ⟨r, d, rfl⟩ : ∃ r d, ds = r ++ [d] := ⟨ds.dropLast, ds.getLast hne, (List.dropLast_concat_getLast hne).symm⟩
      have hr : r.length = n := by simpa using h
      obtain ⟨a1, a2, a3⟩ := ih r hr
      rw [putAll_snoc, List.length_append, List.map_append]
      by_cases hk : kf d ∈ (putAll kf vf r).map (·.1)
      · have e1 := putS_dup (v := vf d) hk
        have l1 : (putS (putAll kf vf r) (kf d) (vf d)).length = (putAll kf vf r).length := by
          have := congrArg List.length e1
          simpa using this
        refine ⟨by rw [l1]; exact Nat.le_succ_of_le a1, ⟨fun z => ?_, fun z => ?_⟩, fun k => ?_⟩
        · rw [l1] at z
          simp at z
          omega
        · rw [List.nodup_append] at z
          exact absurd rfl (z.2.2 _ ((a3 _).mp hk) _ List.mem_cons_self)
        · rw [e1, a3, List.mem_append]
          refine ⟨Or.inl, fun z => z.elim id fun z => ?_⟩
          have z' : k = kf d := by simpa using z
          rw [z']
          exact (a3 _).mp hk
      · have e1 := putS_new (v := vf d) hk
        have l1 : (putS (putAll kf vf r) (kf d) (vf d)).length = (putAll kf vf r).length + 1 := by
          have := congrArg List.length e1
          simpa using this
        refine ⟨by rw [l1]; simpa using a1, ⟨fun z => ?_, fun z => ?_⟩, fun k => ?_⟩
        · rw [l1] at z
          have z' : (putAll kf vf r).length = r.length := by simpa using z
          rw [List.nodup_append]
          refine ⟨a2.mp z', by simp, fun a ha b hb e => ?_⟩
          have hb' : b = kf d := by simpa using hb
          rw [e, hb'] at ha
          exact hk ((a3 _).mpr ha)
        · rw [l1]
          rw [List.nodup_append] at z
          have := a2.mpr z.1
          simp [this]
        · rw [e1, List.mem_append, List.mem_append, a3]
          rfl
  exact gen _ ds rfl
end Rp
end

section
set_option Elab.async false
set_option linter.all false
set_option maxRecDepth 100000
set_option maxHeartbeats 2000000
/-! What the rules of single operations ask for, met by data. -/
namespace Rp
open PySem PySem.Spec PyProof.Rows L2
@[irreducible] def rIsY (K : PySem.W.Frag) : List V → Hp → VK → Prop := rIsZ K
theorem call_isY {X : Cx} : CallR X (.builtin "isinstance") (rIsY X.K) := by
  unfold rIsY
  exact call_isZ
@[irreducible] def rInY (K : PySem.W.Frag) (neg : Bool) : R2 := rIn K neg
theorem op_inY {X : Cx} : OpR X (compareOp .In) (rInY X.K false) := by
  unfold rInY
  exact op_in_seq
theorem op_notInY {X : Cx} : OpR X (compareOp .NotIn) (rInY X.K true) := by
  unfold rInY
  exact op_notIn_seq
@[irreducible] def rEqY (K : PySem.W.Frag) : R2 := rEqD K
@[irreducible] def rNeY (K : PySem.W.Frag) : R2 := rNeD K
theorem op_eqY {X : Cx} (hu : X.A.units + 64 < cLine) : OpR X (compareOp .Eq) (rEqY X.K) := by
  unfold rEqY
  exact op_eqD hu
theorem op_neY {X : Cx} (hu : X.A.units + 64 < cLine) : OpR X (compareOp .NotEq) (rNeY X.K) := by
  unfold rNeY
  exact op_neD hu
@[irreducible] def rIxY (K : PySem.W.Frag) : R2 := rIx K
theorem ix_Y {X : Cx} : IxR X (rIxY X.K) := by
  unfold rIxY
  exact ix_seq
/-- a def's answer where it may be asked -/
def given (c : Bool) (d : PyData) : Option PyData := if c = true then some d else none
theorem given_some {c : Bool} {d : PyData} (h : c = true) : given c d = some d := if_pos h
theorem given_inv {c : Bool} {d e : PyData} (h : given c d = some e) : c = true ∧ e = d := by
  cases c with
  | true => exact ⟨rfl, (Option.some.inj h).symm⟩
  | false => cases h
section
variable {K : PySem.W.Frag} {N : Addr → Prop} {H : Hp} {Q : VK} {v u : V} {d e : PyData}
theorem seq_sq {a : Addr} {xs : List V} (h : H a = some (.lst xs) ∨ H a = some (.tup xs)) : SqL K H a xs ∨ SqT K H a xs := h.imp SqL.of SqT.of
@[irreducible] def rLen (K : PySem.W.Frag) : List V → Hp → VK → Prop := fun xs H Q => ∃ p ys, xs = [V.ref p] ∧ (SqL K H p ys ∨ SqT K H p ys) ∧ Q (.int (ys.length : Int)) H
theorem call_lenS {X : Cx} : CallR X (.builtin "len") (rLen X.K) := by
  unfold rLen
  exact call_len_seq
/-- len of a list or tuple -/
theorem R.len (r : R N H v d) (h : isListed d = true) (k : Q (.int ((itemsOf d).length : Int)) H) : rLen K [v] H Q := by
  unfold rLen
  obtain ⟨a, xs, rfl, ha, ra⟩ := seq_of r h
  exact ⟨a, xs, rfl, seq_sq ha, by rw [ra.length]; exact k⟩
@[irreducible] def rTupOf (K : PySem.W.Frag) : List V → Hp → VK → Prop := fun xs H Q => ∃ p ys, xs = [.ref p] ∧ ((SqL K H p ys ∧ ∀ l, H l = none → Q (.ref l) (upd H l (.tup ys))) ∨ (SqT K H p ys ∧ Q (.ref p) H))
theorem call_tupS {X : Cx} : CallR X (.type "tuple") (rTupOf X.K) := by
  unfold rTupOf
  exact call_tuple_of
/-- tuple(..) of a list or tuple -/
theorem R.tupOf (r : R N H v d) (n : NOk N H) (h : isListed d = true) (k : ∀ v H', Ex H H' → R N H' v (.tuple (itemsOf d)) → Q v H') : rTupOf K [v] H Q := by
  unfold rTupOf
  cases r with
  | lst e nn q => exact ⟨_, _, rfl, .inl ⟨SqL.of e, fun l hl => k _ _ (Ex.new hl) (.tup upd_same (n.not hl) (q.ex (Ex.new hl)))⟩⟩
  | tup e nn q => exact ⟨_, _, rfl, .inr ⟨SqT.of e, k _ _ (Ex.refl H) (.tup e nn q)⟩⟩
  | _ => cases h
theorem atI_of {α : Type} {xs : List α} {i : Int} {x : α} (h0 : 0 ≤ i) (h : xs[i.toNat]? = some x) : atI xs i = some x := by
  have hl : i.toNat < xs.length := (List.getElem?_eq_some_iff.mp h).1
  unfold atI ixN
  rw [if_pos h0, if_pos (by omega)]
  exact h
/-- d[i], d a list or tuple -/
theorem R.ix {i : Int} (r : R N H v d) (h : isListed d = true) (h0 : 0 ≤ i) (he : (itemsOf d)[i.toNat]? = some e) (k : ∀ x, R N H x e → Q x H) : rIxY K v (.int i) H Q := by
  unfold rIxY
  obtain ⟨a, xs, rfl, ha, ra⟩ := seq_of r h
  obtain ⟨y, hy, ry⟩ := ra.getD he
  rcases ha with ha | ha
  · exact .inl ⟨a, xs, i, y, rfl, rfl, SqL.of ha, atI_of h0 hy, k y ry⟩
  · exact .inr (.inl ⟨a, xs, i, y, rfl, rfl, SqT.of ha, atI_of h0 hy, k y ry⟩)
def strOf : PyData → Str
  | .str x => x
  | _ => ""
theorem RAll.strV {xs : List V} {ds : List PyData} (r : RAll N H xs ds) (h : ds.all isStr = true) : xs = (ds.map strOf).map V.str := by
  induction ds generalizing xs with
  | nil => cases r; rfl
  | cons d ds ih =>
    cases r with
    | cons r t =>
      rw [List.all_cons, Bool.and_eq_true] at h
      rw [ih t h.2]
      cases d with
      | str x => rw [r.strv]; rfl
      | _ => cases h.1
theorem flat_strs : ∀ (ss : List Str), (ss.map V.str).all flatV = true
  | [] => rfl
  | s :: r => by
    rw [List.map_cons, List.all_cons, flat_strs r]
    rfl
theorem inV_strs {x : Str} : ∀ (ss : List Str), inV (.str x) (ss.map V.str) = decide (x ∈ ss)
  | [] => by simp [inV]
  | s :: r => by
    have ih := inV_strs (x := x) r
    unfold inV at ih ⊢
    rw [List.map_cons, List.any_cons, ih]
    have z : eqV (.str s) (.str x) = decide (s = x) := by
      show (s == x) = _
      by_cases c : s = x
      · subst c; simp
      · rw [decide_eq_false c]
        simpa using c
    rw [z]
    by_cases c : s = x
    · subst c; simp
    · have c' : ¬ x = s := fun q => c q.symm
      simp [c, c']
/-- a text in a list or tuple of texts -/
theorem R.inStrs {x : Str} (r : R N H v (.str x)) (ru : R N H u d) (h : isListed d = true) (hs : (itemsOf d).all isStr = true) (k : Q (.bl (decide (x ∈ (itemsOf d).map strOf))) H) : rInY K false v u H Q := by
  unfold rInY
  obtain ⟨a, xs, rfl, ha, ra⟩ := seq_of ru h
  have hx := ra.strV hs
  subst hx
  rw [r.strv]
  refine ⟨a, _, rfl, seq_sq ha, rfl, flat_strs _, ?_⟩
  rw [if_neg Bool.false_ne_true, inV_strs]
  exact k
theorem R.notInStrs {x : Str} (r : R N H v (.str x)) (ru : R N H u d) (h : isListed d = true) (hs : (itemsOf d).all isStr = true) (k : Q (.bl (!decide (x ∈ (itemsOf d).map strOf))) H) : rInY K true v u H Q := by
  unfold rInY
  obtain ⟨a, xs, rfl, ha, ra⟩ := seq_of ru h
  have hx := ra.strV hs
  subst hx
  rw [r.strv]
  refine ⟨a, _, rfl, seq_sq ha, rfl, flat_strs _, ?_⟩
  rw [if_pos rfl, inV_strs]
  exact k
/-- a new list, a new tuple -/
theorem RAll.lstNew {xs : List V} {ds : List PyData} (r : RAll N H xs ds) (n : NOk N H) (k : ∀ v H', Ex H H' → R N H' v (.list ds) → Q v H') : ∀ p, H p = none → Q (.ref p) (upd H p (.lst xs)) := fun p hp => k _ _ (Ex.new hp) (.lst upd_same (n.not hp) (r.ex (Ex.new hp)))
theorem RAll.tupNew {xs : List V} {ds : List PyData} (r : RAll N H xs ds) (n : NOk N H) (k : ∀ v H', Ex H H' → R N H' v (.tuple ds) → Q v H') : ∀ p, H p = none → Q (.ref p) (upd H p (.tup xs)) := fun p hp => k _ _ (Ex.new hp) (.tup upd_same (n.not hp) (r.ex (Ex.new hp)))
theorem RAll.lstR {xs : List V} {ds : List PyData} {p : Addr} (r : RAll N H xs ds) (n : NOk N H) (hp : H p = none) : R N (upd H p (.lst xs)) (.ref p) (.list ds) := .lst upd_same (n.not hp) (r.ex (Ex.new hp))
theorem RAll.tupR {xs : List V} {ds : List PyData} {p : Addr} (r : RAll N H xs ds) (n : NOk N H) (hp : H p = none) : R N (upd H p (.tup xs)) (.ref p) (.tuple ds) := .tup upd_same (n.not hp) (r.ex (Ex.new hp))
/-- isinstance of data -/
theorem R.isStrQ (r : R N H v d) (k : Q (.bl (isStr d)) H) : rIsY K [v, .ty "str"] H Q := by
  unfold rIsY
  exact ⟨_, _, _, _, _, rfl, .ty _, r.ty, kit_str d, k⟩
theorem R.isBoolQ (r : R N H v d) (k : Q (.bl (isBool d)) H) : rIsY K [v, .ty "bool"] H Q := by
  unfold rIsY
  exact ⟨_, _, _, _, _, rfl, .ty _, r.ty, kit_bool d, k⟩
theorem R.isIntQ (r : R N H v d) (k : Q (.bl (isInt d || isBool d)) H) : rIsY K [v, .ty "int"] H Q := by
  unfold rIsY
  exact ⟨_, _, _, _, _, rfl, .ty _, r.ty, kit_int d, k⟩
/-- comparisons of data -/
theorem R.eqD (r : R N H v d) (s : R N H u e) (nd : noDict d = true) (ne : noDict e = true) (hd : SeqAt.shaped d = true) (he : SeqAt.shaped e = true) (k : Q (.bl (PyData.eqv d e)) H) : rEqY K v u H Q := by
  unfold rEqY
  exact ⟨d, e, r.dp nd, s.dp ne, hd, he, k⟩
theorem R.neD (r : R N H v d) (s : R N H u e) (nd : noDict d = true) (ne : noDict e = true) (hd : SeqAt.shaped d = true) (he : SeqAt.shaped e = true) (k : Q (.bl (!PyData.eqv d e)) H) : rNeY K v u H Q := by
  unfold rNeY
  exact ⟨d, e, r.dp nd, s.dp ne, hd, he, k⟩
end
end Rp
end

section
set_option Elab.async false
set_option linter.all false
set_option maxRecDepth 100000
set_option maxHeartbeats 2000000
/-! Defs, methods and classes that may raise: the promises, the calls. -/
namespace Rp
open PySem PySem.Spec PyProof.Rows L2
open C8 (Fun Def)
section
variable {P : Program} {w : World} {K : PySem.W.Frag} {mg : Str → Option Value} {base : Heap}
/-- a def that may raise, by its body -/
theorem fnX {x qual : Str} {st : Stmt} {f : Addr} {fd : FuncData} {N ps : List Str} {k : Nat} {sp : Sp} (F : C8.Fun K x qual st f fd) (S : FnScope N ps (C8.fnScope st)) (len : ∀ vs H Q E, sp vs H Q E → vs.length = ps.length)
    (body : ∀ (cdv : Value) (A : Around) (outer : List Env) (s : Shared) (H : Hp) (vs : List V) (Q : VK) (E : XK), Room k (A.deeper (envOfC qual (C8.fnScope st) s.heap.objs.size f cdv)) → sp vs H Q E →
      ∃ t, PSs (cxOf (L2.CX P w) P w K mg base N qual (C8.fnScope st) f cdv A outer s H E) (C8.fnBody st) t ∧ t { nx := fun _ H' => Q .non H', rt := Q } (start N vs) H) : FnOk P w K mg base (L2.CX P w) (k + 1) f fd ps sp := by
  obtain ⟨oc, od, dV, kV, doc, pm, an, cdv, ct, osl, rfl, lk, hcd⟩ := F.ex
  exact fn_of lk hcd S len fun A outer s H vs Q E hr q => body cdv A outer s H vs Q E hr q
/-- a def that may be called by its name and may raise -/
structure CalX (P : Program) (w : World) (K : PySem.W.Frag) (mg : Str → Option Value) (base : Heap) (k : Nat) (x : Str) (sp : Sp) (dvs : List V) : Prop where
  ex : ∃ (f : Addr) (fd : FuncData) (ps : List Str) (ds : List Value), FnOk P w K mg base (L2.CX P w) k f fd ps sp ∧ mg x = some (.ref f) ∧ PySem.W.keepIn K (.ref f) = true ∧ Binds K fd ps ds ∧ Vals dvs ds
/-- a method that may raise -/
structure MetX (P : Program) (w : World) (K : PySem.W.Frag) (mg : Str → Option Value) (base : Heap) (k : Nat) (C : Addr) (m : Str) (sp : Sp) (dvs : List V) : Prop where
  ex : ∃ (f : Addr) (fd : FuncData) (ps : List Str) (ds : List Value), Cls K C ∧ Meth K C m f ∧ FnOk P w K mg base (L2.CX P w) k f fd ps sp ∧ Binds K fd ps ds ∧ Vals dvs ds
/-- a class whose making may raise -/
structure MakX (P : Program) (w : World) (K : PySem.W.Frag) (mg : Str → Option Value) (base : Heap) (k : Nat) (x : Str) (C : Addr) (sp : Sp) (dvs : List V) : Prop where
  ex : ∃ (f : Addr) (fd : FuncData) (ps : List Str) (ds : List Value), Mk K C f ∧ FnOk P w K mg base (L2.CX P w) k f fd ps sp ∧ mg x = some (.ref C) ∧ Binds K fd ps ds ∧ Vals dvs ds
theorem calX {x : Str} {st : Stmt} {f : Addr} {fd : FuncData} {N ps : List Str} {ds : List Value} {dvs : List V} {k : Nat} {sp : Sp} (F : Def K mg x st f fd) (b : Binds K fd ps ds) (d : Vals dvs ds) (S : FnScope N ps (C8.fnScope st)) (len : ∀ vs H Q E, sp vs H Q E → vs.length = ps.length)
    (body : ∀ (cdv : Value) (A : Around) (outer : List Env) (s : Shared) (H : Hp) (vs : List V) (Q : VK) (E : XK), Room k (A.deeper (envOfC x (C8.fnScope st) s.heap.objs.size f cdv)) → sp vs H Q E →
      ∃ t, PSs (cxOf (L2.CX P w) P w K mg base N x (C8.fnScope st) f cdv A outer s H E) (C8.fnBody st) t ∧ t { nx := fun _ H' => Q .non H', rt := Q } (start N vs) H) : CalX P w K mg base (k + 1) x sp dvs :=
  ⟨f, fd, ps, ds, fnX F.fn S len body, F.mgf, F.kp, b, d⟩
theorem metX {m qual : Str} {C : Addr} {st : Stmt} {f : Addr} {fd : FuncData} {N ps : List Str} {k : Nat} {sp : Sp} (c : Cls K C) (me : Meth K C m f) (F : C8.Fun K m qual st f fd) (b : Binds K fd ps []) (S : FnScope N ps (C8.fnScope st)) (len : ∀ vs H Q E, sp vs H Q E → vs.length = ps.length)
    (body : ∀ (cdv : Value) (A : Around) (outer : List Env) (s : Shared) (H : Hp) (vs : List V) (Q : VK) (E : XK), Room k (A.deeper (envOfC qual (C8.fnScope st) s.heap.objs.size f cdv)) → sp vs H Q E →
      ∃ t, PSs (cxOf (L2.CX P w) P w K mg base N qual (C8.fnScope st) f cdv A outer s H E) (C8.fnBody st) t ∧ t { nx := fun _ H' => Q .non H', rt := Q } (start N vs) H) : MetX P w K mg base (k + 1) C m sp [] :=
  ⟨f, fd, ps, [], c, me, fnX F S len body, b, .nil⟩
theorem makX {x qual : Str} {C : Addr} {st : Stmt} {f : Addr} {fd : FuncData} {N ps : List Str} {k : Nat} {sp : Sp} (M : Mk K C f) (hm : mg x = some (.ref C)) (F : C8.Fun K "__init__" qual st f fd) (b : Binds K fd ps []) (S : FnScope N ps (C8.fnScope st)) (len : ∀ vs H Q E, sp vs H Q E → vs.length = ps.length)
    (body : ∀ (cdv : Value) (A : Around) (outer : List Env) (s : Shared) (H : Hp) (vs : List V) (Q : VK) (E : XK), Room k (A.deeper (envOfC qual (C8.fnScope st) s.heap.objs.size f cdv)) → sp vs H Q E →
      ∃ t, PSs (cxOf (L2.CX P w) P w K mg base N qual (C8.fnScope st) f cdv A outer s H E) (C8.fnBody st) t ∧ t { nx := fun _ H' => Q .non H', rt := Q } (start N vs) H) : MakX P w K mg base (k + 1) x C sp [] :=
  ⟨f, fd, ps, [], M, fnX F S len body, hm, b, .nil⟩
end
section
variable {X : Cx} {k j : Nat} {C : Addr} {x m : Str} {sp : Sp} {dvs : List V} {p pos apos : Pos} {e o : Expr} {es : List Expr} {ta : TE} {t : TA} {E : XK}
/-- nothing is let out -/
theorem p0 : Passes (L2.CX X.prog X.w) X C8.E0 := passes_call LamX.takes0 fun _ _ _ _ h => h
theorem pe_cX (c : CalX X.prog X.w X.K X.mg X.base k x sp dvs) (hr : Room j X.A) (hk : k ≤ j) (hx : Passes (L2.CX X.prog X.w) X E) (hg : Gl X x) (ha : PA X (e :: es) t)
    (hd : (x == ("__debug__" : Str)) = false := by decide) (he : starEach (e :: es) X.env = (false, eval e X.env) :: starEach es X.env := by rfl) (hl : (backTo pos (starEach es X.env)).any (·.1) = false := by rfl) :
    PE X (.Call (.Name x p) (e :: es) [] pos) (tCall sp dvs E t) := by
  obtain ⟨f, fd, ps, ds, F, hm, kp, b, d⟩ := c.ex
  exact pe_call F (hr.mono hk) hg hm kp b d hx ha hd he hl
theorem pe_mkX (c : MakX X.prog X.w X.K X.mg X.base k x C sp dvs) (hr : Room j X.A) (hk : k + 1 ≤ j) (hx : Passes (L2.CX X.prog X.w) X E) (hg : Gl X x) (ha : PA X (e :: es) t)
    (hd : (x == ("__debug__" : Str)) = false := by decide) (he : starEach (e :: es) X.env = (false, eval e X.env) :: starEach es X.env := by rfl) (hl : (backTo pos (starEach es X.env)).any (·.1) = false := by rfl) :
    PE X (.Call (.Name x p) (e :: es) [] pos) (tMake C sp dvs E t) := by
  obtain ⟨f, fd, ps, ds, M, F, hm, b, d⟩ := c.ex
  exact pe_make M F (hr.mono hk) hg hm b d hx ha hd he hl
theorem pe_mtX {pl : Sem Bool} (c : MetX X.prog X.w X.K X.mg X.base k C m sp dvs) (hr : Room j X.A) (hk : k ≤ j) (hx : Passes (L2.CX X.prog X.w) X E) (he : PE X o ta) (ha : PA X (e :: es) t)
    (hs : starEach (e :: es) X.env = (false, eval e X.env) :: starEach es X.env := by rfl) (hl : (backTo pos (starEach es X.env)).any (·.1) = false := by rfl)
    (ht : eval (.Call (.Attribute o m apos) (e :: es) [] pos) X.env = (do
      let ov ← eval o X.env
      standAt apos.atName
      let (f, first) ← holding [ov] (getMethod ov m pl)
      callWith pos f first (backTo pos (starEach (e :: es) X.env)) (backToKw pos (keywordEach [] X.env))) := by rfl) :
    PE X (.Call (.Attribute o m apos) (e :: es) [] pos) (tMeth C m sp dvs E ta t) := by
  obtain ⟨f, fd, ps, ds, hc, hm, F, b, d⟩ := c.ex
  exact pe_meth (pl := pl) he hc hm F (hr.mono hk) b d hx ha hs hl ht
end
/-- an own error of the class at C leaves, its one field f worth the datum -/
def Thr (N : Addr → Prop) (H : Hp) (E : XK) (C : Addr) (f : Str) (d : PyData) : Prop := ∀ (a : Addr) (H' : Hp) (v : V), Ex H H' → R N H' v d → H a = none → H' a = some (.xd [(f, v)]) → E (.ref C) (some a) H'
theorem Thr.go {N : Addr → Prop} {H H1 : Hp} {E : XK} {C : Addr} {f : Str} {d : PyData} {v : V} (t : Thr N H E C f d) (e : Ex H H1) (r : R N H1 v d) : ∀ a, H1 a = none → E (.ref C) (some a) (upd H1 a (.xd [(f, v)])) := fun a ha =>
  t a _ v (e.trans (Ex.new ha)) (r.ex (Ex.new ha)) (e.free ha) upd_same
end Rp
end

section
set_option Elab.async false
set_option linter.all false
set_option maxRecDepth 100000
set_option maxHeartbeats 2000000
/-! Signs on the heap: rows of symbols, what an instance of Signs is worth. -/
namespace Rp
open PySem PySem.Spec PyProof.Rows L2
/-- all but what stands at x stays -/
def Xt (x : Addr) (H H' : Hp) : Prop := ∀ a o, a ≠ x → H a = some o → H' a = some o
theorem Xt.refl (x : Addr) (H : Hp) : Xt x H H := fun _ _ _ h => h
theorem Xt.trans {x : Addr} {H H1 H2 : Hp} (a : Xt x H H1) (b : Xt x H1 H2) : Xt x H H2 := fun y o n h => b y o n (a y o n h)
theorem Ex.xt {x : Addr} {H H' : Hp} (e : Ex H H') : Xt x H H' := fun a o _ h => e a o h
theorem Xt.xn {N : Addr → Prop} {x : Addr} {H H' : Hp} (t : Xt x H H') (h : N x) : Xn N H H' := fun a o n _ e => t a o (fun z => n (z ▸ h)) e
/-- a change of a new thing is none -/
theorem Xt.ex {x : Addr} {H0 H H' : Hp} (e : Ex H0 H) (t : Xt x H H') (n : H0 x = none) : Ex H0 H' := fun a o h => t a o (fun z => by rw [z, n] at h; cases h) (e a o h)
theorem Xt.upd {x : Addr} {H : Hp} {o : HO} : Xt x H (upd H x o) := fun a u n h => by rw [upd_ne n]; exact h
theorem NOk.upd {N : Addr → Prop} {H : Hp} {x : Addr} {o : HO} (n : NOk N H) : NOk N (L2.upd H x o) := fun a ha => by
  by_cases h : a = x
  · rw [h, upd_same]
    exact fun z => by cases z
  · rw [upd_ne h]
    exact n a ha
theorem R.upd {N : Addr → Prop} {H : Hp} {x : Addr} {o : HO} {v : V} {d : PyData} (r : R N H v d) (h : N x) : R N (L2.upd H x o) v d := r.mono (Xt.upd.xn h)
theorem putF_le (f : Str) (v : V) : ∀ fs : List (Str × V), (putF f v fs).length ≤ fs.length + 1
  | [] => Nat.le_refl _
  | (g, x) :: r => by
    unfold putF
    split
    · exact Nat.le_succ _
    · exact Nat.succ_le_succ (putF_le f v r)
theorem putF_lt {f : Str} {v : V} {fs : List (Str × V)} (h : fs.length < 900) : (putF f v fs).length < 901 := Nat.lt_of_le_of_lt (putF_le f v fs) (by omega)
/-- the value of a key -/
def valS (es : List (Str × PyData)) (k : Str) : Option PyData := (es.find? fun e => decide (e.1 = k)).map (·.2)
theorem KvR.val {N : Addr → Prop} {H : Hp} {k : Str} : ∀ {kvs : List (Key × V)} {es : List (Str × PyData)}, KvR N H kvs es →
    (valS es k = none ∧ valV kvs (Sum.inr k) = none) ∨ ∃ v d, valS es k = some d ∧ valV kvs (Sum.inr k) = some v ∧ R N H v d
  | _, _, .nil => .inl ⟨rfl, rfl⟩
  | _, _, @KvR.cons _ _ k' v' d' _ _ q t => by
    by_cases h : k' = k
    · refine .inr ⟨v', d', ?_, ?_, q⟩
      · simp [valS, List.find?_cons, h]
      · simp [valV, List.find?_cons, h]
    · rcases KvR.val (k := k) t with ⟨a, b⟩ | ⟨v, d, a, b, r⟩
      · refine .inl ⟨?_, ?_⟩
        · unfold valS at a ⊢
          rw [List.find?_cons, decide_eq_false h]
          exact a
        · unfold valV at b ⊢
          rw [List.find?_cons, decide_eq_false (show ¬ ((Sum.inr k' : Key) = Sum.inr k) from fun z => h (inr_eq.mp z))]
          exact b
      · refine .inr ⟨v, d, ?_, ?_, r⟩
        · unfold valS at a ⊢
          rw [List.find?_cons, decide_eq_false h]
          exact a
        · unfold valV at b ⊢
          rw [List.find?_cons, decide_eq_false (show ¬ ((Sum.inr k' : Key) = Sum.inr k) from fun z => h (inr_eq.mp z))]
          exact b
/-- a symbol: its name, the sorts of its arguments, its sort -/
structure SRow where
  name : Str
  args : List Str
  sort : Str
  deriving DecidableEq
def strsD (ss : List Str) : List PyData := ss.map PyData.str
def rowD (r : SRow) : PyData := .tuple [.str r.name, .tuple (strsD r.args), .str r.sort]
/-- the row of a name -/
def rowOf (sy : List SRow) : PyData → Option SRow
  | .str x => sy.find? fun r => decide (r.name = x)
  | _ => none
theorem valS_rows (x : Str) : ∀ sy : List SRow, valS (sy.map fun r => (r.name, rowD r)) x = (rowOf sy (.str x)).map rowD
  | [] => rfl
  | r :: t => by
    have ih : ((t.map fun r => (r.name, rowD r)).find? fun e => decide (e.1 = x)).map (·.2) = (t.find? fun r => decide (r.name = x)).map rowD := valS_rows x t
    show (((r.name, rowD r) :: t.map fun r => (r.name, rowD r)).find? fun e => decide (e.1 = x)).map (·.2) = ((r :: t).find? fun r => decide (r.name = x)).map rowD
    rw [List.find?_cons, List.find?_cons]
    by_cases h : r.name = x
    · rw [decide_eq_true h]
      rfl
    · rw [decide_eq_false h]
      exact ih
def rowOk (r : SRow) : Bool := PyData.strOk r.name && PyData.strOk r.sort && r.args.all PyData.strOk
/-- the instance of Signs, of the class at C, with these sorts and symbols -/
structure SigAt (C : Addr) (N : Addr → Prop) (H : Hp) (v : V) (so : List Str) (sy : List SRow) : Prop where
  ex : ∃ (x dx k : Addr) (vso vsy : V) (kvs : List (Key × V)), v = .ref x ∧ H x = some (.ins C dx [("sorts", vso), ("symbols", vsy), ("known", .ref k)]) ∧ ¬ N x ∧
    R N H vso (.tuple (strsD so)) ∧ R N H vsy (.tuple (sy.map rowD)) ∧ H k = some (.dK kvs) ∧ ¬ N k ∧ KvR N H kvs (sy.map fun r => (r.name, rowD r))
  ok : sy.all rowOk = true
  okS : so.all PyData.strOk = true
  few : sy.length ≤ 16
theorem SigAt.mono {C : Addr} {N : Addr → Prop} {H H' : Hp} {v : V} {so : List Str} {sy : List SRow} (s : SigAt C N H v so sy) (e : Xn N H H') : SigAt C N H' v so sy := by
  obtain ⟨x, dx, k, vso, vsy, kvs, ev, hx, nx, r1, r2, hk, nk, q⟩ := s.ex
  exact ⟨⟨x, dx, k, vso, vsy, kvs, ev, e _ _ nx nt_ins hx, nx, r1.mono e, r2.mono e, e _ _ nk nt_dK hk, nk, q.mono e⟩, s.ok, s.okS, s.few⟩
theorem SigAt.ex' {C : Addr} {N : Addr → Prop} {H H' : Hp} {v : V} {so : List Str} {sy : List SRow} (s : SigAt C N H v so sy) (e : Ex H H') : SigAt C N H' v so sy := s.mono e.xn
/-- not in N, yet tracked: SigAt for more of the named -/
theorem KvR.plus {N : Addr → Prop} {H : Hp} {D : Addr} (h : H D = none) : ∀ {kvs : List (Key × V)} {es : List (Str × PyData)}, KvR N H kvs es → KvR (Rp.plus N D) H kvs es
  | _, _, .nil => .nil
  | _, _, .cons r t => .cons (r.plus h) (KvR.plus h t)
theorem SigAt.plus {C : Addr} {N : Addr → Prop} {H : Hp} {v : V} {so : List Str} {sy : List SRow} {D : Addr} (s : SigAt C N H v so sy) (h : H D = none) : SigAt C (Rp.plus N D) H v so sy := by
  obtain ⟨x, dx, k, vso, vsy, kvs, ev, hx, nx, r1, r2, hk, nk, q⟩ := s.ex
  exact ⟨⟨x, dx, k, vso, vsy, kvs, ev, hx, fun z => z.elim nx (ne_of_none hx h), r1.plus h, r2.plus h, hk, fun z => z.elim nk (ne_of_none hk h), q.plus h⟩, s.ok, s.okS, s.few⟩
theorem SigAt.less {C : Addr} {N : Addr → Prop} {H : Hp} {v : V} {so : List Str} {sy : List SRow} {D : Addr} (s : SigAt C (Rp.plus N D) H v so sy) : SigAt C N H v so sy := by
  obtain ⟨x, dx, k, vso, vsy, kvs, ev, hx, nx, r1, r2, hk, nk, q⟩ := s.ex
  exact ⟨⟨x, dx, k, vso, vsy, kvs, ev, hx, fun z => nx (.inl z), r1.less, r2.less, hk, fun z => nk (.inl z), q.less⟩, s.ok, s.okS, s.few⟩
/-- the constants of a sort -/
def constsOf (sy : List SRow) (s : Str) : List Str := (sy.filter fun r => decide (r.args = []) && decide (r.sort = s)).map (·.name)
def keepC (s : Str) (d : PyData) : Bool := (itemsOf ((itemsOf d).getD 1 .none)).isEmpty && decide (strOf ((itemsOf d).getD 2 .none) = s)
theorem consts_rows (s : Str) : ∀ sy : List SRow, ((sy.map rowD).filter (keepC s)).map (fun d => (itemsOf d).getD 0 .none) = strsD (constsOf sy s)
  | [] => rfl
  | r :: t => by
    have ih := consts_rows s t
    have z : keepC s (rowD r) = (decide (r.args = []) && decide (r.sort = s)) := by
      show ((strsD r.args).isEmpty && decide (r.sort = s)) = _
      cases h : r.args <;> rfl
    unfold constsOf at ih ⊢
    rw [List.map_cons, List.filter_cons, List.filter_cons, z]
    cases hb : (decide (r.args = []) && decide (r.sort = s)) with
    | true =>
      rw [if_pos rfl, if_pos rfl, List.map_cons, List.map_cons, ih]
      rfl
    | false =>
      rw [if_neg Bool.false_ne_true, if_neg Bool.false_ne_true]
      exact ih
theorem lay_strs : ∀ ss : List Str, PyData.canLayAll0 (strsD ss) = ss.all PyData.strOk
  | [] => rfl
  | s :: r => by
    show (PyData.strOk s && PyData.canLayAll0 (strsD r)) = _
    rw [lay_strs r]
    rfl
theorem depth_strs : ∀ ss : List Str, PyData.depthAll (strsD ss) = 0
  | [] => rfl
  | s :: r => by
    show max (PyData.depth (.str s)) (PyData.depthAll (strsD r)) = 0
    rw [depth_strs r]
    rfl
theorem noDict_strs : ∀ ss : List Str, noDicts (strsD ss) = true
  | [] => rfl
  | s :: r => by
    show (noDict (.str s) && noDicts (strsD r)) = true
    rw [noDict_strs r]
    rfl
theorem shaped_strs {ss : List Str} (h : ss.all PyData.strOk = true) : SeqAt.shaped (.tuple (strsD ss)) = true ∧ SeqAt.shaped (.list (strsD ss)) = true := by
  constructor
  · show (PyData.canLayAll0 (strsD ss) && decide (PyData.depthAll (strsD ss) + 1 ≤ 64)) = true
    rw [lay_strs, depth_strs, h]
    rfl
  · show (PyData.canLayAll0 (strsD ss) && decide (PyData.depthAll (strsD ss) + 1 ≤ 64)) = true
    rw [lay_strs, depth_strs, h]
    rfl
theorem lay_rows : ∀ {sy : List SRow}, sy.all rowOk = true → PyData.canLayAll0 (sy.map rowD) = true
  | [], _ => rfl
  | r :: t, h => by
    rw [List.all_cons, Bool.and_eq_true] at h
    obtain ⟨h1, h3⟩ := Bool.and_eq_true_iff.mp h.1
    obtain ⟨h1, h2⟩ := Bool.and_eq_true_iff.mp h1
    show ((PyData.strOk r.name && (PyData.canLayAll0 (strsD r.args) && (PyData.strOk r.sort && true))) && PyData.canLayAll0 (t.map rowD)) = true
    rw [lay_rows h.2, lay_strs, h1, h2, h3]
    rfl
theorem depth_rows : ∀ sy : List SRow, PyData.depthAll (sy.map rowD) ≤ 2
  | [] => Nat.zero_le _
  | r :: t => by
    show max (PyData.depth (rowD r)) (PyData.depthAll (t.map rowD)) ≤ 2
    refine Nat.max_le.mpr ⟨?_, depth_rows t⟩
    show PyData.depthAll [.str r.name, .tuple (strsD r.args), .str r.sort] + 1 ≤ 2
    show max 0 (max (PyData.depthAll (strsD r.args) + 1) (max 0 0)) + 1 ≤ 2
    rw [depth_strs]
    decide
theorem noDict_rows : ∀ sy : List SRow, noDicts (sy.map rowD) = true
  | [] => rfl
  | r :: t => by
    show ((noDict (.str r.name) && (noDicts (strsD r.args) && (noDict (.str r.sort) && true))) && noDicts (t.map rowD)) = true
    rw [noDict_rows t, noDict_strs]
    rfl
theorem shaped_rows {sy : List SRow} (h : sy.all rowOk = true) : SeqAt.shaped (.tuple (sy.map rowD)) = true ∧ SeqAt.shaped (.list (sy.map rowD)) = true := by
  have := depth_rows sy
  have e : (PyData.canLayAll0 (sy.map rowD) && decide (PyData.depthAll (sy.map rowD) + 1 ≤ 64)) = true := by
    rw [lay_rows h, decide_eq_true (by omega)]
    rfl
  exact ⟨e, e⟩
/-- a symbol as a row is told -/
def rowT (r : SRow) : PyData := .tuple [.str r.name, .list (strsD r.args), .str r.sort]
end Rp
end

section
set_option Elab.async false
set_option linter.all false
set_option maxRecDepth 100000
set_option maxHeartbeats 2000000
/-! x != y of two instances of one own class that has only its own ==. -/
namespace Rp
open PySem PySem.Spec PyProof.Rows L2
/-- what the head says of the class at C, its == at f -/
structure NeOk (K : PySem.W.Frag) (C f : Addr) : Prop where
  cls : ∃ (nm q : Str) (N : Addr) (bs : List Value) (hdct : Bool) (sn : List Str) (sub : List Value) (ab : Bool) (col : Option Bool) (dd : Option Addr) (k0 k1 k2 k3 k5 : Option Value) (oc : Value) (od : Option Addr) (es : Array DictEntry) (ep : Nat) (sl : Array (Option Value)),
    K.lookup C = some (excClassObj nm q C N bs [.type "object"] hdct sn sub ab col dd k0 k1 k2 k3 k5 "object.__new__") ∧ K.lookup N = some ⟨oc, od, .dict es ep, sl⟩ ∧ StrKeys es ∧ nsFind es "__eq__" = some (.ref f) ∧ nsFind es "__ne__" = none
  fn : ∃ of, K.lookup f = some of ∧ of.cls = .type "function"
theorem NeOk.at {K : PySem.W.Frag} {C f : Addr} (n : NeOk K C f) {h : Heap} {x dx : Addr} {mA : Str → Option Value} (X : K.In h) (J : ObjM h x dx C mA) : h.OwnEqNoNe x C f "object" [.type "object"] := by
  obtain ⟨nm, q, N, bs, hdct, sn, sub, ab, col, dd, k0, k1, k2, k3, k5, oc, od, es, ep, sl, hC, hN, hk, he, hne⟩ := n.cls
  obtain ⟨of, hf, hfc⟩ := n.fn
  exact ⟨_, of, nm, q, N, bs, hdct, sn, sub, ab, col, dd, k0, k1, k2, k3, k5, "object.__new__", fun y => nsFind es y, _, J.obj, rfl, X _ _ hC, ⟨_, es, ep, X _ _ hN, rfl, hk, fun _ => rfl⟩, he, X _ _ hf, hfc, PySem.F.cmp_object.mro, PySem.F.cmp_object.eq.lookup, hne⟩
def rNeO (C : Addr) (sp : Sp) (E : XK) : R2 := fun x y H Q => ∃ a b dx dy fs gs, x = .ref a ∧ y = .ref b ∧ H a = some (.ins C dx fs) ∧ H b = some (.ins C dy gs) ∧ sp [.ref a, .ref b] H (fun v H' => ∃ k, v = .bl k ∧ Q (.bl (!k)) H') E
theorem op_neO {X : Cx} {CX : CXT} {n : Nat} {C f : Addr} {fd : FuncData} {ps : List Str} {sp : Sp} {E : XK} (F : FnOk X.prog X.w X.K X.mg X.base CX n f fd ps sp) (ne : NeOk X.K C f) (hb : Binds X.K fd ps []) (hx : Passes CX X E) (hr : Room (n + 1) X.A) : OpR X (compareOp .NotEq) (rNeO C sp E) := by
  intro pins s σ H x y v u Q I rx ry h
  obtain ⟨a, b, dx, dy, fs, gs, rfl, rfl, ha, hb', hsp⟩ := h
  obtain rfl : v = Value.ref a := rx
  obtain rfl : u = Value.ref b := ry
  obtain ⟨mA, J, _⟩ := ins_get I.hok ha
  obtain ⟨mB, J', _⟩ := ins_get I.hok hb'
  have Y := ne.at I.kIn J
  obtain ⟨hh, g, d, t, os⟩ := s
  refine compareOp_ne_ownEq PySem.F.cmp_object Y J'.obj rfl (by have := hr.un; omega) ?_
  have hl := F.len _ _ _ _ hsp
  have r2 : Vals [V.ref a, V.ref b] [Value.ref a, Value.ref b] := .cons rfl (.cons rfl .nil)
  refine wpAny_call (codeAny_mono (F.run X.A.in1 X.stack ⟨hh, g, d, t, os⟩ H ⟨[.ref a, .ref b], []⟩ [.ref a, .ref b] [.ref a, .ref b] _ E hr.in1 I.env0.in1 (by
    have := hb ⟨hh, g, d, t, os⟩ [.ref a, .ref b] I.kIn (by simpa using hl)
    simpa using this) r2 hsp) fun r s' hq => ?_)
  cases r with
  | error e => exact hx pins σ H _ e s' I hq
  | ok fl =>
    cases fl with
    | ret w =>
      obtain ⟨z, H', I', rz, k, ez, q⟩ := I.after hq
      subst ez
      cases rz
      exact ⟨k, rfl, .bl (!k), H', I', rfl, q⟩
    | next => exact False.elim hq
    | brk => exact False.elim hq
    | cont => exact False.elim hq
end Rp
end

section
set_option Elab.async false
set_option linter.all false
set_option maxRecDepth 100000
set_option maxHeartbeats 2000000
/-! The pen that draws: its heap; comprehensions and loops in which it is used; list(text). -/
namespace Rp
open PySem L2
/-! ### list(text) -/
@[irreducible] def rListStr : List V → Hp → VK → Prop := fun vs H Q => ∃ x : Str, vs = [V.str x] ∧ x.length ≤ sizeLine ∧ ∀ l, H l = none → Q (.ref l) (upd H l (.lst (x.cps.toList.map fun c => V.str ⟨#[c]⟩)))
theorem call_listStr {X : Cx} (hc : X.calm = true) : CallR X (.type "list") rListStr := by
  unfold rListStr
  intro pins s σ H xs us Q I r h
  obtain ⟨x, rfl, hx, q⟩ := h
  obtain ⟨u, rfl, t, rfl⟩ := vals1 r
  refine call_list_str (I.ok.hd hc) x t (fun h' tk acc' c' kp e hacc => ?_) hx
  obtain ⟨hsz, hat⟩ := hacc
  have rv : ∀ (cs : List Nat) (us : List Value), us.length = cs.length → (∀ (j : Nat) (v : Value), us[j]? = some v → ∃ c u, cs[j]? = some c ∧ v = .str ⟨#[c]⟩ u) → Vals (cs.map fun c => V.str ⟨#[c]⟩) us := by
    intro cs
    induction cs with
    | nil =>
      intro us hl _
      have e : us = [] := List.length_eq_zero_iff.mp hl
      subst e
      exact .nil
    | cons c cs ih =>
      intro us hl hat
      cases us with
      | nil => cases hl
      | cons u us =>
        obtain ⟨c2, t2, e1, e2⟩ := hat 0 u rfl
        cases e1
        subst e2
        exact .cons ⟨_, rfl⟩ (ih us (Nat.succ.inj hl) fun j v hv => hat (j + 1) v hv)
  have rvals := rv x.cps.toList acc'.toList (by simpa using hsz) fun j v hv => by
    obtain ⟨c, u, hc, e⟩ := hat j v (by simpa using hv)
    exact ⟨c, u, by rw [Array.getElem?_toList]; exact hc, e⟩
  exact ⟨.ref s.heap.objs.size, _, I.laid (t' := tk) kp (Nat.le_refl _) (show ObjOk X.prog X.w _ h' _ (.lst (x.cps.toList.map fun c => V.str ⟨#[c]⟩)) from ⟨by rw [List.length_map]; exact hx, acc'.toList, c', rvals, by simpa using e⟩), rfl, q _ (I.hok.fresh (Nat.le_refl _))⟩
theorem listStr_go {x : Str} {H : Hp} {Q : VK} (hx : x.length ≤ sizeLine) (k : ∀ l, H l = none → Q (.ref l) (upd H l (.lst (x.cps.toList.map fun c => V.str ⟨#[c]⟩)))) : rListStr [.str x] H Q := by
  unfold rListStr
  exact ⟨x, rfl, hx, k⟩
theorem signs_R {N : Addr → Prop} {H : Hp} (x : Str) : RAll N H (x.cps.toList.map fun c => V.str ⟨#[c]⟩) (signsD x) := by
  unfold signsD
  induction x.cps.toList with
  | nil => exact .nil
  | cons c r ih => exact .cons (.str _) ih
/-! ### the pen -/
/-- the pen at P: its cells at C, n draws are left to it -/
structure Pen (P C : Addr) (ns : List Int) (n : Nat) (H : Hp) : Prop where
  at_ : ∃ turn rest : Int, H P = some (.lst [.ref C, .int turn, .int rest]) ∧ 0 ≤ turn ∧ turn + n ≤ 1000000 ∧ 0 ≤ rest
  cells : H C = some (.lst (ns.map V.int))
  few : ns.length ≤ 63
theorem Pen.ne {P C : Addr} {ns : List Int} {n : Nat} {H : Hp} (p : Pen P C ns n H) : C ≠ P := by
  obtain ⟨t, r, h, _⟩ := p.at_
  refine ne_of p.cells h fun z => ?_
  have e := HO.lst.inj z
  cases ns with
  | nil => cases e
  | cons a l =>
    have := (List.cons.inj e).1
    cases this
theorem Pen.le {P C : Addr} {ns : List Int} {n m : Nat} {H : Hp} (p : Pen P C ns n H) (h : m ≤ n) : Pen P C ns m H := by
  obtain ⟨t, r, e, h0, h1, h2⟩ := p.at_
  exact ⟨⟨t, r, e, h0, by omega, h2⟩, p.cells, p.few⟩
/-- what keeps all lists keeps the pen -/
theorem Pen.keep {P C : Addr} {ns : List Int} {n : Nat} {H H' : Hp} (p : Pen P C ns n H) (e : ∀ a o, Nt o → H a = some o → H' a = some o) : Pen P C ns n H' := by
  obtain ⟨t, r, h, h0, h1, h2⟩ := p.at_
  exact ⟨⟨t, r, e _ _ nt_lst h, h0, h1, h2⟩, e _ _ nt_lst p.cells, p.few⟩
theorem Pen.ex {P C : Addr} {ns : List Int} {n : Nat} {H H' : Hp} (p : Pen P C ns n H) (e : Ex H H') : Pen P C ns n H' := p.keep fun a o _ h => e a o h
theorem Pen.upd {P C : Addr} {ns : List Int} {n : Nat} {H : Hp} {D : Addr} {o : HO} (p : Pen P C ns n H) (h1 : P ≠ D) (h2 : C ≠ D) : Pen P C ns n (L2.upd H D o) := by
  obtain ⟨t, r, h, h0, hn, hr⟩ := p.at_
  exact ⟨⟨t, r, by rw [upd_ne h1]; exact h, h0, hn, hr⟩, by rw [upd_ne h2]; exact p.cells, p.few⟩
theorem Pen.some {P C : Addr} {ns : List Int} {n : Nat} {H : Hp} (p : Pen P C ns n H) : H P ≠ none := by
  obtain ⟨t, r, h, _⟩ := p.at_
  rw [h]
  exact fun z => by cases z
theorem Pen.nok {P C : Addr} {ns : List Int} {n : Nat} {H : Hp} (p : Pen P C ns n H) : NOk (· = P) H := fun a ha => by
  rw [ha]
  exact p.some
/-- a draw from 0 below many -/
def spDraw : Sp := fun vs H Q _ => ∃ (P C : Addr) (ns : List Int) (n : Nat) (many : Int), vs = [.ref P, .int many] ∧ Pen P C ns (n + 1) H ∧ 1 ≤ many ∧ many < 1073741824 ∧
  ∀ (r : Int) (H' : Hp), 0 ≤ r → r < many → Pen P C ns n H' → Xt P H H' → Q (.int r) H'
/-- one of some things -/
def spPick : Sp := fun vs H Q _ => ∃ (N : Addr → Prop) (P C : Addr) (ns : List Int) (n : Nat) (v : V) (d : PyData), vs = [.ref P, v] ∧ N P ∧ R N H v d ∧ isListed d = true ∧ 1 ≤ (itemsOf d).length ∧ (itemsOf d).length ≤ 100000 ∧ Pen P C ns (n + 1) H ∧
  ∀ (i : Nat) (e : PyData) (x : V) (H' : Hp), (itemsOf d)[i]? = some e → Pen P C ns n H' → Xt P H H' → R N H' x e → Q x H'
theorem NOk.xt {N : Addr → Prop} {P : Addr} {H H' : Hp} (n : NOk N H) (x : Xt P H H') (h : H' P ≠ none) : NOk N H' := fun a ha => by
  by_cases e : a = P
  · rw [e]
    exact h
  · cases q : H a with
    | none => exact absurd q (n a ha)
    | some o =>
      rw [x a o e q]
      exact fun z => by cases z
theorem Xt.none {P a : Addr} {H H' : Hp} (x : Xt P H H') (h : H' a = none) (n : a ≠ P) : H a = none := by
  cases q : H a with
  | none => rfl
  | some o =>
    rw [x a o n q] at h
    cases h
/-! ### walks over heaps that change -/
structure WalkX (N : Addr → Prop) (J : It) (H1 : Hp) (ds : List PyData) : Prop where
  stop : ∀ i H, Xn N H1 H → ds.length ≤ i → J.stop i H
  go : ∀ i H, Xn N H1 H → i < ds.length → J.go i H
  item : ∀ i H x H', Xn N H1 H → i < ds.length → J.yld i H x H' → H' = H ∧ ∃ d, ds[i]? = some d ∧ R N H x d
theorem wkx_list {K : PySem.W.Frag} {N : Addr → Prop} {a : Addr} {H1 : Hp} {xs : List V} {ds : List PyData} (h : H1 a = some (.lst xs)) (n : ¬ N a) (r : RAll N H1 xs ds) : WalkX N (Itl K a) H1 ds where
  stop := fun i H e hi => ⟨xs, SqL.of (e _ _ n nt_lst h), by rw [r.length]; exact hi⟩
  go := fun i H e hi => ⟨xs, xs[i]'(by rw [r.length]; exact hi), SqL.of (e _ _ n nt_lst h), by simp⟩
  item := fun i H x H' e hi y => by
    obtain ⟨h', q⟩ := y
    have hx := q xs (SqL.of (e _ _ n nt_lst h))
    obtain ⟨d, hd, rd⟩ := r.get hx
    exact ⟨h', d, hd, rd.mono e⟩
theorem wkx_tup {K : PySem.W.Frag} {N : Addr → Prop} {a : Addr} {H1 : Hp} {xs : List V} {ds : List PyData} (h : H1 a = some (.tup xs)) (n : ¬ N a) (r : RAll N H1 xs ds) : WalkX N (Itt K a) H1 ds where
  stop := fun i H e hi => ⟨xs, SqT.of (e _ _ n nt_tup h), by rw [r.length]; exact hi⟩
  go := fun i H e hi => ⟨xs, xs[i]'(by rw [r.length]; exact hi), SqT.of (e _ _ n nt_tup h), by simp⟩
  item := fun i H x H' e hi y => by
    obtain ⟨h', q⟩ := y
    have hx := q xs (SqT.of (e _ _ n nt_tup h))
    obtain ⟨d, hd, rd⟩ := r.get hx
    exact ⟨h', d, hd, rd.mono e⟩
theorem wkx_range {N : Addr → Prop} {lo : Int} {n : Nat} {H1 : Hp} : WalkX N (Itr lo n) H1 (rangeD lo n) where
  stop := fun i H e hi => by
    have z : (rangeD lo n).length = n := by simp [rangeD]
    rw [z] at hi
    exact hi
  go := fun i H e hi => by
    have z : (rangeD lo n).length = n := by simp [rangeD]
    rw [z] at hi
    exact hi
  item := fun i H x H' e hi y => by
    have z : (rangeD lo n).length = n := by simp [rangeD]
    rw [z] at hi
    obtain ⟨h', hx⟩ := y
    subst hx
    exact ⟨h', .int (lo + i), by simp [rangeD, List.getElem?_map, List.getElem?_range hi], .int _⟩
theorem rangeD_length {lo : Int} {n : Nat} : (rangeD lo n).length = n := by simp [rangeD]
/-- a list or a tuple is walked -/
theorem seq_wkx {K : PySem.W.Frag} {N : Addr → Prop} {H1 : Hp} {v : V} {d : PyData} (r : R N H1 v d) (h : isListed d = true) : ∃ a J, v = .ref a ∧ SeqOf K a H1 J ∧ WalkX N J H1 (itemsOf d) ∧ ∀ D, H1 D = none → WalkX (plus N D) J H1 (itemsOf d) := by
  cases r with
  | lst e n q => exact ⟨_, _, rfl, .inl ⟨rfl, _, SqL.of e⟩, wkx_list e n q, fun D hD => wkx_list e (fun z => z.elim n (ne_of_none e hD)) (q.plus hD)⟩
  | tup e n q => exact ⟨_, _, rfl, .inr ⟨rfl, _, SqT.of e⟩, wkx_tup e n q, fun D hD => wkx_tup e (fun z => z.elim n (ne_of_none e hD)) (q.plus hD)⟩
  | _ => cases h
/-- a for over data -/
theorem for_data {N : Addr → Prop} {ds : List PyData} {g : TG} {tb : TS} {D : Ends} {σ : L2.St} {H1 : Hp} {J : It} (Pv : Nat → L2.St → Hp → Prop) (wk : WalkX N J H1 ds) (h0 : Pv 0 σ H1) (keep : ∀ i σ H, Pv i σ H → Xn N H1 H)
    (step : ∀ i v d σ H, ds[i]? = some d → Pv i σ H → R N H v d → g v σ H fun σ2 H2 => tb { D with nx := Pv (i + 1), ct := Pv (i + 1), bk := D.nx } σ2 H2) (hd : ∀ σ H, Pv ds.length σ H → D.nx σ H) :
    ∃ W : Nat → Nat → L2.St → Hp → Prop, (∃ m, W 0 m σ H1) ∧ ∀ i m σ H, W i m σ H →
      (J.stop i H ∧ D.nx σ H) ∨ (J.go i H ∧ ∃ Nx : L2.St → Hp → Prop, (∀ σ' H', Nx σ' H' → ∃ m', m' < m ∧ W (i + 1) m' σ' H') ∧ ∀ x H', J.yld i H x H' → g x σ H' fun σ2 H2 => tb { D with nx := Nx, ct := Nx, bk := D.nx } σ2 H2) := by
  refine ⟨fun i m σ H => m = ds.length - i ∧ i ≤ ds.length ∧ Pv i σ H, ⟨ds.length, by simp, Nat.zero_le _, h0⟩, ?_⟩
  rintro i m σ H ⟨rfl, hi, p⟩
  have k := keep i σ H p
  by_cases hlt : i < ds.length
  · refine .inr ⟨wk.go i H k hlt, Pv (i + 1), fun σ' H' p' => ⟨ds.length - (i + 1), by omega, rfl, hlt, p'⟩, fun x H' y => ?_⟩
    obtain ⟨eH, d, hdj, rx⟩ := wk.item i H x H' k hlt y
    subst eH
    exact step i x d σ H' hdj p rx
  · have z : i = ds.length := by omega
    subst z
    exact .inl ⟨wk.stop _ H k (Nat.le_refl _), hd σ H p⟩
/-- [e for x in data], the pen being used in e; cnt j draws are left ahead of the turn j -/
theorem lc_pen {N : Addr → Prop} {P C D : Addr} {ns : List Int} {ds : List PyData} {te : TE} {i : Nat} {σ : L2.St} {H1 : Hp} {Qd : Hp → Prop} {J : It} (cnt : Nat → Nat) (Good : PyData → PyData → Prop) (wk : WalkX (plus N D) J H1 ds) (hP : N P)
    (hD : H1 D = none) (nN : NOk N H1) (hlen : ds.length ≤ 100000) (pen : Pen P C ns (cnt 0) H1)
    (step : ∀ (j : Nat) (v : V) (d : PyData) (H2 : Hp), ds[j]? = some d → Xt P H1 H2 → NOk (plus N D) H2 → Pen P C ns (cnt j) H2 → R (plus N D) H2 v d → ∀ Q' : VK, (∀ y e H3, Xt P H2 H3 → Pen P C ns (cnt (j + 1)) H3 → R (plus N D) H3 y e → Good d e → Q' y H3) → te ((wipe σ [i]).set i (some v)) H2 Q')
    (hd : ∀ (H2 : Hp) (ys : List V) (es : List PyData), Xt P H1 H2 → Pen P C ns (cnt ds.length) H2 → H2 D = some (.lst ys) → RAll N H2 ys es → es.length = ds.length → (∀ (j : Nat) (d e : PyData), ds[j]? = some d → es[j]? = some e → Good d e) → Qd H2) :
    ∃ W : Nat → Nat → Hp → Prop, (∃ m, W 0 m (upd H1 D (.lst []))) ∧ ∀ i' m H, W i' m H →
    (J.stop i' H ∧ Qd H) ∨ (J.go i' H ∧ ∃ Nx : Hp → Prop, (∀ H', Nx H' → ∃ m', m' < m ∧ W (i' + 1) m' H') ∧ ∀ x H', J.yld i' H x H' → gName i x (wipe σ [i]) H' fun σ2 H2 => wipe σ2 [i] = wipe σ [i] ∧ tYes σ2 H2 fun b H3 =>
      if b = true then te σ2 H3 fun y H4 => ∃ acc, H4 D = some (.lst acc) ∧ acc.length < sizeLine ∧ Nx (upd H4 D (.lst (acc ++ [y]))) else Nx H3) := by
  have hPD : P ≠ D := fun z => pen.some (by rw [z]; exact hD)
  have hCD : C ≠ D := fun z => by
    have := pen.cells
    rw [z, hD] at this
    cases this
  let Pv : Nat → Hp → Prop := fun j H => Xt P H1 H ∧ Pen P C ns (cnt j) H ∧ ∃ ys es, H D = some (.lst ys) ∧ RAll (plus N D) H ys es ∧ es.length = j ∧ ∀ (j' : Nat) (d e : PyData), j' < j → ds[j']? = some d → es[j']? = some e → Good d e
  have h0 : Pv 0 (upd H1 D (.lst [])) := ⟨(Ex.new hD).xt, pen.upd hPD hCD, [], [], upd_same, .nil, rfl, fun j' _ _ h => absurd h (Nat.not_lt_zero _)⟩
  have mutD : ∀ {H : Hp} {o : HO}, Xt P H1 H → Xt P H1 (upd H D o) := fun {H o} x a u n h => by
    rw [upd_ne (ne_of_none h hD)]
    exact x a u n h
  refine ⟨fun j m H => m = ds.length - j ∧ j ≤ ds.length ∧ Pv j H, ⟨ds.length, by simp, Nat.zero_le _, h0⟩, ?_⟩
  rintro j m H ⟨rfl, hj, xt, pn, ys, es, hy, ry, le, gd⟩
  have xn : Xn (plus N D) H1 H := xt.xn (.inl hP)
  by_cases hlt : j < ds.length
  · refine .inr ⟨wk.go j H xn hlt, Pv (j + 1), fun H' p' => ⟨ds.length - (j + 1), by omega, rfl, hlt, p'⟩, fun x H' y => ?_⟩
    obtain ⟨eH, d, hdj, rx⟩ := wk.item j H x H' xn hlt y
    subst eH
    have hN : NOk (plus N D) H' := (nN.xt xt pn.some).plus (by rw [hy]; exact fun z => by cases z)
    refine ⟨set_wipe, ?_⟩
    refine iteT (B := Pv (j + 1) H') (step j x d H' hdj xt hN pn rx _ fun y e H4 x4 p4 r4 g4 => ?_)
    have hy4 := x4 _ _ (Ne.symm hPD) hy
    have ly : ys.length = j := by rw [ry.length, le]
    refine ⟨ys, hy4, Nat.lt_of_le_of_lt (by omega : ys.length ≤ 100000) (by decide), mutD (xt.trans x4), p4.upd hPD hCD, ys ++ [y], es ++ [e], upd_same, ?_, by rw [List.length_append, le]; rfl, fun j' d' e' hj' h1 h2 => ?_⟩
    · have ext : Xn (plus N D) H4 (upd H4 D (.lst (ys ++ [y]))) := fun b o n _ h => upd_at h fun z => n (.inr z)
      exact ((ry.mono (x4.xn (.inl hP))).mono ext).append (.cons (r4.mono ext) .nil)
    · by_cases hjj : j' < j
      · rw [List.getElem?_append_left (by omega)] at h2
        exact gd j' d' e' hjj h1 h2
      · have e1 : j' = j := by omega
        subst e1
        rw [hdj] at h1
        cases h1
        rw [List.getElem?_append_right (by omega)] at h2
        have z : j' - es.length = 0 := by omega
        rw [z] at h2
        cases h2
        exact g4
  · have z : j = ds.length := by omega
    subst z
    exact .inl ⟨wk.stop _ H xn (Nat.le_refl _), hd H ys es xt pn hy ry.less le fun j d e h1 h2 => gd j d e (List.getElem?_eq_some_iff.mp h1).1 h1 h2⟩
end Rp
end

section
set_option Elab.async false
set_option linter.all false
set_option maxRecDepth 100000
set_option maxHeartbeats 2000000
/-! Texts by their signs. -/
namespace Rp
open PySem L2
theorem str_ext {x y : Str} (h : x.cps.toList = y.cps.toList) : x = y := by
  cases x with
  | mk a =>
    cases y with
    | mk b => exact congrArg Str.mk (Array.toList_inj.mp h)
theorem cps_add (x y : Str) : (x ++ y).cps.toList = x.cps.toList ++ y.cps.toList := by
  rw [PySem.Str.cps_append, Array.toList_append]
theorem str_join_cps : ∀ ys : List Str, (Str.join "" ys).cps.toList = (ys.map fun y => y.cps.toList).flatten
  | [] => rfl
  | [x] => by
    show x.cps.toList = _
    simp
  | x :: y :: r => by
    have ih := str_join_cps (y :: r)
    show ((x ++ "") ++ Str.join "" (y :: r)).cps.toList = _
    rw [cps_add, ih, cps_add]
    have z : (("" : Str)).cps.toList = [] := by decide +kernel
    rw [z, List.append_nil, List.map_cons, List.flatten_cons]
    rfl
/-- ''.join of signs -/
theorem join_signs (cs : List Nat) : (Txt.join "" (cs.map fun c => (⟨#[c]⟩ : Str))).cps.toList = cs := by
  show (Builtin.Str.glued "" (cs.map fun c => (⟨#[c]⟩ : Str))).cps.toList = cs
  rw [StrLaws.glued_eq_join, str_join_cps, List.map_map]
  induction cs with
  | nil => rfl
  | cons c r ih =>
    rw [List.map_cons, List.flatten_cons, ih]
    rfl
theorem cut_front (z : Str) (k : Nat) : (cutS z none (some (k : Int))).cps.toList = z.cps.toList.take k := by
  unfold cutS
  show ((z.cps.toList.drop (HT.sIx z.length 0 none)).take (HT.sIx z.length z.length (some (k : Int)) - HT.sIx z.length 0 none)) = _
  rw [HT.sIx_none, HT.sIx_nat, List.drop_zero, Nat.sub_zero]
  have l : z.length = z.cps.toList.length := by
    show z.cps.size = _
    rw [Array.length_toList]
  rw [l]
  by_cases h : k ≤ z.cps.toList.length
  · rw [Nat.min_eq_left h]
  · rw [Nat.min_eq_right (by omega), List.take_length, List.take_of_length_le (by omega)]
end Rp
namespace Rp
open PySem L2
@[irreducible] def rRepY : R2 := rRep
theorem op_repY {X : Cx} : OpR X (binaryOp .Mult) rRepY := by
  unfold rRepY
  exact op_rep
@[irreducible] def rSlY (K : PySem.W.Frag) : V → Option Int → Option Int → Hp → VK → Prop := rSlL K
theorem sl_Y {X : Cx} : SlR X (rSlY X.K) := by
  unfold rSlY
  exact sl_list
theorem RAll.rep {N : Addr → Prop} {H : Hp} {xs : List V} {ds : List PyData} (r : RAll N H xs ds) : ∀ k : Nat, RAll N H (List.replicate k xs).flatten (List.replicate k ds).flatten
  | 0 => .nil
  | k + 1 => by
    rw [List.replicate_succ, List.replicate_succ, List.flatten_cons, List.flatten_cons]
    exact r.append (RAll.rep r k)
/-- list * int -/
theorem R.rep {N : Addr → Prop} {H : Hp} {Q : VK} {v : V} {ds : List PyData} {k : Int} (r : R N H v (.list ds)) (n : NOk N H) (h0 : -1000 ≤ k) (h1 : k ≤ 1000) (hl : ds.length ≤ 100) (q : ∀ x H', Ex H H' → R N H' x (.list (List.replicate k.toNat ds).flatten) → Q x H') : rRepY v (.int k) H Q := by
  unfold rRepY
  cases r with
  | lst e1 n1 q1 =>
    have l1 := q1.length
    refine ⟨_, _, _, rfl, rfl, e1, by omega, by omega, ?_, fun p hp => q _ _ (Ex.new hp) ((q1.rep k.toNat).lstR n hp)⟩
    have : ds.length * k.toNat ≤ 100 * 1000 := Nat.mul_le_mul hl (by omega)
    rw [l1]
    exact Nat.le_trans this (by decide)
/-- a slice of a list -/
theorem R.slice {N : Addr → Prop} {K : PySem.W.Frag} {H : Hp} {Q : VK} {v : V} {ds : List PyData} {lo hi : Option Int} (r : R N H v (.list ds)) (n : NOk N H) (q : ∀ x H', Ex H H' → R N H' x (.list ((ds.drop (HT.sIx ds.length 0 lo)).take (HT.sIx ds.length ds.length hi - HT.sIx ds.length 0 lo))) → Q x H') : rSlY K v lo hi H Q := by
  unfold rSlY
  cases r with
  | lst e1 n1 q1 =>
    refine ⟨_, _, rfl, SqL.of e1, fun p hp => q _ _ (Ex.new hp) ?_⟩
    have l1 := q1.length
    unfold cutV
    rw [l1]
    exact ((q1.drop _).take _).lstR n hp
end Rp
end

section
set_option Elab.async false
set_option linter.all false
set_option maxRecDepth 100000
set_option maxHeartbeats 2000000
/-! A def that calls what it gets, catches an own error and tells its kind and its fields. -/
namespace Rp
open PySem L2
/-- [e for target in data if t] over data, any target -/
theorem lc_genX {N : Addr → Prop} {D : Addr} {ds : List PyData} {g : TG} {tt : TT} {te : TE} {is : List Nat} {σ : L2.St} {H1 : Hp} {Qd : Hp → Prop} {J : It} (keep : PyData → Bool) (f : PyData → PyData) (wk : WalkD N J H1 ds)
    (hD : H1 D = none) (nN : NOk N H1) (hlen : ds.length ≤ 100000)
    (step : ∀ (v : V) (d : PyData) (H2 : Hp), d ∈ ds → Ex H1 H2 → NOk (plus N D) H2 → R (plus N D) H2 v d → ∀ (Qy : VK) (Qn : Hp → Prop), (keep d = true → ∀ y H3, Ex H2 H3 → R (plus N D) H3 y (f d) → Qy y H3) → (keep d = false → ∀ H3, Ex H2 H3 → Qn H3) →
      g v (wipe σ is) H2 fun σ2 H3 => wipe σ2 is = wipe σ is ∧ tt σ2 H3 fun b H4 => if b = true then te σ2 H4 Qy else Qn H4)
    (hd : ∀ (H2 : Hp) (ys : List V), Ex H1 H2 → H2 D = some (.lst ys) → RAll N H2 ys ((ds.filter keep).map f) → Qd H2) :
    ∃ W : Nat → Nat → Hp → Prop, (∃ m, W 0 m (upd H1 D (.lst []))) ∧ ∀ i' m H, W i' m H →
    (J.stop i' H ∧ Qd H) ∨ (J.go i' H ∧ ∃ Nx : Hp → Prop, (∀ H', Nx H' → ∃ m', m' < m ∧ W (i' + 1) m' H') ∧ ∀ x H', J.yld i' H x H' → g x (wipe σ is) H' fun σ2 H2 => wipe σ2 is = wipe σ is ∧ tt σ2 H2 fun b H3 =>
      if b = true then te σ2 H3 fun y H4 => ∃ acc, H4 D = some (.lst acc) ∧ acc.length < sizeLine ∧ Nx (upd H4 D (.lst (acc ++ [y]))) else Nx H3) := by
  let Pv : Nat → Hp → Prop := fun j H => Ex H1 H ∧ ∃ ys, H D = some (.lst ys) ∧ RAll (plus N D) H ys (((ds.take j).filter keep).map f)
  refine ⟨fun j m H => m = ds.length - j ∧ j ≤ ds.length ∧ Pv j H, ⟨ds.length, by simp, Nat.zero_le _, Ex.new hD, [], upd_same, .nil⟩, ?_⟩
  rintro j m H ⟨rfl, hj, e, ys, hy, ry⟩
  by_cases hlt : j < ds.length
  · refine .inr ⟨wk.go j H e hlt, Pv (j + 1), fun H' p' => ⟨ds.length - (j + 1), by omega, rfl, hlt, p'⟩, fun x H' y => ?_⟩
    obtain ⟨eH, d, hdj, rx⟩ := wk.item j H x H' e hlt y
    subst eH
    have hN : NOk (plus N D) H' := (nN.ex e).plus (by rw [hy]; exact fun z => by cases z)
    refine step x d H' (List.mem_of_getElem? hdj) e hN (rx D hD) _ _ (fun hk y H4 e4 r4 => ?_) fun hk H3 e3 => ?_
    · have hy4 := e4 _ _ hy
      have ly : ys.length ≤ ds.length := by
        rw [ry.length, List.length_map]
        exact Nat.le_trans (List.length_filter_le _ _) (by rw [List.length_take]; omega)
      refine ⟨ys, hy4, Nat.lt_of_le_of_lt (Nat.le_trans ly hlen) (by decide), (e.trans e4).mut hD, ys ++ [y], upd_same, ?_⟩
      have ext : Xn (plus N D) H4 (upd H4 D (.lst (ys ++ [y]))) := fun b o n _ h => upd_at h fun z => n (.inr z)
      rw [take_snoc hdj, List.filter_append, List.map_append]
      have z : [d].filter keep = [d] := by simp [hk]
      rw [z]
      exact ((ry.ex e4).mono ext).append (.cons (r4.mono ext) .nil)
    · refine ⟨e.trans e3, ys, e3 _ _ hy, ?_⟩
      rw [take_snoc hdj, List.filter_append]
      have z : [d].filter keep = [] := by simp [hk]
      rw [z, List.append_nil]
      exact ry.ex e3
  · have z : j = ds.length := by omega
    subst z
    rw [List.take_length] at ry
    exact .inl ⟨wk.stop _ H e (Nat.le_refl _), hd H ys e hy ry.less⟩
@[irreducible] def rCatY : R2 := rCat
theorem op_catY {X : Cx} : OpR X (binaryOp .Add) rCatY := by
  unfold rCatY
  exact op_cat
/-- list + list -/
theorem R.cat {N : Addr → Prop} {H : Hp} {Q : VK} {v u : V} {ds es : List PyData} (r : R N H v (.list ds)) (s : R N H u (.list es)) (n : NOk N H) (hl : ds.length + es.length ≤ 100000) (k : ∀ x H', Ex H H' → R N H' x (.list (ds ++ es)) → Q x H') : rCatY v u H Q := by
  unfold rCatY
  cases r with
  | lst e1 n1 q1 =>
    cases s with
    | lst e2 n2 q2 =>
      have l1 := q1.length
      have l2 := q2.length
      exact ⟨_, _, _, _, rfl, rfl, e1, e2, Nat.le_trans (by omega : _ ≤ 100000) (by decide), fun p hp => k _ _ (Ex.new hp) ((q1.append q2).lstR n hp)⟩
/-- [c] * k, c an atom -/
theorem rep_go {N : Addr → Prop} {σ : L2.St} {H : Hp} {Q : VK} {c : V} {d : PyData} {k : Int} (n : NOk N H) (hc : ∀ H, R N H c d) (h0 : -1000 ≤ k) (h1 : k ≤ 1000) (q : ∀ x H', Ex H H' → R N H' x (.list (List.replicate k.toNat d)) → Q x H') : tOp rRepY (tLst (tCons (tC c) tNil)) (tC (.int k)) σ H Q :=
  ⟨(by show 1 ≤ sizeLine; decide), fun p hp => R.rep (N := N) (.lst upd_same (n.not hp) (.cons (hc _) .nil)) (n.ex (Ex.new hp)) h0 h1 (by show 1 ≤ 100; decide) fun x H' e r => q x H' ((Ex.new hp).trans e) (by
    have z : (List.replicate k.toNat [d]).flatten = List.replicate k.toNat d := by
      induction k.toNat with
      | zero => rfl
      | succ m ih => rw [List.replicate_succ, List.replicate_succ, List.flatten_cons, ih]; rfl
    rw [z] at r
    exact r)⟩
/-! ### a caught error -/
/-- at a: the error of the class at C, its dict at dd with the fields fs -/
structure ErrAt (H : Hp) (a C dd : Addr) (fs : List (Str × V)) : Prop where
  a : H a = some (ExV (.ref C) (some dd) a)
  d : H dd = some (.xd fs)
theorem ErrAt.ex {H H' : Hp} {a C dd : Addr} {fs : List (Str × V)} (x : ErrAt H a C dd fs) (e : Ex H H') : ErrAt H' a C dd fs := ⟨e _ _ x.a, e _ _ x.d⟩
section
variable {K : PySem.W.Frag} {H : Hp} {Q : VK} {a C dd : Addr} {fs : List (Str × V)}
theorem ErrAt.ty (x : ErrAt H a C dd fs) (c : ExcD K C) : TyZ K H (.ref a) (.ref C) := .e x.a (fun d e => by cases e; exact ⟨fs, x.d⟩) c
theorem ErrAt.is {D : Addr} {b : Bool} (x : ErrAt H a C dd fs) (c : ExcD K C) (e : PySem.W.kitOne K (.ref C) (.ref D) = some b) (k : Q (.bl b) H) : rIsY K [.ref a, .ref D] H Q := by
  unfold rIsY
  exact ⟨_, _, _, _, _, rfl, .own D, x.ty c, e, k⟩
/-- (w, isinstance(caught, D)) for each told w, D -/
def pairsT0 (K : PySem.W.Frag) : List (Str × Addr) → TA
  | [] => tNil
  | (w, D) :: r => tCons (tTup (tCons (tC (.str w)) (tCons (tCB (rIsY K) (tCons (tVar 1) (tCons (tC (.ref D)) tNil))) tNil))) (pairsT0 K r)
@[irreducible] def pairsT (K : PySem.W.Frag) (l : List (Str × Addr)) : TA := pairsT0 K l
theorem pa_pnil {X : Cx} : PA X [] (pairsT X.K []) := by
  unfold pairsT
  exact pa_nil
theorem pa_pcons {X : Cx} {e : Expr} {es : List Expr} {w : Str} {D : Addr} {r : List (Str × Addr)} (h : PE X e (tTup (tCons (tC (.str w)) (tCons (tCB (rIsY X.K) (tCons (tVar 1) (tCons (tC (.ref D)) tNil))) tNil)))) (t : PA X es (pairsT X.K r))
    (he : starEach (e :: es) X.env = (false, eval e X.env) :: starEach es X.env := by rfl) : PA X (e :: es) (pairsT X.K ((w, D) :: r)) := by
  unfold pairsT at t ⊢
  exact pa_cons h t he
def pairsD (bit : Str → Bool) (l : List (Str × Addr)) : List PyData := l.map fun p => .tuple [.str p.1, .bool (bit p.1)]
theorem pairs_go0 {N : Addr → Prop} {σ : L2.St} {bit : Str → Bool} : ∀ (l : List (Str × Addr)) {H : Hp} {Q : List V → Hp → Prop}, ErrAt H a C dd fs → ExcD K C → NOk N H → σ[1]? = some (some (.ref a)) → (∀ p ∈ l, PySem.W.kitOne K (.ref C) (.ref p.2) = some (bit p.1)) →
    (∀ vs H', Ex H H' → RAll N H' vs (pairsD bit l) → Q vs H') → pairsT0 K l σ H Q
  | [], H, Q, _, _, _, _, _, k => by
    exact k [] H (Ex.refl H) .nil
  | (w, D) :: r, H, Q, x, c, n, hs, hk, k => by
    refine ⟨_, hs, x.is c (hk _ List.mem_cons_self) ⟨(by show 2 ≤ sizeLine; decide), fun p hp => ?_⟩⟩
    have e0 := Ex.new (o := HO.tup [.str w, .bl (bit w)]) hp
    refine pairs_go0 r (x.ex e0) c (n.ex e0) hs (fun q hq => hk q (List.mem_cons_of_mem _ hq)) fun vs H' e' rs => ?_
    have rt : R N (upd H p (.tup [.str w, .bl (bit w)])) (.ref p) (.tuple [.str w, .bool (bit w)]) := .tup upd_same (n.not hp) (.cons (.str w) (.cons (.bl _) .nil))
    exact k _ H' (e0.trans e') (.cons (rt.ex e') rs)
theorem pairs_go {N : Addr → Prop} {σ : L2.St} {bit : Str → Bool} (l : List (Str × Addr)) {H : Hp} {Q : List V → Hp → Prop} (x : ErrAt H a C dd fs) (c : ExcD K C) (n : NOk N H) (hs : σ[1]? = some (some (.ref a))) (hk : ∀ p ∈ l, PySem.W.kitOne K (.ref C) (.ref p.2) = some (bit p.1))
    (k : ∀ vs H', Ex H H' → RAll N H' vs (pairsD bit l) → Q vs H') : pairsT K l σ H Q := by
  unfold pairsT
  exact pairs_go0 l x c n hs hk k
end
/-- what the head says of an error's class at C, that is caught as one of the class at CP -/
structure ErrC (K : PySem.W.Frag) (CP C : Addr) : Prop where
  exm : PySem.W.exmOne K (.ref C) (.ref CP) = some true
  exd : ExcD K C
def keepB (d : PyData) : Bool := match (itemsOf d).getD 1 .none with
  | .bool b => b
  | _ => false
def firstD (d : PyData) : PyData := (itemsOf d).getD 0 .none
end Rp
end

section
set_option Elab.async false
set_option linter.all false
set_option maxRecDepth 100000
set_option maxHeartbeats 2000000
/-! Sorted texts: there is but one order. -/
namespace Rp
open PySem L2
def leS (a b : Str) : Prop := a.cps.toList ≤ b.cps.toList
theorem leS_of {a b : Str} (h : Spec.ltCps b.cps.toList a.cps.toList = false) : leS a b := by
  rw [PyProof.Rows.ltCps_eq] at h
  exact List.not_lt.mp (of_decide_eq_false h)
theorem leS_trans {a b c : Str} (h : leS a b) (h2 : leS b c) : leS a c := List.le_trans h h2
theorem leS_anti {a b : Str} (h : leS a b) (h2 : leS b a) : a = b := str_ext (List.le_antisymm h h2)
theorem rising_pw : ∀ (r : List Str) (p : Str), PyProof.Rows.risingS p r = true → (∀ x ∈ r, leS p x) ∧ r.Pairwise leS
  | [], p, _ => ⟨fun x h => (List.not_mem_nil h).elim, .nil⟩
  | x :: r, p, h => by
    have h : (!Spec.ltCps x.cps.toList p.cps.toList && PyProof.Rows.risingS x r) = true := h
    rw [Bool.and_eq_true, Bool.not_eq_true'] at h
    obtain ⟨h1, h2⟩ := rising_pw r x h.2
    have h0 := leS_of h.1
    refine ⟨fun y hy => ?_, List.pairwise_cons.mpr ⟨h1, h2⟩⟩
    rcases List.mem_cons.mp hy with rfl | hy
    · exact h0
    · exact leS_trans h0 (h1 y hy)
theorem sorted_pw {l : List Str} (h : PyProof.Rows.sortedS l = true) : l.Pairwise leS := by
  cases l with
  | nil => exact .nil
  | cons x r =>
    obtain ⟨h1, h2⟩ := rising_pw r x h
    exact List.pairwise_cons.mpr ⟨h1, h2⟩
theorem sorted_one : ∀ {l m : List Str}, l.Perm m → l.Pairwise leS → m.Pairwise leS → l = m
  | [], m, p, _, _ => by rw [List.nil_perm.mp p]
  | a :: l, [], p, _, _ => by cases List.perm_nil.mp p
  | a :: l, b :: m, p, h1, h2 => by
    obtain ⟨a1, a2⟩ := List.pairwise_cons.mp h1
    obtain ⟨b1, b2⟩ := List.pairwise_cons.mp h2
    have hab : a = b := by
      have ha : a ∈ b :: m := p.subset List.mem_cons_self
      have hb : b ∈ a :: l := p.symm.subset List.mem_cons_self
      rcases List.mem_cons.mp ha with e | ha
      · exact e
      · rcases List.mem_cons.mp hb with e | hb
        · exact e.symm
        · exact leS_anti (a1 b hb) (b1 a ha)
    subst hab
    rw [sorted_one (List.Perm.cons_inv p) a2 b2]
end Rp
end

section
set_option Elab.async false
set_option linter.all false
set_option maxRecDepth 100000
set_option maxHeartbeats 2000000
/-! Displays of constants: data at once. -/
namespace Rp
open PySem L2
/-- a display that is the datum d -/
def tLit (d : PyData) : TE := fun _ H Q => ∃ N : Addr → Prop, NOk N H ∧ ∀ u H', Ex H H' → R N H' u d → Q u H'
def tLits (ds : List PyData) : TA := fun _ H Q => ∃ N : Addr → Prop, NOk N H ∧ ∀ us H', Ex H H' → RAll N H' us ds → Q us H'
section
variable {X : Cx} {e : Expr} {es : List Expr} {d : PyData} {ds : List PyData}
theorem pe_weak {t t' : TE} (he : PE X e t) (h : ∀ σ H Q, t' σ H Q → t σ H Q) : PE X e t' := ⟨fun pins s σ H Q I q => he.run pins s σ H Q I (h σ H Q q)⟩
theorem pa_weak {t t' : TA} (he : PA X es t) (h : ∀ σ H Q, t' σ H Q → t σ H Q) : PA X es t' := ⟨fun pos pins s σ H Q I q => he.run pos pins s σ H Q I (h σ H Q q)⟩
theorem lit_str {x : Str} {j pos} : PE X (.Constant (.str x) j pos) (tLit (.str x)) := pe_weak pe_str fun σ H Q ⟨N, n, k⟩ => k _ H (Ex.refl H) (.str x)
theorem lit_int {i : Int} {j pos} : PE X (.Constant (.int i) j pos) (tLit (.int i)) := pe_weak pe_int fun σ H Q ⟨N, n, k⟩ => k _ H (Ex.refl H) (.int i)
theorem lit_non {j pos} : PE X (.Constant .none j pos) (tLit .none) := pe_weak pe_non fun σ H Q ⟨N, n, k⟩ => k _ H (Ex.refl H) .non
theorem lit_bl {b : Bool} {j pos} : PE X (.Constant (.bool b) j pos) (tLit (.bool b)) := pe_weak pe_bl fun σ H Q ⟨N, n, k⟩ => k _ H (Ex.refl H) (.bl b)
theorem lits_nil : PA X [] (tLits []) := pa_weak pa_nil fun σ H Q ⟨N, n, k⟩ => k _ H (Ex.refl H) .nil
theorem lits_cons (he : PE X e (tLit d)) (hr : PA X es (tLits ds)) (hs : starEach (e :: es) X.env = (false, eval e X.env) :: starEach es X.env := by rfl) : PA X (e :: es) (tLits (d :: ds)) :=
  pa_weak (pa_cons he hr hs) fun σ H Q ⟨N, n, k⟩ => ⟨N, n, fun u H1 e1 r1 => ⟨N, n.ex e1, fun us H2 e2 r2 => k _ H2 (e1.trans e2) (.cons (r1.ex e2) r2)⟩⟩
theorem lit_lst {pos} (h : PA X es (tLits ds)) (hl : ds.length ≤ 1000 := by decide) : PE X (.List es pos) (tLit (.list ds)) :=
  pe_weak (pe_lst h) fun σ H Q ⟨N, n, k⟩ => ⟨N, n, fun us H1 e1 r1 => ⟨by rw [r1.length]; exact Nat.le_trans hl (by decide), fun p hp => k _ _ (e1.trans (Ex.new hp)) (r1.lstR (n.ex e1) hp)⟩⟩
theorem lit_tup {pos x1} (h : PA X es (tLits ds)) (hl : ds.length ≤ 1000 := by decide) : PE X (.Tuple es x1 pos) (tLit (.tuple ds)) :=
  pe_weak (pe_tup h) fun σ H Q ⟨N, n, k⟩ => ⟨N, n, fun us H1 e1 r1 => ⟨by rw [r1.length]; exact Nat.le_trans hl (by decide), fun p hp => k _ _ (e1.trans (Ex.new hp)) (r1.tupR (n.ex e1) hp)⟩⟩
end
end Rp
end

section
set_option Elab.async false
set_option linter.all false
set_option maxRecDepth 100000
set_option maxHeartbeats 2000000
namespace K1
open PySem L2 Rp
def topS (i : Nat) : Stmt := PySem.Challenge.pw_rulepurse_k02_trees_spots.main.body.getD i (.Pass ⟨0, 0, 0, 0⟩)
/-- what the module's names are, those of the built-ins not being among them -/
structure TxtB (K : PySem.W.Frag) (mg : Str → Option Value) : Prop where
  len : mg "len" = none
  int : mg "int" = none
  abs : mg "abs" = none
  isinstance : mg "isinstance" = none
  bool : mg "bool" = none
  str : mg "str" = none
  list : mg "list" = none
  tuple : mg "tuple" = none
  all : mg "all" = none
  range : mg "range" = none
  sorted : mg "sorted" = none
  mg_LETTERS : ∃ t, mg "LETTERS" = some (.str "abcdefghijklmnopqrstuvwxyz" t)
  mg_MOST_SORTS : ∃ t, mg "MOST_SORTS" = some (.int 6 t)
  mg_MOST_SYMBOLS : ∃ t, mg "MOST_SYMBOLS" = some (.int 16 t)
  mg_MOST_ARGUMENTS : ∃ t, mg "MOST_ARGUMENTS" = some (.int 3 t)
local macro_rules | `(tactic| walk_at "rd") => `(tactic| repeat (first
  | refine ⟨_, rfl, ?_⟩
  | refine ⟨_, _, rfl, rfl, ?_⟩
  | refine ⟨rfl, ?_⟩
  | refine iteT ?_
  | refine iteF ?_))
section
variable {P : Program} {w : World} {K : PySem.W.Frag} {mg : Str → Option Value} {base : Heap} {f : Addr} {fd : FuncData}
theorem dec_int (a b : Int) : decide (V.int a = V.int b) = decide (a = b) := by simp
/-! ### checks -/
def F_is_integer : List PyData → Option PyData
  | [x] => some (.bool (isInt x))
  | _ => none
theorem len1 {F : List PyData → Option PyData} {n : Nat} (h : ∀ ds d, F ds = some d → ds.length = n) : ∀ vs H Q E, spP F vs H Q E → vs.length = n := fun vs H Q E ⟨N, ds, d, _, r, hF, _⟩ => r.length.trans (h ds d hF)
theorem sc_is_integer : FnScope ["value"] ["value"] (C8.fnScope (topS 18)) := C8.fnScope_by (by decide +kernel)
theorem ok_is_integer (D : C8.Def K mg "is_integer" (topS 18) f fd) (b : Binds K fd ["value"] []) (T : TxtB K mg) : C8.Cal P w K mg base 1 "is_integer" (spP F_is_integer) [] :=
  C8.cal0 D b .nil sc_is_integer (len1 fun ds d h => by match ds, h with | [x], _ => rfl) fun cdv A outer s H vs Q E hr h => by
    obtain ⟨N, ds, d, n, r, hF, k⟩ := h
    match ds, hF with
    | [x], hF =>
      obtain ⟨v, rfl, rv⟩ := r.one
      cases hF
      refine ⟨_, (pss_one (ps_ret (pe_and (pe_callB call_isZ (by rfl) T.isinstance PyProof.Rows.Boot.«isinstance» (pa_cons (pv 0) (pa_cons (pe_bltn (v := .ty "int") rfl T.int PyProof.Rows.Boot.«int» rfl) pa_nil))) (pe_one (pe_not (pe_callB call_isZ (by rfl) T.isinstance PyProof.Rows.Boot.«isinstance» (pa_cons (pv 0) (pa_cons (pe_bltn (v := .ty "bool") rfl T.bool PyProof.Rows.Boot.«bool» rfl) pa_nil)))))))), ?_⟩
      refine ⟨_, rfl, _, _, _, _, _, rfl, .ty _, rv.ty, kit_int x, _, rfl, ?_⟩
      cases x
      all_goals walk_at "rd"
      all_goals first
        | exact k _ _ (Ex.refl H) (.bl _)
        | exact ⟨_, _, _, _, _, rfl, .ty _, rv.ty, kit_bool _, _, rfl, k _ _ (Ex.refl H) (.bl _)⟩
/-- a bound: None or an integer -/
def isBound : PyData → Bool | .none => true | .int _ => true | _ => false
def lowOk : PyData → Int → Bool | .int l, i => decide (l ≤ i) | _, _ => true
def topOk : PyData → Int → Bool | .int m, i => decide (i ≤ m) | _, _ => true
def within (x l m : PyData) : Bool := match x with | .int i => lowOk l i && topOk m i | _ => false
def F_is_within : List PyData → Option PyData
  | [x, l, m] => if isBound l && isBound m then some (.bool (within x l m)) else none
  | _ => none
theorem sc_is_within : FnScope ["value", "least", "most"] ["value", "least", "most"] (C8.fnScope (topS 19)) := C8.fnScope_by (by decide +kernel)
theorem ok_is_within (D : C8.Def K mg "is_within" (topS 19) f fd) (b : Binds K fd ["value", "least", "most"] []) (T : TxtB K mg) (G_is_integer : C8.Cal P w K mg base 1 "is_integer" (spP F_is_integer) []) : C8.Cal P w K mg base 2 "is_within" (spP F_is_within) [] :=
  C8.cal0 D b .nil sc_is_within (len1 fun ds d h => by match ds, h with | [x, y, z], _ => rfl) fun cdv A outer s H vs Q E hr h => by
    obtain ⟨N, ds, d, n, r, hF, k⟩ := h
    match ds, hF with
    | [x, l, m], hF =>
      obtain ⟨v, vl, vm, rfl, rv, rl, rm⟩ := r.three
      refine ⟨_, (pss_one (ps_ret (pe_and (C8.pe_c G_is_integer hr (by decide) (by rfl) (pa_cons (pv 0) pa_nil)) (pe_and (pe_or (pe_cmpR op_isN (pv 1) pe_non (nomark _)) (pe_one (pe_cmpR op_ge (pv 0) (pv 1) (nomark _)))) (pe_one (pe_or (pe_cmpR op_isN (pv 2) pe_non (nomark _)) (pe_one (pe_cmpR op_le (pv 0) (pv 2) (nomark _))))))))), ?_⟩
      refine ⟨_, rfl, call_B n (.cons rv .nil) rfl fun H1 e1 => ⟨_, rfl, ?_⟩⟩
      have hb : isBound l = true ∧ isBound m = true := by
        cases h1 : isBound l <;> cases h2 : isBound m <;> simp [F_is_within, h1, h2] at hF ⊢
      have hd : d = .bool (within x l m) := by simpa [F_is_within, hb.1, hb.2] using hF.symm
      subst hd
      cases x with
      | int i =>
        cases rv.intv
        refine iteT ?_
        have fin : ∀ b : Bool, b = (lowOk l i && topOk m i) → Q (.bl b) H1 := fun b hb => by
          rw [hb]
          exact k _ _ e1 (.bl _)
        cases l with
        | none =>
          cases rl
          cases m with
          | none =>
            cases rm
            walk_at "rd"
            exact fin _ rfl
          | int j =>
            cases rm
            walk_at "rd"
            exact fin _ rfl
          | _ => exact absurd hb.2 Bool.false_ne_true
        | int q =>
          cases rl
          cases m with
          | none =>
            cases rm
            walk_at "rd"
            refine ite2 (fun c => ?_) (fun c => ?_)
            · walk_at "rd"
              exact fin _ (by show true = (decide (q ≤ i) && true); rw [c]; rfl)
            · exact fin _ (by show false = (decide (q ≤ i) && true); rw [Bool.eq_false_iff.mpr c]; rfl)
          | int j =>
            cases rm
            walk_at "rd"
            refine ite2 (fun c => ?_) (fun c => ?_)
            · walk_at "rd"
              exact fin _ (by show decide (i ≤ j) = (decide (q ≤ i) && decide (i ≤ j)); rw [c]; rfl)
            · exact fin _ (by show false = (decide (q ≤ i) && decide (i ≤ j)); rw [Bool.eq_false_iff.mpr c]; rfl)
          | _ => exact absurd hb.2 Bool.false_ne_true
        | _ => exact absurd hb.1 Bool.false_ne_true
      | _ => exact iteF (k _ _ e1 (.bl _))
theorem sc_is_listed : FnScope ["value"] ["value"] (C8.fnScope (topS 20)) := C8.fnScope_by (by decide +kernel)
def F_is_listed : List PyData → Option PyData
  | [x] => some (.bool (isListed x))
  | _ => none
theorem ok_is_listed (D : C8.Def K mg "is_listed" (topS 20) f fd) (b : Binds K fd ["value"] []) (T : TxtB K mg) : C8.Cal P w K mg base 1 "is_listed" (spP F_is_listed) [] :=
  C8.cal0 D b .nil sc_is_listed (len1 fun ds d h => by match ds, h with | [x], _ => rfl) fun cdv A outer s H vs Q E hr h => by
    obtain ⟨N, ds, d, n, r, hF, k⟩ := h
    match ds, hF with
    | [x], hF =>
      obtain ⟨v, rfl, rv⟩ := r.one
      cases hF
      refine ⟨_, (pss_one (ps_ret (pe_callB call_isZT (by rfl) T.isinstance PyProof.Rows.Boot.«isinstance» (pa_cons (pv 0) (pa_cons (pe_tup (pa_cons (pe_bltn (v := .ty "list") rfl T.list PyProof.Rows.Boot.«list» rfl) (pa_cons (pe_bltn (v := .ty "tuple") rfl T.tuple PyProof.Rows.Boot.«tuple» rfl) pa_nil))) pa_nil))))), ?_⟩
      refine ⟨_, rfl, (by show 2 ≤ sizeLine; decide), fun p hp => ⟨_, _, _, _, _, _, rfl, upd_same, .cons (.ty _) (.cons (.ty _) .nil), (rv.ex (Ex.new hp)).ty, kit_listed x, k _ _ (Ex.new hp) (.bl _)⟩⟩
def F_is_row : List PyData → Option PyData
  | [x, .int n] => some (.bool (isListed x && decide (((itemsOf x).length : Int) = n)))
  | _ => none
theorem sc_is_row : FnScope ["value", "many"] ["value", "many"] (C8.fnScope (topS 21)) := C8.fnScope_by (by decide +kernel)
theorem ok_is_row (D : C8.Def K mg "is_row" (topS 21) f fd) (b : Binds K fd ["value", "many"] []) (T : TxtB K mg) (G_is_listed : C8.Cal P w K mg base 1 "is_listed" (spP F_is_listed) []) : C8.Cal P w K mg base 2 "is_row" (spP F_is_row) [] :=
  C8.cal0 D b .nil sc_is_row (len1 fun ds d h => by match ds, h with | [x, .int n], _ => rfl) fun cdv A outer s H vs Q E hr h => by
    obtain ⟨N, ds, d, n, r, hF, k⟩ := h
    match ds, hF with
    | [x, .int m], hF =>
      obtain ⟨v, vm, rfl, rv, rm⟩ := r.two
      cases rm.intv
      cases hF
      refine ⟨_, (pss_one (ps_ret (pe_and (C8.pe_c G_is_listed hr (by decide) (by rfl) (pa_cons (pv 0) pa_nil)) (pe_one (pe_cmpR op_eq (pe_callB call_len_seq (by rfl) T.len PyProof.Rows.Boot.«len» (pa_cons (pv 0) pa_nil)) (pv 1) (nomark _)))))), ?_⟩
      refine ⟨_, rfl, call_B n (.cons rv .nil) rfl fun H1 e1 => ⟨_, rfl, ?_⟩⟩
      cases rv with
      | lst h nn ra =>
        refine iteT ⟨_, rfl, _, _, rfl, .inl (SqL.of (e1 _ _ h)), _, rfl, rfl, ?_⟩
        rw [ra.length]
        refine k _ _ e1 ?_
        rw [dec_int]
        exact .bl _
      | tup h nn ra =>
        refine iteT ⟨_, rfl, _, _, rfl, .inr (SqT.of (e1 _ _ h)), _, rfl, rfl, ?_⟩
        rw [ra.length]
        refine k _ _ e1 ?_
        rw [dec_int]
        exact .bl _
      | _ => exact iteF (k _ _ e1 (.bl _))
/-! names -/
def signOk (c : Nat) : Bool := decide (c ∈ ("abcdefghijklmnopqrstuvwxyz" : Str).cps.toList)
def nameOk (x : Str) : Bool := decide (1 ≤ x.length) && decide (x.length ≤ 8) && x.cps.toList.all signOk
def isName : PyData → Bool
  | .str x => nameOk x
  | _ => false
def F_is_name : List PyData → Option PyData
  | [x] => match x with
    | .str x => if x.length ≤ 100000 then some (.bool (nameOk x)) else none
    | _ => some (.bool false)
  | _ => none
theorem sc_is_name : FnScope ["value", "sign"] ["value"] (C8.fnScope (topS 22)) := C8.fnScope_by (by decide +kernel)
theorem ok_is_name (D : C8.Def K mg "is_name" (topS 22) f fd) (b : Binds K fd ["value"] []) (T : TxtB K mg) : C8.Cal P w K mg base 1 "is_name" (spP F_is_name) [] :=
  C8.cal0 D b .nil sc_is_name (len1 fun ds d h => by match ds, h with | [x], _ => rfl) fun cdv A outer s H vs Q E hr h => by
    obtain ⟨N, ds, d, n, r, hF, k⟩ := h
    match ds, hF with
    | [x], hF =>
      obtain ⟨v, rfl, rv⟩ := r.one
      obtain ⟨tL, m_LETTERS⟩ := T.mg_LETTERS
      refine ⟨_, (pss_one (ps_ret (pe_and (pe_callB call_isZ (by rfl) T.isinstance PyProof.Rows.Boot.«isinstance» (pa_cons (pv 0) (pa_cons (pe_bltn (v := .ty "str") rfl T.str PyProof.Rows.Boot.«str» rfl) pa_nil))) (pe_and (pe_chain op_le op_le pe_int (pe_callB call_len_str (by rfl) T.len PyProof.Rows.Boot.«len» (pa_cons (pv 0) pa_nil)) pe_int) (pe_one (pe_callB (cr_all (by rfl)) (by rfl) T.all PyProof.Rows.Boot.«all» (pa_cons (pe_lc (own := [("sign", 1)]) (g := gName 1) (tt := tYes) rfl sc_is_name.nd (pi_str (pv 0)) (blkOk_by (N := ["value", "sign"]) (sc := C8.fnScope (topS 22)) (by decide +kernel)) (fun _ _ _ _ _ => pg_name (i := 1) sc_is_name.nd rfl (Or.inl rfl)) (fun _ _ _ _ _ => pts_nil) (fun _ _ _ _ _ => (pe_cmpR op_in_sign (pv 1) (pe_glob (v := .str "abcdefghijklmnopqrstuvwxyz") rfl m_LETTERS ⟨_, rfl⟩) rfl))) pa_nil))))))), ?_⟩
      refine ⟨_, rfl, _, _, _, _, _, rfl, .ty _, rv.ty, kit_str x, _, rfl, ?_⟩
      cases x with
      | str x =>
        cases rv
        have hx : x.length ≤ 100000 ∧ d = .bool (nameOk x) := by
          by_cases c : x.length ≤ 100000
          · have z : F_is_name [.str x] = some (.bool (nameOk x)) := if_pos c
            rw [z] at hF
            exact ⟨c, (Option.some.inj hF).symm⟩
          · have z : F_is_name [.str x] = none := if_neg c
            rw [z] at hF
            cases hF
        obtain ⟨hx, rfl⟩ := hx
        have hl : x.length ≤ sizeLine := Nat.le_trans hx (by decide)
        have kf : ∀ b : Bool, ∀ H', Ex H H' → b = nameOk x → Q (.bl b) H' := fun b H' e hb => by
          rw [hb]
          exact k _ _ e (.bl _)
        refine iteT ⟨_, rfl, x, rfl, hl, _, _, rfl, rfl, _, rfl, ?_⟩
        refine ite2 (fun c1 => ?_) (fun c1 => ?_)
        · have c1' : decide (1 ≤ x.length) = true := decide_eq_true (by have := of_decide_eq_true c1; omega)
          refine ⟨_, _, rfl, rfl, _, rfl, ?_⟩
          refine ite2 (fun c2 => ?_) (fun c2 => ?_)
          · have c2' : decide (x.length ≤ 8) = true := decide_eq_true (by have := of_decide_eq_true c2; omega)
            refine ⟨_, rfl, x, rfl, fun D hD => lc_map (N := N) (fun d => match d with | .str z => .bool (signOk (z.cps.toList.headD 0)) | _ => .bool false) wk_text hD n (by simp only [signsD, List.length_map]; exact hx) (fun v d H2 hm e _ r Q' q => ?_) fun H2 ys e hy ry => ?_⟩
            · obtain ⟨c, _, rfl⟩ := List.mem_map.mp hm
              cases r
              exact ⟨_, rfl, c, _, rfl, rfl, q _ _ (Ex.refl H2) (.bl _)⟩
            · have z : (signsD x).map (fun d => match d with | .str z => PyData.bool (signOk (z.cps.toList.headD 0)) | _ => .bool false) = (x.cps.toList.map signOk).map PyData.bool := by
                simp [signsD]
              rw [z] at ry
              refine all_R hy ry (kf _ _ e ?_)
              show _ = (decide (1 ≤ x.length) && decide (x.length ≤ 8) && x.cps.toList.all signOk)
              rw [c1', c2', List.all_map]
              rfl
          · have c2' : decide (x.length ≤ 8) = false := decide_eq_false (fun z => c2 (decide_eq_true (by omega)))
            refine kf _ _ (Ex.refl H) ?_
            show false = (decide (1 ≤ x.length) && decide (x.length ≤ 8) && x.cps.toList.all signOk)
            rw [c2', Bool.and_false, Bool.false_and]
        · have c1' : decide (1 ≤ x.length) = false := decide_eq_false (fun z => c1 (decide_eq_true (by omega)))
          refine ⟨_, rfl, iteF (kf _ _ (Ex.refl H) ?_)⟩
          show false = (decide (1 ≤ x.length) && decide (x.length ≤ 8) && x.cps.toList.all signOk)
          rw [c1']
          rfl
      | _ =>
        cases hF
        exact iteF (k _ _ (Ex.refl H) (.bl _))
/-! lists of names -/
/-- what is_name may be asked of: texts are not too long -/
def short : PyData → Bool
  | .str x => decide (x.length ≤ 100000)
  | _ => true
theorem F_name_some {x : PyData} (h : short x = true) : F_is_name [x] = some (.bool (isName x)) := by
  cases x with
  | str x => exact if_pos (of_decide_eq_true h)
  | _ => rfl
def areNames (v : PyData) (most : Int) : Bool := isListed v && decide (((itemsOf v).length : Int) ≤ most) && (itemsOf v).all isName && decide ((itemsOf v).map strOf).Nodup
def F_are_names : List PyData → Option PyData
  | [v, .int most] => given (decide ((itemsOf v).length ≤ 100000) && (itemsOf v).all short) (.bool (areNames v most))
  | _ => none
theorem sc_are_names : FnScope ["value", "most", "name"] ["value", "most"] (C8.fnScope (topS 23)) := C8.fnScope_by (by decide +kernel)
theorem ok_are_names (D : C8.Def K mg "are_names" (topS 23) f fd) (b : Binds K fd ["value", "most"] []) (T : TxtB K mg) (G_is_listed : C8.Cal P w K mg base 1 "is_listed" (spP F_is_listed) []) (G_is_name : C8.Cal P w K mg base 1 "is_name" (spP F_is_name) []) : C8.Cal P w K mg base 2 "are_names" (spP F_are_names) [] :=
  C8.cal0 D b .nil sc_are_names (len1 fun ds d h => by match ds, h with | [x, .int n], _ => rfl) fun cdv A outer s H vs Q E hr h => by
    obtain ⟨N, ds, d, n, r, hF, k⟩ := h
    match ds, hF with
    | [x, .int m], hF =>
      obtain ⟨v, vm, rfl, rv, rm⟩ := r.two
      cases rm.intv
      have hp : (decide ((itemsOf x).length ≤ 100000) && (itemsOf x).all short) = true ∧ d = .bool (areNames x m) := by
        by_cases c : (decide ((itemsOf x).length ≤ 100000) && (itemsOf x).all short) = true
        · have z : F_are_names [x, .int m] = some (.bool (areNames x m)) := if_pos c
          rw [z] at hF
          exact ⟨c, (Option.some.inj hF).symm⟩
        · have z : F_are_names [x, .int m] = none := if_neg c
          rw [z] at hF
          cases hF
      obtain ⟨hp, rfl⟩ := hp
      obtain ⟨hlen, hsh⟩ := Bool.and_eq_true_iff.mp hp
      have hlen := of_decide_eq_true hlen
      have kf : ∀ b : Bool, ∀ H', Ex H H' → b = areNames x m → Q (.bl b) H' := fun b H' e hb => by
        rw [hb]
        exact k _ _ e (.bl _)
      refine ⟨_, (pss_cons (ps_if (PW.pt (pw_or (pt_not (pt_val (C8.pe_c G_is_listed hr (by decide) (by rfl) (pa_cons (pv 0) pa_nil)))) (pw_or (pt_cmpR op_gt (pe_callB call_len_seq (by rfl) T.len PyProof.Rows.Boot.«len» (pa_cons (pv 0) pa_nil)) (pv 1) (nomark _)) (pw_or1 (pt_not (pt_val (pe_callB (cr_all (by rfl)) (by rfl) T.all PyProof.Rows.Boot.«all» (pa_cons (pe_lc (own := [("name", 2)]) (g := gName 2) (tt := tYes) rfl sc_are_names.nd (pi_seq (pv 0)) (blkOk_by (N := ["value", "most", "name"]) (sc := C8.fnScope (topS 23)) (by decide +kernel)) (fun _ _ _ _ _ => pg_name (i := 2) sc_are_names.nd rfl (Or.inl rfl)) (fun _ _ _ _ _ => pts_nil) (fun _ _ _ _ _ => (C8.pe_c G_is_name hr (by decide) (by rfl) (pa_cons (pv 2) pa_nil)))) pa_nil))))))))
      (pss_one (ps_ret pe_bl))
      pss_nil)
      (pss_one (ps_ret (pe_cmpR op_eq (pe_callB call_len_seq (by rfl) T.len PyProof.Rows.Boot.«len» (pa_cons (pv 0) pa_nil)) (pe_callB call_lenD (by rfl) T.len PyProof.Rows.Boot.«len» (pa_cons (pe_dc (own := [("name", 2)]) (g := gName 2) (tt := tYes) rfl sc_are_names.nd (pi_seq (pv 0)) (blkOk_by (N := ["value", "most", "name"]) (sc := C8.fnScope (topS 23)) (by decide +kernel)) (fun _ _ _ _ _ => pg_name (i := 2) sc_are_names.nd rfl (Or.inl rfl)) (fun _ _ _ _ _ => pts_nil) (fun _ _ _ _ _ => (pv 2)) (fun _ _ _ _ _ => pe_bl)) pa_nil)) (nomark _))))), ?_⟩
      refine ⟨_, rfl, call_B n (.cons rv .nil) rfl fun H1 e1 => ⟨_, rfl, ?_⟩⟩
      cases hL : isListed x with
      | false => exact iteT (kf _ _ e1 (by unfold areNames; rw [hL]; rfl))
      | true =>
        obtain ⟨a, xs, rfl, ha, ra⟩ := seq_of rv hL
        have lx : xs.length = (itemsOf x).length := ra.length
        have sq : ∀ H2, Ex H H2 → SqL K H2 a xs ∨ SqT K H2 a xs := fun H2 e => ha.elim (fun h => .inl (SqL.of (e _ _ h))) (fun h => .inr (SqT.of (e _ _ h)))
        refine iteF ⟨_, rfl, _, _, rfl, sq _ e1, _, rfl, _, _, rfl, rfl, _, rfl, ?_⟩
        refine ite2 (fun c => ?_) (fun c => ?_)
        · have c' := of_decide_eq_true c
          refine kf _ _ e1 ?_
          unfold areNames
          rw [hL, decide_eq_false (show ¬ ((itemsOf x).length : Int) ≤ m by rw [← lx]; omega)]
          rfl
        · have c' : ((itemsOf x).length : Int) ≤ m := by
            rw [← lx]
            exact Int.not_lt.mp fun z => c (decide_eq_true z)
          obtain ⟨J, sJ, wk⟩ := seq_walk (K := K) (ha.imp (e1 _ _) (e1 _ _)) (ra.ex e1)
          refine ⟨_, rfl, a, J, rfl, sJ, fun D hD => lc_map (N := N) (fun d => .bool (isName d)) wk hD (n.ex e1) hlen (fun v d H2 hm e nn r Q' q => ⟨_, rfl, call_B nn (.cons r .nil) (F_name_some (List.all_eq_true.mp hsh d hm)) fun H3 e3 => q _ _ e3 (.bl _)⟩) fun H2 ys e2 hy ry => ?_⟩
          have z : (itemsOf x).map (fun d => PyData.bool (isName d)) = ((itemsOf x).map isName).map PyData.bool := by rw [List.map_map]; rfl
          rw [z] at ry
          refine ⟨_, _, rfl, SqL.of (by rw [hy, ry.bools]), ?_⟩
          refine ⟨_, rfl, ?_⟩
          have z2 : ((itemsOf x).map isName).all id = (itemsOf x).all isName := by rw [List.all_map]; rfl
          rw [z2]
          have e12 := e1.trans e2
          cases hA : (itemsOf x).all isName with
          | false =>
            refine iteT (kf _ _ e12 ?_)
            unfold areNames
            rw [hA, Bool.and_false, Bool.false_and]
          | true =>
            obtain ⟨J2, sJ2, wk⟩ := seq_walk (K := K) (ha.imp (e12 _ _) (e12 _ _)) (ra.ex e12)
            refine iteF ⟨_, rfl, _, _, rfl, sq _ e12, _, rfl, a, J2, rfl, sJ2, fun D2 hD2 => dc_map (N := N) strOf (fun _ => .bool true) wk hD2 (n.ex e12) hlen (fun v d H3 hm e nn r Q' q => ?_) fun H3 kvs e3 hy3 rk => ?_⟩
            · have hn := List.all_eq_true.mp hA d hm
              cases d with
              | str y =>
                cases r
                exact ⟨_, rfl, q _ _ (Ex.refl H3) (.bl _)⟩
              | _ => cases hn
            · refine ⟨_, kvs, rfl, hy3, rfl, kf _ _ (e12.trans e3) ?_⟩
              rw [dec_int]
              unfold areNames
              rw [hL, hA, decide_eq_true c', rk.length, lx]
              obtain ⟨_, p2, _⟩ := putAll_len (kf := strOf) (vf := fun _ => PyData.bool true) (itemsOf x)
              simp only [Bool.true_and]
              refine decide_eq_decide.mpr ⟨fun q => p2.mp (by omega), fun q => by have := p2.mpr q; omega⟩
/-! ### fixed -/
mutual
def fixD : PyData → PyData
  | .list xs => .tuple (fixDs xs)
  | .tuple xs => .tuple (fixDs xs)
  | .none => .none
  | .bool b => .bool b
  | .int i => .int i
  | .str x => .str x
  | .dict m => .dict m
def fixDs : List PyData → List PyData
  | [] => []
  | x :: xs => fixD x :: fixDs xs
end
theorem fixDs_map : ∀ xs, fixDs xs = xs.map fixD
  | [] => rfl
  | x :: xs => by rw [fixDs, fixDs_map xs]; rfl
theorem fixD_seq {x : PyData} (h : isListed x = true) : fixD x = .tuple ((itemsOf x).map fixD) := by
  cases x with
  | list xs => rw [fixD, fixDs_map]; rfl
  | tuple xs => rw [fixD, fixDs_map]; rfl
  | _ => cases h
theorem fixD_else {x : PyData} (h : isListed x = false) : fixD x = x := by
  cases x with
  | list xs => cases h
  | tuple xs => cases h
  | _ => rfl
/-- what fixed may be asked of, n calls deep -/
def okFix : Nat → PyData → Bool
  | 0, _ => false
  | n + 1, x => !isListed x || (decide ((itemsOf x).length ≤ 100000) && (itemsOf x).all (okFix n))
def F_fixed (n : Nat) : List PyData → Option PyData
  | [x] => if okFix n x = true then some (fixD x) else none
  | _ => none
theorem F_fixed_some {n : Nat} {x : PyData} (h : okFix n x = true) : F_fixed n [x] = some (fixD x) := if_pos h
theorem F_fixed_inv {n : Nat} {x d : PyData} (h : F_fixed n [x] = some d) : okFix n x = true ∧ d = fixD x := by
  by_cases c : okFix n x = true
  · rw [F_fixed_some c] at h
    exact ⟨c, (Option.some.inj h).symm⟩
  · have z : F_fixed n [x] = none := if_neg c
    rw [z] at h
    cases h
theorem sc_fixed : FnScope ["value", "part"] ["value"] (C8.fnScope (topS 26)) := C8.fnScope_by (by decide +kernel)
theorem len_fixed {n : Nat} : ∀ ds d, F_fixed n ds = some d → ds.length = 1 := fun ds d h => by match ds, h with | [x], _ => rfl
theorem ok_fixed (D : C8.Def K mg "fixed" (topS 26) f fd) (b : Binds K fd ["value"] []) (T : TxtB K mg) : ∀ n, C8.Cal P w K mg base n "fixed" (spP (F_fixed n)) []
  | 0 => ⟨f, fd, ["value"], [], ⟨len1 len_fixed, fun A outer s H args us vs Q E _ _ _ _ h => by
      obtain ⟨N, ds, d, _, _, hF, _⟩ := h
      match ds, hF with
      | [x], hF =>
        have z := (F_fixed_inv hF).1
        cases z⟩, D.mgf, D.kp, b, .nil⟩
  | j + 1 => C8.cal0 D b .nil sc_fixed (len1 len_fixed) fun cdv A outer s H vs Q E hr h => by
    have G_fixed := ok_fixed D b T j
    obtain ⟨N, ds, d, n, r, hF, k⟩ := h
    match ds, hF with
    | [x], hF =>
      obtain ⟨v, rfl, rv⟩ := r.one
      obtain ⟨hok, rfl⟩ := F_fixed_inv hF
      refine ⟨_, (pss_cons (ps_if (pt_val (pe_callB call_isZT (by rfl) T.isinstance PyProof.Rows.Boot.«isinstance» (pa_cons (pv 0) (pa_cons (pe_tup (pa_cons (pe_bltn (v := .ty "list") rfl T.list PyProof.Rows.Boot.«list» rfl) (pa_cons (pe_bltn (v := .ty "tuple") rfl T.tuple PyProof.Rows.Boot.«tuple» rfl) pa_nil))) pa_nil))))
      (pss_one (ps_ret (pe_callTy call_tuple_of (by rfl) T.tuple PyProof.Rows.Boot.«tuple» (pa_cons (pe_lc (own := [("part", 1)]) (g := gName 1) (tt := tYes) rfl sc_fixed.nd (pi_seq (pv 0)) (blkOk_by (N := ["value", "part"]) (sc := C8.fnScope (topS 26)) (by decide +kernel)) (fun _ _ _ _ _ => pg_name (i := 1) sc_fixed.nd rfl (Or.inl rfl)) (fun _ _ _ _ _ => pts_nil) (fun _ _ _ _ _ => (C8.pe_c G_fixed hr (Nat.le_refl _) (by rfl) (pa_cons (pv 1) pa_nil)))) pa_nil))))
      pss_nil)
      (pss_one (ps_ret (pv 0)))), ?_⟩
      refine ⟨_, rfl, (by show 2 ≤ sizeLine; decide), fun p hp => ⟨_, _, _, _, _, _, rfl, upd_same, .cons (.ty _) (.cons (.ty _) .nil), (rv.ex (Ex.new hp)).ty, kit_listed x, _, rfl, ?_⟩⟩
      have e0 := Ex.new (o := HO.tup [.ty "list", .ty "tuple"]) hp
      cases hL : isListed x with
      | false =>
        refine iteF ⟨v, rfl, k _ _ e0 ?_⟩
        rw [fixD_else hL]
        exact rv.ex e0
      | true =>
        have hok' : (decide ((itemsOf x).length ≤ 100000) && (itemsOf x).all (okFix j)) = true := by
          have z : (!isListed x || (decide ((itemsOf x).length ≤ 100000) && (itemsOf x).all (okFix j))) = true := hok
          rw [hL] at z
          exact z
        obtain ⟨h1, h2⟩ := Bool.and_eq_true_iff.mp hok'
        obtain ⟨a, xs, rfl, ha, ra⟩ := seq_of (rv.ex e0) hL
        obtain ⟨J, sJ, wk⟩ := seq_walk (K := K) ha ra
        refine iteT ⟨_, rfl, a, J, rfl, sJ, fun D2 hD2 => lc_map (N := N) fixD wk hD2 (n.ex e0) (of_decide_eq_true h1) (fun v d H2 hm e nn r Q' q => ⟨_, rfl, call_P nn (.cons r .nil) (F_fixed_some (List.all_eq_true.mp h2 d hm)) q⟩) fun H2 ys e2 hy ry => ?_⟩
        refine ⟨_, ys, rfl, .inl ⟨SqL.of hy, ry.tupNew (n.ex (e0.trans e2)) fun v H' e3 rv' => k _ _ ((e0.trans e2).trans e3) ?_⟩⟩
        rw [fixD_seq hL]
        exact rv'
/-! ### symbols -/
/-- the row of a symbol, ss being the sorts -/
def isSym (ss : List Str) (v : PyData) : Bool := isListed v && decide ((itemsOf v).length = 3) && isName ((itemsOf v).getD 0 .none) && isListed ((itemsOf v).getD 1 .none) && decide ((itemsOf ((itemsOf v).getD 1 .none)).length ≤ 3) &&
  (itemsOf ((itemsOf v).getD 1 .none) ++ [(itemsOf v).getD 2 .none]).all fun d => isStr d && decide (strOf d ∈ ss)
/-- what is_symbol may be asked of -/
def okSym (v s : PyData) : Bool := short ((itemsOf v).getD 0 .none) && isListed s && (itemsOf s).all isStr
def F_is_symbol : List PyData → Option PyData
  | [v, s] => if okSym v s = true then some (.bool (isSym ((itemsOf s).map strOf) v)) else none
  | _ => none
theorem F_sym_some {v s : PyData} (h : okSym v s = true) : F_is_symbol [v, s] = some (.bool (isSym ((itemsOf s).map strOf) v)) := if_pos h
theorem F_sym_inv {v s d : PyData} (h : F_is_symbol [v, s] = some d) : okSym v s = true ∧ d = .bool (isSym ((itemsOf s).map strOf) v) := by
  by_cases c : okSym v s = true
  · rw [F_sym_some c] at h
    exact ⟨c, (Option.some.inj h).symm⟩
  · have z : F_is_symbol [v, s] = none := if_neg c
    rw [z] at h
    cases h
theorem sc_is_symbol : FnScope ["value", "sorts", "each"] ["value", "sorts"] (C8.fnScope (topS 31)) := C8.fnScope_by (by decide +kernel)
theorem ok_is_symbol (D : C8.Def K mg "is_symbol" (topS 31) f fd) (b : Binds K fd ["value", "sorts"] []) (T : TxtB K mg) (G_is_listed : C8.Cal P w K mg base 1 "is_listed" (spP F_is_listed) []) (G_is_row : C8.Cal P w K mg base 2 "is_row" (spP F_is_row) []) (G_is_name : C8.Cal P w K mg base 1 "is_name" (spP F_is_name) []) : C8.Cal P w K mg base 3 "is_symbol" (spP F_is_symbol) [] :=
  C8.cal0 D b .nil sc_is_symbol (len1 fun ds d h => by match ds, h with | [x, y], _ => rfl) fun cdv A outer s H vs Q E hr h => by
    obtain ⟨N, ds, d, n, r, hF, k⟩ := h
    match ds, hF with
    | [x, so], hF =>
      obtain ⟨v, vs, rfl, rv, rs⟩ := r.two
      obtain ⟨hok, rfl⟩ := F_sym_inv hF
      obtain ⟨hok, hstr⟩ := Bool.and_eq_true_iff.mp hok
      obtain ⟨hsh, hLs⟩ := Bool.and_eq_true_iff.mp hok
      obtain ⟨tM, m_MOST_ARGUMENTS⟩ := T.mg_MOST_ARGUMENTS
      have kf : ∀ b : Bool, ∀ H', Ex H H' → b = isSym ((itemsOf so).map strOf) x → Q (.bl b) H' := fun b H' e hb => by
        rw [hb]
        exact k _ _ e (.bl _)
      refine ⟨_, (pss_cons (ps_if (PW.pt (pw_or (pt_not (pt_val (C8.pe_c G_is_row hr (by decide) (by rfl) (pa_cons (pv 0) (pa_cons pe_int pa_nil))))) (pw_or (pt_not (pt_val (C8.pe_c G_is_name hr (by decide) (by rfl) (pa_cons (pe_ix ix_Y (pv 0) pe_int (fun _ _ => rfl)) pa_nil)))) (pw_or (pt_not (pt_val (C8.pe_c G_is_listed hr (by decide) (by rfl) (pa_cons (pe_ix ix_Y (pv 0) pe_int (fun _ _ => rfl)) pa_nil)))) (pw_or1 (pt_cmpR op_gt (pe_callB call_lenS (by rfl) T.len PyProof.Rows.Boot.«len» (pa_cons (pe_ix ix_Y (pv 0) pe_int (fun _ _ => rfl)) pa_nil)) (pe_glob (v := .int 3) rfl m_MOST_ARGUMENTS ⟨_, rfl⟩) (nomark _)))))))
      (pss_one (ps_ret pe_bl))
      pss_nil)
      (pss_one (ps_ret (pe_callB (cr_all (by rfl)) (by rfl) T.all PyProof.Rows.Boot.«all» (pa_cons (pe_lc (own := [("each", 2)]) (g := gName 2) (tt := tYes) rfl sc_is_symbol.nd (pi_seq (pe_lst (StX.pa_star (pe_ix ix_Y (pv 0) pe_int (fun _ _ => rfl)) (pa_cons (pe_ix ix_Y (pv 0) pe_int (fun _ _ => rfl)) pa_nil)))) (blkOk_by (N := ["value", "sorts", "each"]) (sc := C8.fnScope (topS 31)) (by decide +kernel)) (fun _ _ _ _ _ => pg_name (i := 2) sc_is_symbol.nd rfl (Or.inl rfl)) (fun _ _ _ _ _ => pts_nil) (fun _ _ _ _ _ => (pe_and (pe_callB (show CallR _ _ (rIsY K) from call_isY) (by rfl) T.isinstance PyProof.Rows.Boot.«isinstance» (pa_cons (pv 2) (pa_cons (pe_bltn (v := .ty "str") rfl T.str PyProof.Rows.Boot.«str» rfl) pa_nil))) (pe_one (pe_cmpR (show OpR _ _ (rInY K false) from op_inY) (pv 2) (pv 1) rfl))))) pa_nil))))), ?_⟩
      refine ⟨_, rfl, call_B n (.cons rv (.cons (.int 3) .nil)) rfl fun H1 e1 => ⟨_, rfl, ?_⟩⟩
      cases hL : isListed x with
      | false => exact iteT (kf _ _ e1 (by unfold isSym; rw [hL]; rfl))
      | true =>
      by_cases h3 : (itemsOf x).length = 3
      · have z : (isListed x && decide (((itemsOf x).length : Int) = 3)) = true := by rw [hL, h3]; rfl
        have z : (true && decide (((itemsOf x).length : Int) = 3)) = true := by rw [h3]; rfl
        rw [z]
        obtain ⟨x0, x1, x2, hi⟩ : ∃ x0 x1 x2, itemsOf x = [x0, x1, x2] := by
          match itemsOf x, h3 with
          | [x0, x1, x2], _ => exact ⟨x0, x1, x2, rfl⟩
        have hsym : isSym ((itemsOf so).map strOf) x = (isName x0 && isListed x1 && decide ((itemsOf x1).length ≤ 3) && (itemsOf x1 ++ [x2]).all fun d => isStr d && decide (strOf d ∈ (itemsOf so).map strOf)) := by
          unfold isSym
          rw [hL, hi]
          rfl
        rw [hsym] at kf
        have hsh : short x0 = true := by rw [hi] at hsh; exact hsh
        refine iteF ⟨_, rfl, R.ix (rv.ex e1) hL (by decide) (by rw [hi]; rfl) fun v0 r0 => call_B (n.ex e1) (.cons r0 .nil) (F_name_some hsh) fun H2 e2 => ⟨_, rfl, ?_⟩⟩
        have e12 := e1.trans e2
        cases hN : isName x0 with
        | false => exact iteT (kf _ _ e12 (by rw [hN]; rfl))
        | true =>
        refine iteF ⟨_, rfl, R.ix (rv.ex e12) hL (by decide) (by rw [hi]; rfl) fun v1 r1 => call_B (n.ex e12) (.cons r1 .nil) rfl fun H3 e3 => ⟨_, rfl, ?_⟩⟩
        have e13 := e12.trans e3
        cases hL1 : isListed x1 with
        | false => exact iteT (kf _ _ e13 (by rw [hN, hL1]; rfl))
        | true =>
        refine iteF ⟨_, rfl, R.ix (rv.ex e13) hL (by decide) (by rw [hi]; rfl) fun v1 r1 => R.len r1 hL1 ⟨_, _, rfl, rfl, _, rfl, ?_⟩⟩
        refine ite2 (fun c => ?_) (fun c => ?_)
        · have c' := of_decide_eq_true c
          exact kf _ _ e13 (by rw [hN, hL1, decide_eq_false (show ¬ (itemsOf x1).length ≤ 3 by omega)]; rfl)
        · have c' : (itemsOf x1).length ≤ 3 := by
            by_cases q : (itemsOf x1).length ≤ 3
            · exact q
            · exact absurd (decide_eq_true (by omega)) c
          rw [hN, hL1, decide_eq_true c'] at kf
          refine ⟨_, rfl, R.ix (rv.ex e13) hL (by decide) (by rw [hi]; rfl) fun v1 r1 => ?_⟩
          obtain ⟨a, xs, rfl, ha, ra⟩ := seq_of r1 hL1
          refine ⟨a, xs, rfl, (seq_sq ha).symm, _, rfl, R.ix (rv.ex e13) hL (by decide) (by rw [hi]; rfl) fun v2 r2 => ?_⟩
          have rall : RAll N H3 (xs ++ [v2]) (itemsOf x1 ++ [x2]) := ra.append (.cons r2 .nil)
          refine ⟨by rw [rall.length, List.length_append]; exact Nat.le_trans (Nat.add_le_add_right c' 1) (by decide), fun p hp => ?_⟩
          have e4 := Ex.new (o := HO.lst (xs ++ [v2])) hp
          obtain ⟨J, sJ, wk⟩ := seq_walk (K := K) (.inl upd_same) (rall.ex e4)
          have e14 := e13.trans e4
          refine ⟨p, J, rfl, sJ, fun D hD => lc_map (N := N) (fun d => .bool (isStr d && decide (strOf d ∈ (itemsOf so).map strOf))) wk hD (n.ex e14) (by rw [List.length_append]; exact Nat.le_trans (Nat.add_le_add_right c' 1) (by decide)) (fun v d H5 hm e5 nn r Q' q => ?_) fun H5 ys e5 hy ry => ?_⟩
          · refine ⟨_, rfl, R.isStrQ r ⟨_, rfl, ?_⟩⟩
            cases d with
            | str y =>
              refine iteT ⟨_, rfl, _, rfl, R.inStrs r (((rs.ex e14).plus hD).ex e5) hLs hstr (q _ _ (Ex.refl _) (.bl _))⟩
            | _ => exact iteF (q _ _ (Ex.refl _) (.bl _))
          · have z : (itemsOf x1 ++ [x2]).map (fun d => PyData.bool (isStr d && decide (strOf d ∈ (itemsOf so).map strOf))) = ((itemsOf x1 ++ [x2]).map fun d => isStr d && decide (strOf d ∈ (itemsOf so).map strOf)).map PyData.bool := by rw [List.map_map]; rfl
            rw [z] at ry
            refine ⟨_, _, rfl, SqL.of (by rw [hy, ry.bools]), ?_⟩
            rw [List.all_map]
            exact kf _ _ (e14.trans e5) (by simp only [Bool.true_and]; rfl)
      · have z : (true && decide (((itemsOf x).length : Int) = 3)) = false := by rw [decide_eq_false (by omega)]; rfl
        rw [z]
        exact iteT (kf _ _ e1 (by unfold isSym; rw [hL, decide_eq_false h3]; rfl))
def rowName (r : PyData) : PyData := (itemsOf r).getD 0 .none
def areSyms (ss : List Str) (v : PyData) : Bool := isListed v && decide (1 ≤ (itemsOf v).length) && decide ((itemsOf v).length ≤ 16) && (itemsOf v).all (isSym ss) && areNames (.list ((itemsOf v).map rowName)) 16
def okSyms (v s : PyData) : Bool := ((itemsOf v).all fun r => short (rowName r)) && isListed s && (itemsOf s).all isStr
def F_are_symbols : List PyData → Option PyData
  | [v, s] => given (okSyms v s) (.bool (areSyms ((itemsOf s).map strOf) v))
  | _ => none
theorem sym_listed {ss : List Str} {v : PyData} (h : isSym ss v = true) : isListed v = true ∧ (itemsOf v)[0]? = some (rowName v) := by
  unfold isSym at h
  simp only [Bool.and_eq_true] at h
  obtain ⟨⟨⟨⟨⟨h1, h2⟩, h3⟩, h4⟩, h5⟩, h6⟩ := h
  refine ⟨h1, ?_⟩
  have h2 := of_decide_eq_true h2
  unfold rowName
  match itemsOf v, h2 with
  | [a, b, c], _ => rfl
theorem name_short {x : PyData} (h : isName x = true) : short x = true := by
  cases x with
  | str x =>
    have h : (decide (1 ≤ x.length) && decide (x.length ≤ 8) && x.cps.toList.all signOk) = true := h
    simp only [Bool.and_eq_true, decide_eq_true_eq] at h
    exact decide_eq_true (by omega)
  | _ => rfl
theorem sc_are_symbols : FnScope ["value", "sorts", "row"] ["value", "sorts"] (C8.fnScope (topS 32)) := C8.fnScope_by (by decide +kernel)
theorem ok_are_symbols (D : C8.Def K mg "are_symbols" (topS 32) f fd) (b : Binds K fd ["value", "sorts"] []) (T : TxtB K mg) (G_is_listed : C8.Cal P w K mg base 1 "is_listed" (spP F_is_listed) []) (G_is_symbol : C8.Cal P w K mg base 3 "is_symbol" (spP F_is_symbol) []) (G_are_names : C8.Cal P w K mg base 2 "are_names" (spP F_are_names) []) : C8.Cal P w K mg base 4 "are_symbols" (spP F_are_symbols) [] :=
  C8.cal0 D b .nil sc_are_symbols (len1 fun ds d h => by match ds, h with | [x, y], _ => rfl) fun cdv A outer s H vs Q E hr h => by
    obtain ⟨N, ds, d, n, r, hF, k⟩ := h
    match ds, hF with
    | [x, so], hF =>
      obtain ⟨v, vs, rfl, rv, rs⟩ := r.two
      obtain ⟨hok, rfl⟩ := given_inv hF
      obtain ⟨hok, hstr⟩ := Bool.and_eq_true_iff.mp hok
      obtain ⟨hsh, hLs⟩ := Bool.and_eq_true_iff.mp hok
      obtain ⟨tM, m_MOST_SYMBOLS⟩ := T.mg_MOST_SYMBOLS
      have kf : ∀ b : Bool, ∀ H', Ex H H' → b = areSyms ((itemsOf so).map strOf) x → Q (.bl b) H' := fun b H' e hb => by
        rw [hb]
        exact k _ _ e (.bl _)
      refine ⟨_, (pss_cons (ps_if (PW.pt (pw_or (pt_not (pt_val (C8.pe_c G_is_listed hr (by decide) (by rfl) (pa_cons (pv 0) pa_nil)))) (pw_or1 (pt_not (pt_chain op_le op_le pe_int (pe_callB call_lenS (by rfl) T.len PyProof.Rows.Boot.«len» (pa_cons (pv 0) pa_nil)) (pe_glob (v := .int 16) rfl m_MOST_SYMBOLS ⟨_, rfl⟩))))))
      (pss_one (ps_ret pe_bl))
      pss_nil)
      (pss_cons (ps_if (pt_not (pt_val (pe_callB (cr_all (by rfl)) (by rfl) T.all PyProof.Rows.Boot.«all» (pa_cons (pe_lc (own := [("row", 2)]) (g := gName 2) (tt := tYes) rfl sc_are_symbols.nd (pi_seq (pv 0)) (blkOk_by (N := ["value", "sorts", "row"]) (sc := C8.fnScope (topS 32)) (by decide +kernel)) (fun _ _ _ _ _ => pg_name (i := 2) sc_are_symbols.nd rfl (Or.inl rfl)) (fun _ _ _ _ _ => pts_nil) (fun _ _ _ _ _ => (C8.pe_c G_is_symbol hr (by decide) (by rfl) (pa_cons (pv 2) (pa_cons (pv 1) pa_nil))))) pa_nil))))
      (pss_one (ps_ret pe_bl))
      pss_nil)
      (pss_one (ps_ret (C8.pe_c G_are_names hr (by decide) (by rfl) (pa_cons (pe_lc (own := [("row", 2)]) (g := gName 2) (tt := tYes) rfl sc_are_symbols.nd (pi_seq (pv 0)) (blkOk_by (N := ["value", "sorts", "row"]) (sc := C8.fnScope (topS 32)) (by decide +kernel)) (fun _ _ _ _ _ => pg_name (i := 2) sc_are_symbols.nd rfl (Or.inl rfl)) (fun _ _ _ _ _ => pts_nil) (fun _ _ _ _ _ => (pe_ix (show IxR _ (rIxY K) from ix_Y) (pv 2) pe_int (fun _ _ => rfl)))) (pa_cons (pe_glob (v := .int 16) rfl m_MOST_SYMBOLS ⟨_, rfl⟩) pa_nil))))))), ?_⟩
      refine ⟨_, rfl, call_B n (.cons rv .nil) rfl fun H1 e1 => ⟨_, rfl, ?_⟩⟩
      cases hL : isListed x with
      | false => exact iteT (kf _ _ e1 (by unfold areSyms; rw [hL]; rfl))
      | true =>
      unfold areSyms at kf
      rw [hL] at kf
      refine iteF ⟨_, rfl, R.len (rv.ex e1) hL ⟨_, _, rfl, rfl, _, rfl, ?_⟩⟩
      refine ite2 (fun c1 => ?_) (fun c1 => ?_)
      · have c1' : 1 ≤ (itemsOf x).length := by have := of_decide_eq_true c1; omega
        rw [decide_eq_true c1'] at kf
        refine ⟨_, _, rfl, rfl, _, rfl, ?_⟩
        by_cases c2 : (itemsOf x).length ≤ 16
        · have z : decide (((itemsOf x).length : Int) ≤ 16) = true := decide_eq_true (by omega)
          rw [z]
          rw [decide_eq_true c2] at kf
          refine iteF ?_
          obtain ⟨a, xs, rfl, ha, ra⟩ := seq_of (rv.ex e1) hL
          obtain ⟨J, sJ, wk⟩ := seq_walk (K := K) ha ra
          refine ⟨_, rfl, a, J, rfl, sJ, fun D hD => lc_map (N := N) (fun d => .bool (isSym ((itemsOf so).map strOf) d)) wk hD (n.ex e1) (Nat.le_trans c2 (by decide)) (fun v d H5 hm e5 nn r Q' q => ?_) fun H5 ys e5 hy ry => ?_⟩
          · refine ⟨_, rfl, _, rfl, call_B nn (.cons r (.cons (((rs.ex e1).plus hD).ex e5) .nil)) (F_sym_some ?_) fun H6 e6 => q _ _ e6 (.bl _)⟩
            unfold okSym
            rw [hLs, hstr, show short ((itemsOf d).getD 0 .none) = true from List.all_eq_true.mp hsh d hm]
            rfl
          · have z : (itemsOf x).map (fun d => PyData.bool (isSym ((itemsOf so).map strOf) d)) = ((itemsOf x).map (isSym ((itemsOf so).map strOf))).map PyData.bool := by rw [List.map_map]; rfl
            rw [z] at ry
            refine ⟨_, _, rfl, SqL.of (by rw [hy, ry.bools]), ?_⟩
            refine ⟨_, rfl, ?_⟩
            have z2 : ((itemsOf x).map (isSym ((itemsOf so).map strOf))).all id = (itemsOf x).all (isSym ((itemsOf so).map strOf)) := by rw [List.all_map]; rfl
            rw [z2]
            cases hA : (itemsOf x).all (isSym ((itemsOf so).map strOf)) with
            | false => exact iteT (kf _ _ (e1.trans e5) (by rw [hA]; rfl))
            | true =>
            rw [hA] at kf
            have e15 := e1.trans e5
            obtain ⟨a', xs', ea, ha, ra⟩ := seq_of (rv.ex e15) hL
            cases ea
            obtain ⟨J2, sJ2, wk⟩ := seq_walk (K := K) ha ra
            refine iteF ⟨_, rfl, a, J2, rfl, sJ2, fun D2 hD2 => lc_map (N := N) rowName wk hD2 (n.ex e15) (Nat.le_trans c2 (by decide)) (fun v d H6 hm e6 nn r Q' q => ?_) fun H6 ys e6 hy ry => ?_⟩
            · have hs := sym_listed (List.all_eq_true.mp hA d hm)
              exact ⟨_, rfl, R.ix r hs.1 (by decide) hs.2 fun x0 r0 => q _ _ (Ex.refl _) r0⟩
            · have e16 := e15.trans e6
              have rl : R N H6 (.ref D2) (.list ((itemsOf x).map rowName)) := .lst hy (fun z => (n.ex e15) _ z hD2) ry
              refine call_B (n.ex e16) (.cons rl (.cons (.int 16) .nil)) (given_some ?_) fun H7 e7 => kf _ _ (e16.trans e7) (by rfl)
              show (decide (((itemsOf x).map rowName).length ≤ 100000) && ((itemsOf x).map rowName).all short) = true
              rw [List.length_map, List.all_map, decide_eq_true (Nat.le_trans c2 (by decide))]
              exact hsh
        · have z : decide (((itemsOf x).length : Int) ≤ 16) = false := decide_eq_false (by omega)
          rw [z]
          exact iteT (kf _ _ e1 (by rw [decide_eq_false c2]; rfl))
      · have c1' : ¬ 1 ≤ (itemsOf x).length := fun q => c1 (decide_eq_true (by omega))
        refine ⟨_, rfl, iteT (kf _ _ e1 (by rw [decide_eq_false c1']; rfl))⟩
end
end K1
end

section
set_option Elab.async false
set_option linter.all false
set_option maxRecDepth 100000
set_option maxHeartbeats 2000000
namespace K1
open PySem L2 Rp
local macro_rules | `(tactic| walk_at "rd") => `(tactic| repeat (first
  | refine ⟨_, rfl, ?_⟩
  | refine ⟨_, _, rfl, rfl, ?_⟩
  | refine ⟨rfl, ?_⟩
  | refine iteT ?_
  | refine iteF ?_))
/-- a method of the class Signs -/
def mS (i : Nat) : Stmt := (C8.clsBody (topS 33)).getD i (.Pass ⟨0, 0, 0, 0⟩)
/-! ### plain: what are_symbols lets by -/
def strsOf (d : PyData) : List Str := (itemsOf d).map strOf
def rowAt (r : PyData) : SRow := ⟨strOf (rowName r), strsOf ((itemsOf r).getD 1 .none), strOf ((itemsOf r).getD 2 .none)⟩
def rowsOf (d : PyData) : List SRow := (itemsOf d).map rowAt
theorem isStr_of {d : PyData} (h : isStr d = true) : d = .str (strOf d) := by
  cases d with
  | str x => rfl
  | _ => cases h
theorem isName_str {d : PyData} (h : isName d = true) : isStr d = true := by
  cases d with
  | str x => rfl
  | _ => cases h
theorem fix_strs : ∀ {ds : List PyData}, ds.all isStr = true → ds.map fixD = strsD (ds.map strOf)
  | [], _ => rfl
  | d :: ds, h => by
    rw [List.all_cons, Bool.and_eq_true] at h
    rw [isStr_of h.1]
    show fixD (.str (strOf d)) :: ds.map fixD = _
    rw [fix_strs h.2]
    rfl
theorem all_imp {p q : PyData → Bool} {ds : List PyData} (h : ∀ d ∈ ds, p d = true → q d = true) (hp : ds.all p = true) : ds.all q = true := List.all_eq_true.mpr fun d hd => h d hd (List.all_eq_true.mp hp d hd)
structure SymOk (ss : List Str) (v : PyData) : Prop where
  ex : ∃ x0 x1 x2, isListed v = true ∧ itemsOf v = [x0, x1, x2] ∧ isName x0 = true ∧ isListed x1 = true ∧ (itemsOf x1).length ≤ 3 ∧ (itemsOf x1).all isStr = true ∧ isStr x2 = true ∧ (∀ s ∈ strsOf x1, s ∈ ss) ∧ strOf x2 ∈ ss
theorem sym_ok {ss : List Str} {v : PyData} (h : isSym ss v = true) : SymOk ss v := by
  unfold isSym at h
  simp only [Bool.and_eq_true, decide_eq_true_eq] at h
  obtain ⟨⟨⟨⟨⟨h1, h2⟩, h3⟩, h4⟩, h5⟩, h6⟩ := h
  obtain ⟨x0, x1, x2, hi⟩ : ∃ x0 x1 x2, itemsOf v = [x0, x1, x2] := by
    match itemsOf v, h2 with
    | [x0, x1, x2], _ => exact ⟨x0, x1, x2, rfl⟩
  rw [hi] at h3 h4 h5 h6
  have h3 : isName x0 = true := h3
  have h4 : isListed x1 = true := h4
  have h5 : (itemsOf x1).length ≤ 3 := h5
  have h6 : ((itemsOf x1) ++ [x2]).all (fun d => isStr d && decide (strOf d ∈ ss)) = true := h6
  have h6' : ∀ d ∈ itemsOf x1 ++ [x2], isStr d = true ∧ strOf d ∈ ss := fun d hd => by
    have := List.all_eq_true.mp h6 d hd
    simpa using this
  exact ⟨x0, x1, x2, h1, hi, h3, h4, h5, List.all_eq_true.mpr fun d hd => (h6' d (List.mem_append_left _ hd)).1, (h6' x2 (by simp)).1, fun s hs => by
    obtain ⟨d, hd, rfl⟩ := List.mem_map.mp hs
    exact (h6' d (List.mem_append_left _ hd)).2, (h6' x2 (by simp)).2⟩
theorem SymOk.fix {ss : List Str} {v : PyData} (h : SymOk ss v) : fixD v = rowD (rowAt v) ∧ okFix 3 v = true := by
  obtain ⟨x0, x1, x2, h1, hi, h3, h4, h5, h6, h7, _, _⟩ := h.ex
  constructor
  · rw [fixD_seq h1, hi]
    show PyData.tuple [fixD x0, fixD x1, fixD x2] = rowD ⟨_, _, _⟩
    unfold rowName strsOf
    rw [hi]
    show PyData.tuple [fixD x0, fixD x1, fixD x2] = .tuple [.str (strOf x0), .tuple (strsD ((itemsOf x1).map strOf)), .str (strOf x2)]
    rw [fixD_seq h4, fix_strs h6, isStr_of (isName_str h3), isStr_of h7]
    rfl
  · have ns : ∀ d, isStr d = true → okFix 1 d = true := fun d hd => by
      rw [isStr_of hd]
      rfl
    have up : ∀ d, isStr d = true → okFix 2 d = true := fun d hd => by
      rw [isStr_of hd]
      rfl
    have e1 : okFix 2 x1 = true := by
      show (!isListed x1 || (decide ((itemsOf x1).length ≤ 100000) && (itemsOf x1).all (okFix 1))) = true
      rw [h4, decide_eq_true (show (itemsOf x1).length ≤ 100000 by omega), all_imp (fun d _ => ns d) h6]
      rfl
    show (!isListed v || (decide ((itemsOf v).length ≤ 100000) && (itemsOf v).all (okFix 2))) = true
    rw [h1, hi]
    show (decide (3 ≤ 100000) && (okFix 2 x0 && (okFix 2 x1 && (okFix 2 x2 && true)))) = true
    rw [e1, up _ (isName_str h3), up _ h7]
    rfl
theorem syms_fix {ss : List Str} {v : PyData} (h : areSyms ss v = true) : fixD v = .tuple ((rowsOf v).map rowD) ∧ okFix 4 v = true ∧ ((rowsOf v).map (·.name)).Nodup ∧ isListed v = true ∧ (itemsOf v).length ≤ 16 ∧ (itemsOf v).all (isSym ss) = true := by
  unfold areSyms at h
  simp only [Bool.and_eq_true, decide_eq_true_eq] at h
  obtain ⟨⟨⟨⟨h1, h2⟩, h3⟩, h4⟩, h5⟩ := h
  have hr : ∀ r ∈ itemsOf v, SymOk ss r := fun r hr => sym_ok (List.all_eq_true.mp h4 r hr)
  refine ⟨?_, ?_, ?_, h1, h3, h4⟩
  · rw [fixD_seq h1]
    unfold rowsOf
    rw [List.map_map]
    exact congrArg PyData.tuple (List.map_congr_left fun r q => (hr r q).fix.1)
  · show (!isListed v || (decide ((itemsOf v).length ≤ 100000) && (itemsOf v).all (okFix 3))) = true
    rw [h1, decide_eq_true (show (itemsOf v).length ≤ 100000 by omega), List.all_eq_true.mpr fun r q => (hr r q).fix.2]
    rfl
  · unfold areNames at h5
    simp only [Bool.and_eq_true, decide_eq_true_eq] at h5
    have h6 := h5.2
    unfold rowsOf
    rw [List.map_map]
    have e : itemsOf (.list ((itemsOf v).map rowName)) = (itemsOf v).map rowName := rfl
    rw [e, List.map_map] at h6
    exact h6
/-- sorts as they should be -/
def sortsOk (d : PyData) : Bool := areNames d 6 && !decide ((itemsOf d).length = 0)
theorem sorts_fix {d : PyData} (h : areNames d 6 = true) : fixD d = .tuple (strsD (strsOf d)) ∧ okFix 4 d = true ∧ isListed d = true ∧ (itemsOf d).all isStr = true := by
  unfold areNames at h
  simp only [Bool.and_eq_true, decide_eq_true_eq] at h
  obtain ⟨⟨⟨h1, h2⟩, h3⟩, h4⟩ := h
  have hs : (itemsOf d).all isStr = true := all_imp (fun x _ => isName_str) h3
  refine ⟨?_, ?_, h1, hs⟩
  · rw [fixD_seq h1, fix_strs hs]
    rfl
  · show (!isListed d || (decide ((itemsOf d).length ≤ 100000) && (itemsOf d).all (okFix 3))) = true
    rw [h1, decide_eq_true (show (itemsOf d).length ≤ 100000 by omega), all_imp (fun x _ hx => by rw [isStr_of hx]; rfl) hs]
    rfl
end K1
end

section
set_option Elab.async false
set_option linter.all false
set_option maxRecDepth 100000
set_option maxHeartbeats 2000000
namespace K1
open PySem L2 Rp
local macro_rules | `(tactic| walk_at "rd") => `(tactic| repeat (first
  | refine ⟨_, rfl, ?_⟩
  | refine ⟨_, _, rfl, rfl, ?_⟩
  | refine ⟨rfl, ?_⟩
  | refine iteT ?_
  | refine iteF ?_))
/-- what the head says of an own error with one field -/
structure Xc (K : PySem.W.Frag) (mg : Str → Option Value) (x f : Str) (C fI cc cda : Addr) : Prop where
  t : X1 K C fI cc cda f
  m : mg x = some (.ref C)
/-- what the head says of the class Signs -/
structure TxtS (K : PySem.W.Frag) (mg : Str → Option Value) (C : Addr) : Prop where
  cl : Cls K C
  m : mg "Signs" = some (.ref C)
  n1 : NoAttr K C "sorts"
  n2 : NoAttr K C "symbols"
  n3 : NoAttr K C "known"
  ha : PySem.W.findIn K (.ref C) "__class__" = some (some (.builtin "object.__class__"))
  hn : PySem.W.specialIn K (.builtin "object.__class__") "__get__" = some (some (.builtin "getset_descriptor.__get__"))
  ht : PySem.W.takesIn K (.builtin "object.__class__") = some true
  hm : PySem.W.mroIn K C (.type "object") = some true
  own : PySem.W.kitOne K (.ref C) (.ref C) = some true
section
variable {P : Program} {w : World} {K : PySem.W.Frag} {mg : Str → Option Value} {base : Heap} {f : Addr} {fd : FuncData} {C CB fB ccB cdB CN fN ccN cdN : Addr}
/-- what Signs(d1, d2) may be asked -/
def preS (d1 d2 : PyData) : Bool := decide ((itemsOf d1).length ≤ 100000) && (itemsOf d1).all short && (itemsOf d2).all fun r => short (rowName r)
def spSigns (C CB : Addr) : Sp := fun vs H Q E => ∃ (N : Addr → Prop) (x dx : Addr) (v1 v2 : V) (d1 d2 : PyData), vs = [.ref x, v1, v2] ∧ NOk N H ∧ N x ∧ H x = some (.ins C dx []) ∧ R N H v1 d1 ∧ R N H v2 d2 ∧ preS d1 d2 = true ∧
  (sortsOk d1 = false → Thr N H E CB "part" (.str "sorts")) ∧ (sortsOk d1 = true → areSyms (strsOf d1) d2 = false → Thr N H E CB "part" (.str "symbols")) ∧
  (sortsOk d1 = true → areSyms (strsOf d1) d2 = true → ∀ (H' : Hp) (vso vsy : V) (k : Addr) (kvs : List (Key × V)), Xt x H H' → H' x = some (.ins C dx [("sorts", vso), ("symbols", vsy), ("known", .ref k)]) → R N H' vso (.tuple (strsD (strsOf d1))) →
    R N H' vsy (.tuple ((rowsOf d2).map rowD)) → H' k = some (.dK kvs) → ¬ N k → KvR N H' kvs ((rowsOf d2).map fun r => (r.name, rowD r)) → Q .non H')
theorem sc_Signs_init : FnScope ["self", "sorts", "symbols", "row"] ["self", "sorts", "symbols"] (C8.fnScope (mS 0)) := C8.fnScope_by (by decide +kernel)
theorem ok_SignsF (F : C8.Fun K "__init__" "Signs.__init__" (mS 0) f fd) (T : TxtB K mg) (S : TxtS K mg C) (X_BadSigns : Xc K mg "BadSigns" "part" CB fB ccB cdB) (XG : XProg P mg)
    (G_are_names : C8.Cal P w K mg base 2 "are_names" (spP F_are_names) []) (G_are_symbols : C8.Cal P w K mg base 4 "are_symbols" (spP F_are_symbols) []) (G_fixed : C8.Cal P w K mg base 4 "fixed" (spP (F_fixed 4)) []) : FnOk P w K mg base (L2.CX P w) 6 f fd ["self", "sorts", "symbols"] (spSigns C CB) :=
  fnX F sc_Signs_init (fun vs H Q E h => by obtain ⟨N, x, dx, v1, v2, d1, d2, rfl, _⟩ := h; rfl) fun cdv A outer s H vs Q E hr h => by
    obtain ⟨N, x, dx, v1, v2, d1, d2, rfl, n, nx, hx, r1, r2, pre, kA, kB, kC⟩ := h
    obtain ⟨tM, m_MOST_SORTS⟩ := T.mg_MOST_SORTS
    have tX := takes_of (X := cxOf (L2.CX P w) P w K mg base ["self", "sorts", "symbols", "row"] "Signs.__init__" (C8.fnScope (mS 0)) f cdv A outer s H E) rfl rfl rfl rfl
    refine ⟨_, (pss_cons (ps_if (PW.pt (pw_or (pt_not (pt_val (C8.pe_c G_are_names hr (by decide) (by rfl) (pa_cons (pv 1) (pa_cons (pe_glob (v := .int 6) rfl m_MOST_SORTS ⟨_, rfl⟩) pa_nil))))) (pw_or1 (pt_cmpR op_eq (pe_callB call_lenS (by rfl) T.len PyProof.Rows.Boot.«len» (pa_cons (pv 1) pa_nil)) pe_int (nomark _)))))
      (pss_one (ps_raise1 rfl X_BadSigns.t XG hr tX X_BadSigns.m (pa_cons pe_str pa_nil)))
      pss_nil)
      (pss_cons (ps_if (pt_not (pt_val (C8.pe_c G_are_symbols hr (by decide) (by rfl) (pa_cons (pv 2) (pa_cons (pv 1) pa_nil)))))
      (pss_one (ps_raise1 rfl X_BadSigns.t XG hr tX X_BadSigns.m (pa_cons pe_str pa_nil)))
      pss_nil)
      (pss_cons (ps_fld (pv 0) (C8.pe_c G_fixed hr (by decide) (by rfl) (pa_cons (pv 1) pa_nil)) rfl)
      (pss_cons (ps_fld (pv 0) (C8.pe_c G_fixed hr (by decide) (by rfl) (pa_cons (pv 2) pa_nil)) rfl)
      (pss_one (ps_fld (pv 0) (pe_dc (own := [("row", 3)]) (g := gName 3) (tt := tYes) rfl sc_Signs_init.nd (pi_seq (pe_fld (pv 0) rfl)) (blkOk_by (N := ["self", "sorts", "symbols", "row"]) (sc := C8.fnScope (mS 0)) (by decide +kernel)) (fun _ _ _ _ _ => pg_name (i := 3) sc_Signs_init.nd rfl (Or.inl rfl)) (fun _ _ _ _ _ => pts_nil) (fun _ _ _ _ _ => (pe_ix (show IxR _ (rIxY K) from ix_Y) (pv 3) pe_int (fun _ _ => rfl))) (fun _ _ _ _ _ => (pv 3))) rfl)))))), ?_⟩
    have ra : RAll N H [v1] [d1] := .cons r1 .nil
    obtain ⟨pre12, p3⟩ := Bool.and_eq_true_iff.mp pre
    refine ⟨_, rfl, call_B n (.cons r1 (.cons (.int 6) .nil)) (given_some pre12) fun H1 e1 => ⟨_, rfl, ?_⟩⟩
    have hS : sortsOk d1 = (areNames d1 6 && !decide ((itemsOf d1).length = 0)) := rfl
    cases hA : areNames d1 6 with
    | false => exact iteT ⟨_, rfl, (kA (by rw [hS, hA]; rfl)).go e1 (.str _)⟩
    | true =>
    obtain ⟨f1, o1, hL, hstr⟩ := sorts_fix hA
    refine iteF ⟨_, rfl, R.len (r1.ex e1) hL ⟨rfl, _, rfl, ?_⟩⟩
    rw [dec_int]
    by_cases h0 : (itemsOf d1).length = 0
    · rw [decide_eq_true (show ((itemsOf d1).length : Int) = 0 by omega)]
      exact iteT ⟨_, rfl, (kA (by rw [hS, hA, decide_eq_true h0]; rfl)).go e1 (.str _)⟩
    rw [decide_eq_false (show ¬ ((itemsOf d1).length : Int) = 0 by omega)]
    have hS1 : sortsOk d1 = true := by rw [hS, hA, decide_eq_false h0]; rfl
    refine iteF ?_
    refine ⟨_, rfl, _, rfl, call_B (n.ex e1) (.cons (r2.ex e1) (.cons (r1.ex e1) .nil)) (given_some ?_) fun H2 e2 => ⟨_, rfl, ?_⟩⟩
    · show (((itemsOf d2).all fun r => short (rowName r)) && isListed d1 && (itemsOf d1).all isStr) = true
      rw [p3, hL, hstr]
      rfl
    have e12 := e1.trans e2
    cases hB : areSyms ((itemsOf d1).map strOf) d2 with
    | false => exact iteT ⟨_, rfl, (kB hS1 hB).go e12 (.str _)⟩
    | true =>
    obtain ⟨f2, o2, hnd, hL2, h16, hall⟩ := syms_fix hB
    refine iteF ?_
    -- self.sorts = fixed(sorts)
    refine ⟨_, rfl, call_P (n.ex e12) (.cons (r1.ex e12) .nil) (F_fixed_some o1) fun vso H3 e3 rso => ?_⟩
    have e13 := e12.trans e3
    refine ⟨_, rfl, x, C, dx, _, rfl, e13 _ _ hx, S.cl, S.n1, by decide, ?_⟩
    -- self.symbols = fixed(symbols)
    have n3 : NOk N (upd H3 x (.ins C dx (putF "sorts" vso []))) := (n.ex e13).upd
    refine ⟨_, rfl, call_P n3 (.cons ((r2.ex e13).upd nx) .nil) (F_fixed_some o2) fun vsy H4 e4 rsy => ?_⟩
    have hx4 := e4 _ _ (show (upd H3 x (.ins C dx (putF "sorts" vso []))) x = _ from upd_same)
    refine ⟨_, rfl, x, C, dx, _, rfl, hx4, S.cl, S.n2, Nat.lt_trans (putF_lt (by decide)) (by decide), ?_⟩
    have t4 : Xt x H (upd H4 x (.ins C dx (putF "symbols" vsy (putF "sorts" vso [])))) := ((e13.xt.trans Xt.upd).trans e4.xt).trans Xt.upd
    have n5 : NOk N (upd H4 x (.ins C dx (putF "symbols" vsy (putF "sorts" vso [])))) := (n3.ex e4).upd
    have rso5 : R N (upd H4 x (.ins C dx (putF "symbols" vsy (putF "sorts" vso [])))) vso (fixD d1) := ((rso.upd nx).ex e4).upd nx
    have rsy5 : R N (upd H4 x (.ins C dx (putF "symbols" vsy (putF "sorts" vso [])))) vsy (fixD d2) := rsy.upd nx
    rw [f2] at rsy5
    obtain ⟨a, xs, rfl, ha, ra⟩ := seq_of rsy5 rfl
    obtain ⟨J, sJ, wk⟩ := seq_walk (K := K) ha ra
    have hrows : ∀ d ∈ (rowsOf d2).map rowD, isListed d = true ∧ (itemsOf d)[0]? = some (.str (strOf (rowName d))) := fun d hd => by
      obtain ⟨r, _, rfl⟩ := List.mem_map.mp hd
      exact ⟨rfl, rfl⟩
    refine ⟨_, rfl, x, C, dx, _, .ref a, rfl, upd_same, S.cl, S.n2, rfl, a, J, rfl, sJ, fun D hD => dc_map (N := N) (fun r => strOf (rowName r)) (fun r => r) wk hD n5 (by show ((rowsOf d2).map rowD).length ≤ _; unfold rowsOf; rw [List.length_map, List.length_map]; exact Nat.le_trans h16 (by decide)) (fun v d H6 hm e6 nn r Q' q => ?_) fun H6 kvs e6 hy ry => ?_⟩
    · have hs := hrows d hm
      exact ⟨_, rfl, R.ix r hs.1 (by decide) hs.2 fun x0 r0 => by
        rw [r0.strv]
        exact ⟨_, rfl, q _ _ (Ex.refl _) r⟩⟩
    · have hx6 := e6 _ _ (show (upd H4 x (.ins C dx (putF "symbols" (.ref a) (putF "sorts" vso [])))) x = _ from upd_same)
      refine ⟨_, rfl, x, C, dx, _, rfl, hx6, S.cl, S.n3, Nat.lt_of_le_of_lt (putF_le _ _ _) (Nat.lt_of_le_of_lt (Nat.succ_le_succ (putF_le _ _ _)) (by decide)), ?_⟩
      have hDx : D ≠ x := fun z => by
        rw [z] at hD
        exact n5 x nx hD
      have hN : ((rowsOf d2).map rowD).map (fun r => strOf (rowName r)) = (rowsOf d2).map (·.name) := by rw [List.map_map]; rfl
      have z : putAll (fun r => strOf (rowName r)) (fun r => r) ((rowsOf d2).map rowD) = (rowsOf d2).map fun r => (r.name, rowD r) := by
        rw [putAll_nodup (by rw [hN]; exact hnd), List.map_map]
        rfl
      rw [show itemsOf (.tuple ((rowsOf d2).map rowD)) = (rowsOf d2).map rowD from rfl, z] at ry
      refine kC hS1 hB _ vso (.ref a) D kvs ((t4.trans e6.xt).trans Xt.upd) upd_same ?_ ?_ ?_ (fun q => n5 D q hD) ?_
      · rw [f1] at rso5
        exact (rso5.ex e6).upd nx
      · exact (rsy5.ex e6).upd nx
      · rw [upd_ne hDx]
        exact hy
      · exact ry.mono (Xt.upd.xn nx)
/-! ### need_symbol, arguments, sort_of -/
def spNeed (C CN : Addr) : Sp := fun vs H Q E => ∃ (N : Addr → Prop) (a v : V) (so : List Str) (sy : List SRow) (d : PyData), vs = [a, v] ∧ NOk N H ∧ SigAt C N H a so sy ∧ R N H v d ∧
  ((rowOf sy d).isSome = true → Q .non H) ∧ (rowOf sy d = none → Thr N H E CN "name" d)
theorem sc_need : FnScope ["self", "name"] ["self", "name"] (C8.fnScope (mS 2)) := C8.fnScope_by (by decide +kernel)
theorem ok_need (me : Meth K C "need_symbol" f) (F : C8.Fun K "need_symbol" "Signs.need_symbol" (mS 2) f fd) (b : Binds K fd ["self", "name"] []) (T : TxtB K mg) (S : TxtS K mg C) (X_NoName : Xc K mg "NoName" "name" CN fN ccN cdN) (XG : XProg P mg) : MetX P w K mg base 3 C "need_symbol" (spNeed C CN) [] :=
  metX S.cl me F b sc_need (fun vs H Q E h => by obtain ⟨N, x, v, so, sy, d, rfl, _⟩ := h; rfl) fun cdv A outer s H vs Q E hr h => by
    obtain ⟨N, x, v, so, sy, d, rfl, n, sa, r, k1, k2⟩ := h
    have hu := hu_of hr
    have tX := takes_of (X := cxOf (L2.CX P w) P w K mg base ["self", "name"] "Signs.need_symbol" (C8.fnScope (mS 2)) f cdv A outer s H E) rfl rfl rfl rfl
    refine ⟨_, (pss_one (ps_if (PW.pt (pw_or (pt_not (pt_val (pe_callB call_isY (by rfl) T.isinstance PyProof.Rows.Boot.«isinstance» (pa_cons (pv 1) (pa_cons (pe_bltn (v := .ty "str") rfl T.str PyProof.Rows.Boot.«str» rfl) pa_nil))))) (pw_or1 (pt_cmp (pc_dnotin (Nat.lt_of_le_of_lt (Nat.add_le_add_left (by decide) _) hr.units) (pv 1) (pe_fld (pv 0) rfl))))))
      (pss_one (ps_raise1 rfl X_NoName.t XG hr tX X_NoName.m (pa_cons (pv 1) pa_nil)))
      pss_nil)), ?_⟩
    refine ⟨_, rfl, R.isStrQ r ⟨_, rfl, ?_⟩⟩
    cases d with
    | str y =>
      have ev := r.strv
      subst ev
      obtain ⟨x, dx, k, vso, vsy, kvs, rfl, hx, nx, r1, r2, hk, nk, q⟩ := sa.ex
      refine iteF ⟨_, rfl, _, rfl, x, C, dx, _, .ref k, rfl, hx, S.cl, S.n3, rfl, k, valV kvs (Sum.inr y), rfl, DGet.k (k := Sum.inr y) hk, ?_⟩
      have hv := valS_rows y sy
      rcases q.val (k := y) with ⟨a, bb⟩ | ⟨v, d, a, bb, rv⟩
      · rw [bb]
        rw [a] at hv
        have z : rowOf sy (.str y) = none := by
          cases e : rowOf sy (.str y) with
          | none => rfl
          | some r => rw [e] at hv; cases hv
        exact ⟨_, rfl, iteT ⟨_, rfl, _, rfl, (k2 z).go (Ex.refl H) (.str _)⟩⟩
      · rw [bb]
        rw [a] at hv
        have z : (rowOf sy (.str y)).isSome = true := by
          cases e : rowOf sy (.str y) with
          | none => rw [e] at hv; cases hv
          | some r => rfl
        exact ⟨_, rfl, iteF (k1 z)⟩
    | _ => exact iteT ⟨_, rfl, _, rfl, (k2 rfl).go (Ex.refl H) r⟩
/-- a part of the symbol's row, else NoName -/
def spPart (C CN : Addr) (g : SRow → PyData) : Sp := fun vs H Q E => ∃ (N : Addr → Prop) (a v : V) (so : List Str) (sy : List SRow) (d : PyData), vs = [a, v] ∧ NOk N H ∧ SigAt C N H a so sy ∧ R N H v d ∧
  (∀ r, rowOf sy d = some r → ∀ u, R N H u (g r) → Q u H) ∧ (rowOf sy d = none → Thr N H E CN "name" d)
theorem sc_arguments : FnScope ["self", "name"] ["self", "name"] (C8.fnScope (mS 3)) := C8.fnScope_by (by decide +kernel)
theorem part_go {N : Addr → Prop} {H : Hp} {a : V} {so : List Str} {sy : List SRow} {r : SRow} {y : Str} {X : Prop} (sa : SigAt C N H a so sy) (e : rowOf sy (.str y) = some r)
    (go : ∀ (x dx k : Addr) (vso vsy rv : V) (kvs : List (Key × V)), a = .ref x → H x = some (.ins C dx [("sorts", vso), ("symbols", vsy), ("known", .ref k)]) → H k = some (.dK kvs) → valV kvs (Sum.inr y) = some rv → R N H rv (rowD r) → X) : X := by
  obtain ⟨x, dx, k, vso, vsy, kvs, rfl, hx, nx, r1, r2, hk, nk, q⟩ := sa.ex
  have hv := valS_rows y sy
  rw [e] at hv
  rcases q.val (k := y) with ⟨z, bb⟩ | ⟨v, d, z, bb, rv⟩
  · rw [z] at hv
    cases hv
  · rw [z] at hv
    have hd : d = rowD r := Option.some.inj hv
    subst hd
    exact go x dx k vso vsy v kvs rfl hx hk bb rv
theorem ok_arguments (me : Meth K C "arguments" f) (F : C8.Fun K "arguments" "Signs.arguments" (mS 3) f fd) (b : Binds K fd ["self", "name"] []) (S : TxtS K mg C) (M_need : MetX P w K mg base 3 C "need_symbol" (spNeed C CN) []) : MetX P w K mg base 4 C "arguments" (spPart C CN fun r => .tuple (strsD r.args)) [] :=
  metX S.cl me F b sc_arguments (fun vs H Q E h => by obtain ⟨N, x, v, so, sy, d, rfl, _⟩ := h; rfl) fun cdv A outer s H vs Q E hr h => by
    obtain ⟨N, a, v, so, sy, d, rfl, n, sa, r, k1, k2⟩ := h
    have tX := takes_of (X := cxOf (L2.CX P w) P w K mg base ["self", "name"] "Signs.arguments" (C8.fnScope (mS 3)) f cdv A outer s H E) rfl rfl rfl rfl
    refine ⟨_, (pss_cons (ps_expr (pe_mtX M_need hr (by decide) (passes_call tX fun _ _ _ _ h => h) (pv 0) (pa_cons (pv 1) pa_nil)))
      (pss_one (ps_ret (pe_ix ix_Y (pe_dget (Nat.lt_of_le_of_lt (Nat.add_le_add_left (by decide) _) hr.units) (pe_fld (pv 0) rfl) (pv 1) (fun _ _ => rfl)) pe_int (fun _ _ => rfl))))), ?_⟩
    obtain ⟨x, dx, k, vso, vsy, kvs, rfl, hx, _⟩ := sa.ex
    refine ⟨_, rfl, x, dx, _, rfl, hx, rfl, _, rfl, N, _, _, so, sy, d, rfl, n, sa, r, fun hs => ?_, fun hn => k2 hn⟩
    obtain ⟨w0, e⟩ := Option.isSome_iff_exists.mp hs
    cases d with
    | str y =>
      have ev := r.strv
      subst ev
      refine part_go sa e fun x dx k vso vsy rv kvs ea hx hk hv rr => ?_
      cases ea
      exact ⟨_, rfl, x, C, dx, _, .ref k, rfl, hx, S.cl, S.n3, rfl, _, rfl, k, rv, rfl, by rw [← hv]; exact DGet.k (k := Sum.inr y) hk, R.ix rr rfl (by decide) rfl fun u ru => k1 _ e u ru⟩
    | _ => cases e
theorem sc_sort_of : FnScope ["self", "name"] ["self", "name"] (C8.fnScope (mS 4)) := C8.fnScope_by (by decide +kernel)
theorem ok_sort_of (me : Meth K C "sort_of" f) (F : C8.Fun K "sort_of" "Signs.sort_of" (mS 4) f fd) (b : Binds K fd ["self", "name"] []) (S : TxtS K mg C) (M_need : MetX P w K mg base 3 C "need_symbol" (spNeed C CN) []) : MetX P w K mg base 4 C "sort_of" (spPart C CN fun r => .str r.sort) [] :=
  metX S.cl me F b sc_sort_of (fun vs H Q E h => by obtain ⟨N, x, v, so, sy, d, rfl, _⟩ := h; rfl) fun cdv A outer s H vs Q E hr h => by
    obtain ⟨N, a, v, so, sy, d, rfl, n, sa, r, k1, k2⟩ := h
    have tX := takes_of (X := cxOf (L2.CX P w) P w K mg base ["self", "name"] "Signs.sort_of" (C8.fnScope (mS 4)) f cdv A outer s H E) rfl rfl rfl rfl
    refine ⟨_, (pss_cons (ps_expr (pe_mtX M_need hr (by decide) (passes_call tX fun _ _ _ _ h => h) (pv 0) (pa_cons (pv 1) pa_nil)))
      (pss_one (ps_ret (pe_ix ix_Y (pe_dget (Nat.lt_of_le_of_lt (Nat.add_le_add_left (by decide) _) hr.units) (pe_fld (pv 0) rfl) (pv 1) (fun _ _ => rfl)) pe_int (fun _ _ => rfl))))), ?_⟩
    obtain ⟨x, dx, k, vso, vsy, kvs, rfl, hx, _⟩ := sa.ex
    refine ⟨_, rfl, x, dx, _, rfl, hx, rfl, _, rfl, N, _, _, so, sy, d, rfl, n, sa, r, fun hs => ?_, fun hn => k2 hn⟩
    obtain ⟨w0, e⟩ := Option.isSome_iff_exists.mp hs
    cases d with
    | str y =>
      have ev := r.strv
      subst ev
      refine part_go sa e fun x dx k vso vsy rv kvs ea hx hk hv rr => ?_
      cases ea
      exact ⟨_, rfl, x, C, dx, _, .ref k, rfl, hx, S.cl, S.n3, rfl, _, rfl, k, rv, rfl, by rw [← hv]; exact DGet.k (k := Sum.inr y) hk, R.ix rr rfl (by decide) rfl fun u ru => k1 _ e u ru⟩
    | _ => cases e
/-! ### constants -/
def spConst (C CN : Addr) : Sp := fun vs H Q E => ∃ (N : Addr → Prop) (a v : V) (so : List Str) (sy : List SRow) (d : PyData), vs = [a, v] ∧ NOk N H ∧ SigAt C N H a so sy ∧ R N H v d ∧
  (∀ x, d = .str x → x ∈ so → ∀ ys : List Str, ys.Perm (constsOf sy x) → PyProof.Rows.sortedS ys = true → ∀ u H', Ex H H' → R N H' u (.tuple (strsD ys)) → Q u H') ∧ ((∀ x, d = .str x → x ∉ so) → Thr N H E CN "name" d)
theorem strs_all : ∀ ss : List Str, (strsD ss).all isStr = true ∧ (strsD ss).map strOf = ss
  | [] => ⟨rfl, rfl⟩
  | s :: r => by
    obtain ⟨a, b⟩ := strs_all r
    exact ⟨a, congrArg (s :: ·) b⟩
theorem strs_R {N : Addr → Prop} {H : Hp} : ∀ ss : List Str, RAll N H (ss.map V.str) (strsD ss)
  | [] => .nil
  | s :: r => .cons (.str s) (strs_R r)
/-! ### == -/
def spSigEq (C : Addr) : Sp := fun vs H Q _ => ∃ (N M : Addr → Prop) (a b : V) (so so2 : List Str) (sy sy2 : List SRow), vs = [a, b] ∧ SigAt C N H a so sy ∧ SigAt C M H b so2 sy2 ∧
  Q (.bl (PyData.eqv (.tuple (strsD so)) (.tuple (strsD so2)) && PyData.eqv (.tuple (sy.map rowD)) (.tuple (sy2.map rowD)))) H
theorem sc_Signs_eq : FnScope ["self", "other"] ["self", "other"] (C8.fnScope (mS 1)) := C8.fnScope_by (by decide +kernel)
theorem ok_SignsEq (F : C8.Fun K "__eq__" "Signs.__eq__" (mS 1) f fd) (T : TxtB K mg) (S : TxtS K mg C) : FnOk P w K mg base C8.CX0 2 f fd ["self", "other"] (spSigEq C) :=
  C8.fn0 F sc_Signs_eq (fun vs H Q E h => by obtain ⟨N, M, a, b, so, so2, sy, sy2, rfl, _⟩ := h; rfl) fun cdv A outer s H vs Q E hr h => by
    obtain ⟨N, M, a, b, so, so2, sy, sy2, rfl, s1, s2, k⟩ := h
    have hu := hr.units
    have m_Signs := S.m
    obtain ⟨x, dx, k1, vso, vsy, kvs, rfl, hx, _, r1, r2, _⟩ := s1.ex
    obtain ⟨y, dy, k2, uso, usy, lvs, rfl, hy, _, q1, q2, _⟩ := s2.ex
    refine ⟨_, (pss_cons (ps_if (pt_not (pt_val (pe_callB call_isZ (by rfl) T.isinstance PyProof.Rows.Boot.«isinstance» (pa_cons (pv 1) (pa_cons (pe_glob (v := .ref C) rfl m_Signs rfl) pa_nil)))))
      (pss_one (ps_ret pe_bl))
      pss_nil)
      (pss_one (ps_ret (pe_callTy call_bool1 (by rfl) T.bool PyProof.Rows.Boot.«bool» (pa_cons (pe_and (pe_cmpR (op_eqY (by exact hu)) (pe_fld (pv 0) rfl) (pe_fld (pv 1) rfl) (nomark _)) (pe_one (pe_cmpR (op_eqY (by exact hu)) (pe_fld (pv 0) rfl) (pe_fld (pv 1) rfl) (nomark _)))) pa_nil))))), ?_⟩
    refine ⟨_, rfl, _, _, _, _, _, rfl, .own C, .x (.base (.ins hy S.cl S.ha S.hn S.ht S.hm)), S.own, _, rfl, iteF ?_⟩
    refine ⟨_, rfl, x, C, dx, _, vso, rfl, hx, S.cl, S.n1, rfl, _, rfl, y, C, dy, _, uso, rfl, hy, S.cl, S.n1, rfl, ?_⟩
    unfold rEqY
    refine ⟨_, _, r1.dp (noDict_strs so), q1.dp (noDict_strs so2), (shaped_strs s1.okS).1, (shaped_strs s2.okS).1, _, rfl, ?_⟩
    cases hb : PyData.eqv (.tuple (strsD so)) (.tuple (strsD so2)) with
    | false =>
      rw [hb] at k
      exact iteF (.inr ⟨_, rfl, k⟩)
    | true =>
      rw [hb] at k
      refine iteT ⟨_, rfl, x, C, dx, _, vsy, rfl, hx, S.cl, S.n2, rfl, _, rfl, y, C, dy, _, usy, rfl, hy, S.cl, S.n2, rfl, ?_⟩
      exact ⟨_, _, r2.dp (noDict_rows sy), q2.dp (noDict_rows sy2), (shaped_rows s1.ok).1, (shaped_rows s2.ok).1, .inr ⟨_, rfl, k⟩⟩
end
end K1
end

section
set_option Elab.async false
set_option linter.all false
set_option maxRecDepth 100000
set_option maxHeartbeats 2000000
namespace K1
open PySem L2 Rp
abbrev sDraw : Stmt := topS 57
abbrev sPick : Stmt := topS 58
theorem dp_ints {K : PySem.W.Frag} {H : Hp} : ∀ ns : List Int, DpAll K H (ns.map V.int) (ns.map PyData.int)
  | [] => .nil
  | n :: r => .cons (.int n) (dp_ints r)
theorem lay_ints : ∀ ns : List Int, PyData.canLayAll0 (ns.map PyData.int) = true
  | [] => rfl
  | n :: r => by
    show (PyData.canLay0 (.int n) && PyData.canLayAll0 (r.map PyData.int)) = true
    rw [lay_ints r]
    rfl
theorem depth_ints : ∀ ns : List Int, PyData.depthAll (ns.map PyData.int) = 0
  | [] => rfl
  | n :: r => by
    show max (PyData.depth (.int n)) (PyData.depthAll (r.map PyData.int)) = 0
    rw [depth_ints r]
    rfl
theorem shaped_ints (ns : List Int) : SeqAt.shaped (.list (ns.map PyData.int)) = true := by
  show (PyData.canLayAll0 (ns.map PyData.int) && decide (PyData.depthAll (ns.map PyData.int) + 1 ≤ 64)) = true
  rw [lay_ints, depth_ints]
  rfl
theorem eqv_nil (ns : List Int) : PyData.eqv (.list (ns.map PyData.int)) (.list []) = decide (ns = []) := by
  cases ns with
  | nil => rfl
  | cons a l => rfl
theorem mix_ok {m t : Int} (m0 : 0 ≤ m) (m1 : m < 2147483587) (t0 : 0 ≤ t) (t1 : t ≤ 1000000) : (m * (2 * t + 4357) + 90247 * t * t + 71655).natAbs < 2 ^ 64 := by
  have a : m * (2 * t + 4357) ≤ 2147483587 * 2004357 := Int.mul_le_mul (by omega) (by omega) (by omega) (by decide)
  have b : 0 ≤ m * (2 * t + 4357) := Int.mul_nonneg m0 (by omega)
  have c : 90247 * t * t ≤ 90247000000 * 1000000 := Int.mul_le_mul (by omega) t1 t0 (by decide)
  have d : 0 ≤ 90247 * t * t := Int.mul_nonneg (by omega) t0
  omega
theorem map_at {ns : List Int} {i : Int} (h0 : 0 ≤ i) (h1 : i < ns.length) : ∃ c : Int, atI (ns.map V.int) i = some (.int c) := by
  refine ⟨ns.getD i.toNat 0, ?_⟩
  have hl : i.toNat < ns.length := by omega
  unfold atI ixN
  rw [List.length_map, if_pos h0, if_pos h1]
  show (ns.map V.int)[i.toNat]? = _
  rw [List.getElem?_map, List.getElem?_eq_getElem hl]
  simp [List.getD, List.getElem?_eq_getElem hl]
local macro_rules | `(tactic| walk_at "at") => `(tactic| first | assumption | exact upd_same | exact upd_at (by assumption) (by assumption))
local macro_rules | `(tactic| walk_at "rd") => `(tactic| repeat (first
  | refine ⟨_, rfl, ?_⟩
  | refine ⟨_, _, rfl, rfl, ?_⟩
  | refine ⟨_, _, _, _, rfl, rfl, SqL.of (by walk_at "at"), rfl, ?_⟩
  | refine ⟨_, _, _, _, rfl, rfl, (by walk_at "at"), rfl, ?_⟩
  | refine ⟨_, _, rfl, Or.inl (SqL.of (by walk_at "at")), ?_⟩
  | refine ⟨_, _, _, _, rfl, rfl, SqL.of (by walk_at "at"), (by assumption), ?_⟩
  | refine Or.inl ⟨_, rfl, ?_⟩
  | refine ⟨⟨by omega, by omega⟩, ?_⟩
  | refine ⟨Or.inl ⟨by decide, by decide⟩, ?_⟩
  | refine ⟨(by show (0 : Int) < _; omega), ?_⟩
  | refine ⟨(by show (0 : Int) < _; simp only [List.length_map]; omega), ?_⟩
  | refine ⟨⟨by decide, by decide, by decide⟩, ?_⟩
  | refine Or.inr ⟨_, rfl, ?_⟩))
section
variable {P : Program} {w : World} {K : PySem.W.Frag} {mg : Str → Option Value} {base : Heap}
theorem sc__law_draw : FnScope ["pen", "many", "rest", "turn", "cell", "mixed"] ["pen", "many"] (C8.fnScope sDraw) := C8.fnScope_by (by decide +kernel)
theorem ok_draw {f : Addr} {fd : FuncData} (D : C8.Def K mg "_law_draw" sDraw f fd) (b : Binds K fd ["pen", "many"] []) (T : TxtB K mg) : C8.Cal P w K mg base 1 "_law_draw" spDraw [] := by
  refine C8.cal0 D b .nil sc__law_draw (fun vs H Q E h => ?_) (fun cdv A outer s H vs Q E hr h => ?_)
  · obtain ⟨P, C, ns, n, many, rfl, _⟩ := h
    rfl
  · obtain ⟨P, C, ns, n, many, rfl, hp, h1, h2, k⟩ := h
    have hu := hu_of hr
    refine ⟨_, (pss_cons (ps_if (pt_cmpR op_lt (pv 1) pe_int (nomark _))
      (pss_one (ps_ret pe_int))
      pss_nil)
      (pss_cons (ps_if (pt_cmpR op_gt (pe_ix ix_list (pv 0) pe_int (fun _ _ => rfl)) pe_int (nomark _))
      (pss_cons (ps_set (i := 2) sc__law_draw.nd rfl (by first | exact Or.inl rfl | exact Or.inr rfl) (pe_callTy call_int1 (by rfl) T.int PyProof.Rows.Boot.«int» (pa_cons (pe_ix ix_list (pv 0) pe_int (fun _ _ => rfl)) pa_nil)))
      (pss_cons (ps_asg (pe_op op_fdiv (pv 2) (pv 1)) (pg_sub (pv 0) pe_int set_list))
      (pss_one (ps_ret (pe_op op_mod (pe_callTy call_int1 (by rfl) T.int PyProof.Rows.Boot.«int» (pa_cons (pv 2) pa_nil)) (pv 1))))))
      pss_nil)
      (pss_cons (ps_set (i := 3) sc__law_draw.nd rfl (by first | exact Or.inl rfl | exact Or.inr rfl) (pe_ix ix_list (pv 0) pe_int (fun _ _ => rfl)))
      (pss_cons (ps_asg (pe_op op_add (pv 3) pe_int) (pg_sub (pv 0) pe_int set_list))
      (pss_cons (ps_set (i := 4) sc__law_draw.nd rfl (by first | exact Or.inl rfl | exact Or.inr rfl) (pe_op op_add (pe_op op_mul pe_int (pv 3)) pe_int))
      (C8.pss_cut (ps_if (pt_cmpR (op_neD (by exact hr.units)) (pe_ix ix_list (pv 0) pe_int (fun _ _ => rfl)) (pe_lst pa_nil) (nomark _))
      (pss_one (ps_set (i := 4) sc__law_draw.nd rfl (by first | exact Or.inl rfl | exact Or.inr rfl) (pe_ix ix_list (pe_ix ix_list (pv 0) pe_int (fun _ _ => rfl)) (pe_op op_mod (pe_callTy call_int1 (by rfl) T.int PyProof.Rows.Boot.«int» (pa_cons (pv 3) pa_nil)) (pe_callB call_len_seq (by rfl) T.len PyProof.Rows.Boot.«len» (pa_cons (pe_ix ix_list (pv 0) pe_int (fun _ _ => rfl)) pa_nil))) (fun _ _ => rfl))))
      pss_nil)
      (pss_cons (ps_if (PW.pt (pw_and (pt_cmpR op_lt (pv 3) (pe_callB call_len_seq (by rfl) T.len PyProof.Rows.Boot.«len» (pa_cons (pe_ix ix_list (pv 0) pe_int (fun _ _ => rfl)) pa_nil)) (nomark _)) (pw_and1 (pt_cmpR op_ge (pe_callB call_abs (by rfl) T.abs PyProof.Rows.Boot.«abs» (pa_cons (pv 4) pa_nil)) (pe_op op_pow pe_int pe_int) (nomark _)))))
      (pss_cons (ps_set (i := 2) sc__law_draw.nd rfl (by first | exact Or.inl rfl | exact Or.inr rfl) (pe_op op_add (pe_op op_mul pe_int (pe_op op_sub (pe_callB call_abs (by rfl) T.abs PyProof.Rows.Boot.«abs» (pa_cons (pv 4) pa_nil)) (pe_op op_pow pe_int pe_int))) (pe_callTy call_int1 (by rfl) T.int PyProof.Rows.Boot.«int» (pa_cons (pe_cmpR op_lt (pv 4) pe_int (nomark _)) pa_nil))))
      (pss_cons (ps_asg (pe_op op_fdiv (pe_callTy call_int1 (by rfl) T.int PyProof.Rows.Boot.«int» (pa_cons (pv 2) pa_nil)) (pv 1)) (pg_sub (pv 0) pe_int set_list))
      (pss_one (ps_ret (pe_op op_mod (pe_callTy call_int1 (by rfl) T.int PyProof.Rows.Boot.«int» (pa_cons (pv 2) pa_nil)) (pv 1))))))
      pss_nil)
      (pss_cons (ps_set (i := 5) sc__law_draw.nd rfl (by first | exact Or.inl rfl | exact Or.inr rfl) (pe_op op_mod (pe_callTy call_int1 (by rfl) T.int PyProof.Rows.Boot.«int» (pa_cons (pe_op op_pow (pe_op op_add (pe_op op_add (pe_op op_mod (pe_callTy call_int1 (by rfl) T.int PyProof.Rows.Boot.«int» (pa_cons (pv 4) pa_nil)) pe_int) (pe_op op_mul pe_int (pv 3))) pe_int) pe_int) pa_nil)) pe_int))
      (pss_cons (ps_set (i := 5) sc__law_draw.nd rfl (by first | exact Or.inl rfl | exact Or.inr rfl) (pe_op op_mod (pe_callTy call_int1 (by rfl) T.int PyProof.Rows.Boot.«int» (pa_cons (pe_op op_pow (pe_op op_add (pe_op op_add (pe_op op_mul (pv 5) (pe_op op_add (pe_op op_mul pe_int (pv 3)) pe_int)) (pe_op op_mul (pe_op op_mul pe_int (pv 3)) (pv 3))) pe_int) pe_int) pa_nil)) pe_int))
      (pss_one (ps_ret (pe_op op_mod (pe_callTy call_int1 (by rfl) T.int PyProof.Rows.Boot.«int» (pa_cons (pe_op op_fdiv (pv 5) pe_int) pa_nil)) (pv 1))))))))))))), ?_⟩
    obtain ⟨turn, rest, hP, ht0, htn, hr0⟩ := hp.at_
    have hC := hp.cells
    have nCP : C ≠ P := hp.ne
    -- if many < 2
    refine ⟨_, rfl, many, 2, rfl, rfl, _, rfl, ?_⟩
    refine ite2 (fun c => ?_) (fun c => ?_)
    · exact k 0 H (Int.le_refl 0) (by omega) ⟨⟨turn, rest, hP, ht0, by omega, hr0⟩, hC, hp.few⟩ (Xt.refl P H)
    -- if pen[2] > 0
    walk_at "rd"
    refine ite2 (fun c2 => ?_) (fun c2 => ?_)
    · -- rest = int(pen[2]); pen[2] = rest // many; return int(rest) % many
      walk_at "rd"
      exact k _ _ (Int.emod_nonneg _ (by omega)) (Int.emod_lt_of_pos _ (by omega)) ⟨⟨turn, rest / many, upd_same, ht0, by omega, Int.ediv_nonneg hr0 (by omega)⟩, upd_at hC nCP, hp.few⟩ fun a o n e => upd_at e n
    walk_at "rd"
    -- pen[0] != []
    have e0 : (upd H P (.lst [.ref C, .int (turn + 1), .int rest])) C = some (.lst (ns.map V.int)) := upd_at hC nCP
    refine ⟨fun σ' H' => ∃ cell : Int, σ' = [some (.ref P), some (.int many), none, some (.int turn), some (.int cell), none] ∧ Pen P C ns n H' ∧ H' P = some (.lst [.ref C, .int (turn + 1), .int rest]) ∧ Xt P H H', ?_, ?_⟩
    · walk_at "rd"
      refine ⟨Nat.zero_le _, fun q hq => ?_⟩
      have nqC : C ≠ q := ne_of_none e0 hq
      have nqP : P ≠ q := ne_of_none upd_same hq
      have eC : (upd (upd H P (.lst [.ref C, .int (turn + 1), .int rest])) q (.lst [])) C = some (.lst (ns.map V.int)) := upd_at e0 nqC
      have eP : (upd (upd H P (.lst [.ref C, .int (turn + 1), .int rest])) q (.lst [])) P = some (.lst [.ref C, .int (turn + 1), .int rest]) := upd_at upd_same nqP
      have eX : Xt P H (upd (upd H P (.lst [.ref C, .int (turn + 1), .int rest])) q (.lst [])) := fun a o na e => upd_at (upd_at e na) (ne_of_none (show upd H P _ a = some o from upd_at e na) hq)
      have pn : Pen P C ns n (upd (upd H P (.lst [.ref C, .int (turn + 1), .int rest])) q (.lst [])) := ⟨⟨turn + 1, rest, eP, by omega, by omega, hr0⟩, eC, hp.few⟩
      refine ⟨.list (ns.map PyData.int), .list [], .lst (SqL.of eC) (dp_ints ns), .lst (SqL.of upd_same) .nil, shaped_ints ns, rfl, _, rfl, ?_⟩
      rw [eqv_nil]
      by_cases hn : ns = []
      · rw [decide_eq_true hn]
        exact iteF ⟨_, rfl, pn, eP, eX⟩
      · rw [decide_eq_false hn]
        refine iteT ?_
        have hl : 0 < ns.length := List.length_pos_iff.mpr hn
        have hm0 : 0 ≤ turn % (ns.length : Int) := Int.emod_nonneg _ (by omega)
        have hm1 : turn % (ns.length : Int) < ns.length := Int.emod_lt_of_pos _ (by omega)
        obtain ⟨c, hc⟩ := map_at (ns := ns) (i := turn % ((ns.map V.int).length : Int)) (by rw [List.length_map]; exact hm0) (by rw [List.length_map]; exact hm1)
        walk_at "rd"
        exact ⟨pn, eP, eX⟩
    · rintro σ' H' ⟨cell, rfl, pn, eP, eX⟩
      have eC := pn.cells
      have mod0 : ∀ x : Int, 0 ≤ x % 2147483587 ∧ x % 2147483587 < 2147483587 := fun x => ⟨Int.emod_nonneg _ (by decide), Int.emod_lt_of_pos _ (by decide)⟩
      walk_at "rd"
      refine ite2 (fun c3 => ?_) (fun c3 => ?_)
      · walk_at "rd"
        refine ite2 (fun c4 => ?_) (fun c4 => ?_)
        · have h18 : (10 : Int) ^ (18 : Int).toNat = 1000000000000000000 := by decide +kernel
          have c4' : (1000000000000000000 : Int) ≤ (if cell < 0 then -cell else cell) := by
            have q := of_decide_eq_true c4
            rw [h18] at q
            exact q
          walk_at "rd"
          have hx : 0 ≤ 2 * ((if cell < 0 then -cell else cell) - (10 : Int) ^ (18 : Int).toNat) + (if decide (cell < 0) = true then 1 else 0) := by
            rw [h18]
            split <;> split <;> omega
          exact k _ _ (Int.emod_nonneg _ (by omega)) (Int.emod_lt_of_pos _ (by omega)) ⟨⟨turn + 1, _, upd_same, by omega, by omega, Int.ediv_nonneg hx (by omega)⟩, upd_at eC nCP, hp.few⟩ fun a o n e => upd_at (eX a o n e) n
        · walk_at "rd"
          obtain ⟨b0, b1⟩ := mod0 ((cell % 2147483549 + 71655 * turn + 9247) ^ Int.toNat 3)
          refine ⟨Or.inl ⟨by omega, by omega⟩, ?_⟩
          walk_at "rd"
          refine ⟨Or.inl ⟨by omega, by omega⟩, ?_⟩
          walk_at "rd"
          refine ⟨⟨by decide, by decide, mix_ok b0 b1 (by omega) (by omega)⟩, ?_⟩
          walk_at "rd"
          exact k _ _ (Int.emod_nonneg _ (by omega)) (Int.emod_lt_of_pos _ (by omega)) pn eX
      · walk_at "rd"
        obtain ⟨b0, b1⟩ := mod0 ((cell % 2147483549 + 71655 * turn + 9247) ^ Int.toNat 3)
        refine ⟨Or.inl ⟨by omega, by omega⟩, ?_⟩
        walk_at "rd"
        refine ⟨Or.inl ⟨by omega, by omega⟩, ?_⟩
        walk_at "rd"
        refine ⟨⟨by decide, by decide, mix_ok b0 b1 (by omega) (by omega)⟩, ?_⟩
        walk_at "rd"
        exact k _ _ (Int.emod_nonneg _ (by omega)) (Int.emod_lt_of_pos _ (by omega)) pn eX
end
end K1
end

section
set_option Elab.async false
set_option linter.all false
set_option maxRecDepth 100000
set_option maxHeartbeats 2000000
namespace K1
open PySem L2 Rp
section
variable {P : Program} {w : World} {K : PySem.W.Frag} {mg : Str → Option Value} {base : Heap} {f : Addr} {fd : FuncData}
/-! ### _law_pen -/
def spPen (K : PySem.W.Frag) : Sp := fun vs H Q _ => ∃ (a : Addr) (ns : List Int), vs = [.ref a] ∧ SqL K H a (ns.map V.int) ∧ ns.length ≤ 63 ∧ ∀ P C H', Ex H H' → Pen P C ns 1000000 H' → Q (.ref P) H'
theorem sc__law_pen : FnScope ["script", "cell"] ["script"] (C8.fnScope (topS 56)) := C8.fnScope_by (by decide +kernel)
theorem ints_R {N : Addr → Prop} {H : Hp} : ∀ ns : List Int, RAll N H (ns.map V.int) (ns.map PyData.int)
  | [] => .nil
  | n :: r => .cons (.int n) (ints_R r)
theorem cut63 {xs : List V} (h : xs.length ≤ 63) : cutV xs none (some 63) = xs := by
  unfold cutV
  rw [HT.sIx_none, List.drop_zero, Nat.sub_zero]
  have e : HT.sIx xs.length xs.length (some 63) = min 63 xs.length := HT.sIx_nat _ _ 63
  rw [e, Nat.min_eq_right h, List.take_length]
theorem ok_pen (D : C8.Def K mg "_law_pen" (topS 56) f fd) (b : Binds K fd ["script"] []) (T : TxtB K mg) : C8.Cal P w K mg base 1 "_law_pen" (spPen K) [] :=
  C8.cal0 D b .nil sc__law_pen (fun vs H Q E h => by obtain ⟨a, ns, rfl, _⟩ := h; rfl) fun cdv A outer s H vs Q E hr h => by
    obtain ⟨a, ns, rfl, hs, hl, k⟩ := h
    refine ⟨_, (pss_one (ps_ret (pe_lst (pa_cons (pe_lc (own := [("cell", 1)]) (g := gName 1) (tt := tYes) rfl sc__law_pen.nd (pi_seq (pe_slice sl_list (pv 0) po_none (po_some pe_int))) (blkOk_by (N := ["script", "cell"]) (sc := C8.fnScope (topS 56)) (by decide +kernel)) (fun _ _ _ _ _ => pg_name (i := 1) sc__law_pen.nd rfl (Or.inl rfl)) (fun _ _ _ _ _ => pts_nil) (fun _ _ _ _ _ => (pe_callTy call_int1 (by rfl) T.int PyProof.Rows.Boot.«int» (pa_cons (pv 1) pa_nil)))) (pa_cons pe_int (pa_cons pe_int pa_nil)))))), ?_⟩
    refine ⟨_, rfl, _, rfl, a, _, rfl, hs, fun q hq => ?_⟩
    have lm : (ns.map V.int).length ≤ 63 := by rw [List.length_map]; exact hl
    rw [cut63 lm]
    have n0 : NOk (fun _ => False) (upd H q (.lst (ns.map V.int))) := fun a ha => ha.elim
    have e0 := Ex.new (o := HO.lst (ns.map V.int)) hq
    have r0 : R (fun _ => False) (upd H q (.lst (ns.map V.int))) (.ref q) (.list (ns.map PyData.int)) := .lst upd_same (fun z => z) (ints_R ns)
    obtain ⟨a1, xs, e1, ha, ra⟩ := seq_of r0 rfl
    cases e1
    obtain ⟨J, sJ, wk⟩ := seq_walk (K := K) ha ra
    refine ⟨q, J, rfl, sJ, fun D hD => lc_map (N := fun _ => False) (fun d => d) wk hD n0 (by show (ns.map PyData.int).length ≤ _; rw [List.length_map]; omega) (fun v d H5 hm e5 nn r Q' q => ?_) fun H5 ys e5 hy ry => ?_⟩
    · obtain ⟨i, _, rfl⟩ := List.mem_map.mp hm
      have ev := r.intv
      subst ev
      exact ⟨_, rfl, .inl ⟨_, rfl, q _ _ (Ex.refl _) (.int i)⟩⟩
    · rw [List.map_id'] at ry
      have hys := ry.ints
      subst hys
      refine ⟨(by show 3 ≤ sizeLine; decide), fun P hP => k P D _ ((e0.trans e5).trans (Ex.new hP)) ⟨⟨0, 0, upd_same, by decide, by decide, by decide⟩, (Ex.new hP) _ _ hy, hl⟩⟩
/-! ### _law_pick -/
theorem sc__law_pick : FnScope ["pen", "some"] ["pen", "some"] (C8.fnScope (topS 58)) := C8.fnScope_by (by decide +kernel)
theorem ok_pick (D : C8.Def K mg "_law_pick" (topS 58) f fd) (b : Binds K fd ["pen", "some"] []) (T : TxtB K mg) (G__law_draw : C8.Cal P w K mg base 1 "_law_draw" spDraw []) : C8.Cal P w K mg base 2 "_law_pick" spPick [] :=
  C8.cal0 D b .nil sc__law_pick (fun vs H Q E h => by obtain ⟨N, P, C, ns, n, v, d, rfl, _⟩ := h; rfl) fun cdv A outer s H vs Q E hr h => by
    obtain ⟨N, P, C, ns, n, v, d, rfl, hP, rv, hL, h1, h2, pn, k⟩ := h
    refine ⟨_, (pss_one (ps_ret (pe_ix ix_Y (pv 1) (C8.pe_c G__law_draw hr (by decide) (by rfl) (pa_cons (pv 0) (pa_cons (pe_callB call_lenS (by rfl) T.len PyProof.Rows.Boot.«len» (pa_cons (pv 1) pa_nil)) pa_nil))) (fun _ _ => rfl)))), ?_⟩
    refine ⟨_, rfl, _, rfl, _, rfl, R.len rv hL ?_⟩
    refine ⟨P, C, ns, n, _, rfl, pn, by omega, by omega, fun r H' r0 r1 pn' x => ?_⟩
    have hi : r.toNat < (itemsOf d).length := by omega
    refine R.ix (rv.mono (x.xn hP)) hL r0 (List.getElem?_eq_getElem hi) fun u ru => k r.toNat _ u H' (List.getElem?_eq_getElem hi) pn' x ru
end
end K1
end

section
set_option Elab.async false
set_option linter.all false
set_option maxRecDepth 100000
set_option maxHeartbeats 2000000
namespace K1
open PySem L2 Rp
/-- what the module's names of the errors are -/
structure TxtE (mg : Str → Option Value) (CP : Addr) (Es : Nat → Addr) : Prop where
  mP : mg "PurseError" = some (.ref CP)
  m0 : mg "BadNumber" = some (.ref (Es 0))
  m1 : mg "BadValue" = some (.ref (Es 1))
  m2 : mg "BadSigns" = some (.ref (Es 2))
  m3 : mg "BadTree" = some (.ref (Es 3))
  m4 : mg "BadBook" = some (.ref (Es 4))
  m5 : mg "BadLoads" = some (.ref (Es 5))
  m6 : mg "BadShape" = some (.ref (Es 6))
  m7 : mg "BadProgram" = some (.ref (Es 7))
  m8 : mg "BadStep" = some (.ref (Es 8))
  m9 : mg "NoName" = some (.ref (Es 9))
  m10 : mg "Misfit" = some (.ref (Es 10))
  m11 : mg "BadRule" = some (.ref (Es 11))
  m12 : mg "TooMany" = some (.ref (Es 12))
def ws1 (Es : Nat → Addr) : List (Str × Addr) := [("number", Es 0), ("value", Es 1), ("signs", Es 2), ("tree", Es 3)]
def ws2 (Es : Nat → Addr) : List (Str × Addr) := [("book", Es 4), ("loads", Es 5), ("shape", Es 6), ("program", Es 7)]
def ws3 (Es : Nat → Addr) : List (Str × Addr) := [("step", Es 8), ("misfit", Es 10)]
/-- the class at C is NoName's -/
structure KitN (K : PySem.W.Frag) (Es : Nat → Addr) (C : Addr) : Prop where
  k12 : PySem.W.kitOne K (.ref C) (.ref (Es 12)) = some false
  k11 : PySem.W.kitOne K (.ref C) (.ref (Es 11)) = some false
  k9 : PySem.W.kitOne K (.ref C) (.ref (Es 9)) = some true
  na : PySem.W.findIn K (.ref C) "name" = some none
/-- the class at C is one of those with a part; w its word -/
structure KitP (K : PySem.W.Frag) (Es : Nat → Addr) (C : Addr) (w : Str) (bit : Str → Bool) : Prop where
  k12 : PySem.W.kitOne K (.ref C) (.ref (Es 12)) = some false
  k11 : PySem.W.kitOne K (.ref C) (.ref (Es 11)) = some false
  k9 : PySem.W.kitOne K (.ref C) (.ref (Es 9)) = some false
  na : PySem.W.findIn K (.ref C) "part" = some none
  b1 : ∀ p ∈ ws1 Es, PySem.W.kitOne K (.ref C) (.ref p.2) = some (bit p.1)
  b2 : ∀ p ∈ ws2 Es, PySem.W.kitOne K (.ref C) (.ref p.2) = some (bit p.1)
  b3 : ∀ p ∈ ws3 Es, PySem.W.kitOne K (.ref C) (.ref p.2) = some (bit p.1)
  words : (((pairsD bit (ws1 Es) ++ pairsD bit (ws2 Es)) ++ pairsD bit (ws3 Es)).filter keepB).map firstD = [.str w]
def HeardE (K : PySem.W.Frag) (CP : Addr) (Es : Nat → Addr) (Q : VK) : XK := fun cls d H' => ∃ (C dd : Addr) (v : V), cls = .ref C ∧ d = some dd ∧ ErrC K CP C ∧
  ((KitN K Es C ∧ H' dd = some (.xd [("name", v)]) ∧ ∀ (p : Addr) (H2 : Hp), Ex H' H2 → H' p = none → H2 p = some (.tup [.str "name", v]) → Q (.ref p) H2) ∨
   ∃ (w : Str) (bit : Str → Bool), KitP K Es C w bit ∧ H' dd = some (.xd [("part", v)]) ∧ ∀ (p : Addr) (H2 : Hp), Ex H' H2 → H' p = none → H2 p = some (.tup [.str w, v]) → Q (.ref p) H2)
def TTheard (K : PySem.W.Frag) (CP : Addr) (Es : Nat → Addr) : (XK → Hp → VK → Prop) → Hp → VK → Prop := fun tl H Q =>
  ∀ (H0 : Hp) (E' : XK) (Q' : VK), Ex H H0 → (∀ cls d H', HeardE K CP Es Q cls d H' → E' cls d H') → (∀ v H1, (∀ p, H1 p = none → Q (.ref p) (upd H1 p (.lst [v]))) → Q' v H1) → tl E' H0 Q'
section
variable {X : Cx} {CP : Addr} {Es : Nat → Addr}
theorem kit_ft {K : PySem.W.Frag} {t c d : Value} (h : PySem.W.kitOne K t c = some false) (h2 : PySem.W.kitOne K t d = some true) : PySem.W.kitAny K t [c, d] = some true := kitAny_cons h (fun _ => kitAny_cons h2 (fun z => nomatch z) fun _ => rfl) fun z => nomatch z
theorem kit_ff {K : PySem.W.Frag} {t c d : Value} (h : PySem.W.kitOne K t c = some false) (h2 : PySem.W.kitOne K t d = some false) : PySem.W.kitAny K t [c, d] = some false := kitAny_cons h (fun _ => kitAny_cons h2 (fun _ => rfl) fun z => nomatch z) fun z => nomatch z
theorem sc__law_heard : FnScope ["ask", "caught", "found", "error", "some", "words", "word", "is_one"] ["ask"] (C8.fnScope (topS 59)) := C8.fnScope_by (by decide +kernel)
theorem heard_gives {g : Addr} {cdg : Value} {q : Str} (T : TxtB X.K X.mg) (E : TxtE X.mg CP Es) : LamX.GivesToS X ["ask", "caught", "found", "error", "some", "words", "word", "is_one"] "_law_heard" (C8.fnScope (topS 59)) g cdg (C8.fnBody (topS 59)) "ask" q (TTheard X.K CP Es) := by
  intro f c' s H Q tl act hc h
  have m_TooMany := E.m12
  have m_BadRule := E.m11
  have m_NoName := E.m9
  have m_BadNumber := E.m0
  have m_BadValue := E.m1
  have m_BadSigns := E.m2
  have m_BadTree := E.m3
  have m_BadBook := E.m4
  have m_BadLoads := E.m5
  have m_BadShape := E.m6
  have m_BadProgram := E.m7
  have m_BadStep := E.m8
  have m_Misfit := E.m10
  refine ⟨_, (pss_cons (ps_asg (pe_tup (pa_cons pe_non (pa_cons pe_non pa_nil))) (pg_tup rfl (pgs_cons (pg_name (i := 1) sc__law_heard.nd rfl (by first | exact Or.inl rfl | exact Or.inr rfl)) (pgs_cons (pg_name (i := 2) sc__law_heard.nd rfl (by first | exact Or.inl rfl | exact Or.inr rfl)) pgs_nil))))
      (pss_cons (ps_try_val (X := (cxOf C8.CX0 X.prog X.w X.K X.mg X.base ["ask", "caught", "found", "error", "some", "words", "word", "is_one"] "_law_heard" (C8.fnScope (topS 59)) g cdg X.A X.stack s H C8.E0).nox) (i := 3) (c := .ref CP) (tb := fun W D σ H => ∃ Ech : L2.St → XK, (∀ cls d σ' H', Ech σ' cls d H' → W cls d σ' H') ∧ σ[0]? = some (some (.ref f)) ∧ H c' = some (LamX.CodeO c' q) ∧ tl (Ech σ) H fun v H1 => D.nx (σ.set 2 (some v)) H1)
          (ts := fun a cls d => tAsg (tVar 3) (gName 1)) (Wout := fun _ _ _ _ => False) (fun z => by cases z) rfl rfl sc__law_heard.nd rfl rfl ⟨rfl, by decide, .inl E.mP⟩ LamX.takes0
          (fun W pn xe tk _ => ⟨fun pins s' σ H' D I h' => by
            obtain ⟨Ech, hW, h1, h2, h3⟩ := h'
            exact (pss_one (ps_set (i := 2) sc__law_heard.nd rfl (Or.inl rfl) (act W pn xe Ech _ _ tk hW))).run pins s' σ H' D I ⟨h1, h2, h3⟩⟩)
          (fun a oe cls d pn _ _ => pss_one (ps_set (i := 1) sc__law_heard.nd rfl (Or.inl rfl) (pv 3))))
      (pss_cons (ps_if (pt_cmpR op_isN (pv 1) pe_non (nomark _))
      (pss_one (ps_ret (pe_lst (pa_cons (pv 2) pa_nil))))
      pss_nil)
      (pss_cons (ps_if (pt_val (pe_callB call_isY (by rfl) T.isinstance PyProof.Rows.Boot.«isinstance» (pa_cons (pv 1) (pa_cons (pe_glob (v := .ref (Es 12)) rfl m_TooMany rfl) pa_nil))))
      (pss_one (ps_ret (pe_tup (pa_cons pe_str (pa_cons (pe_xv (pv 1)) (pa_cons (pe_xv (pv 1)) pa_nil))))))
      pss_nil)
      (pss_cons (ps_if (pt_val (pe_callB call_isZT (by rfl) T.isinstance PyProof.Rows.Boot.«isinstance» (pa_cons (pv 1) (pa_cons (pe_tup (pa_cons (pe_glob (v := .ref (Es 11)) rfl m_BadRule rfl) (pa_cons (pe_glob (v := .ref (Es 9)) rfl m_NoName rfl) pa_nil))) pa_nil))))
      (pss_one (ps_ret (pe_ifExp (pt_val (pe_callB call_isY (by rfl) T.isinstance PyProof.Rows.Boot.«isinstance» (pa_cons (pv 1) (pa_cons (pe_glob (v := .ref (Es 11)) rfl m_BadRule rfl) pa_nil)))) (pe_tup (pa_cons pe_str (pa_cons (pe_xv (pv 1)) (pa_cons (pe_xv (pv 1)) pa_nil)))) (pe_tup (pa_cons pe_str (pa_cons (pe_xv (pv 1)) pa_nil))))))
      pss_nil)
      (pss_cons (ps_set (i := 4) sc__law_heard.nd rfl (by first | exact Or.inl rfl | exact Or.inr rfl) (pe_lst (pa_pcons (pe_tup (pa_cons pe_str (pa_cons (pe_callB call_isY (by rfl) T.isinstance PyProof.Rows.Boot.«isinstance» (pa_cons (pv 1) (pa_cons (pe_glob (v := .ref (Es 0)) rfl m_BadNumber rfl) pa_nil))) pa_nil))) (pa_pcons (pe_tup (pa_cons pe_str (pa_cons (pe_callB call_isY (by rfl) T.isinstance PyProof.Rows.Boot.«isinstance» (pa_cons (pv 1) (pa_cons (pe_glob (v := .ref (Es 1)) rfl m_BadValue rfl) pa_nil))) pa_nil))) (pa_pcons (pe_tup (pa_cons pe_str (pa_cons (pe_callB call_isY (by rfl) T.isinstance PyProof.Rows.Boot.«isinstance» (pa_cons (pv 1) (pa_cons (pe_glob (v := .ref (Es 2)) rfl m_BadSigns rfl) pa_nil))) pa_nil))) (pa_pcons (pe_tup (pa_cons pe_str (pa_cons (pe_callB call_isY (by rfl) T.isinstance PyProof.Rows.Boot.«isinstance» (pa_cons (pv 1) (pa_cons (pe_glob (v := .ref (Es 3)) rfl m_BadTree rfl) pa_nil))) pa_nil))) pa_pnil))))))
      (pss_cons (ps_set (i := 4) sc__law_heard.nd rfl (by first | exact Or.inl rfl | exact Or.inr rfl) (pe_op op_catY (pv 4) (pe_lst (pa_pcons (pe_tup (pa_cons pe_str (pa_cons (pe_callB call_isY (by rfl) T.isinstance PyProof.Rows.Boot.«isinstance» (pa_cons (pv 1) (pa_cons (pe_glob (v := .ref (Es 4)) rfl m_BadBook rfl) pa_nil))) pa_nil))) (pa_pcons (pe_tup (pa_cons pe_str (pa_cons (pe_callB call_isY (by rfl) T.isinstance PyProof.Rows.Boot.«isinstance» (pa_cons (pv 1) (pa_cons (pe_glob (v := .ref (Es 5)) rfl m_BadLoads rfl) pa_nil))) pa_nil))) (pa_pcons (pe_tup (pa_cons pe_str (pa_cons (pe_callB call_isY (by rfl) T.isinstance PyProof.Rows.Boot.«isinstance» (pa_cons (pv 1) (pa_cons (pe_glob (v := .ref (Es 6)) rfl m_BadShape rfl) pa_nil))) pa_nil))) (pa_pcons (pe_tup (pa_cons pe_str (pa_cons (pe_callB call_isY (by rfl) T.isinstance PyProof.Rows.Boot.«isinstance» (pa_cons (pv 1) (pa_cons (pe_glob (v := .ref (Es 7)) rfl m_BadProgram rfl) pa_nil))) pa_nil))) pa_pnil)))))))
      (pss_cons (ps_set (i := 4) sc__law_heard.nd rfl (by first | exact Or.inl rfl | exact Or.inr rfl) (pe_op op_catY (pv 4) (pe_lst (pa_pcons (pe_tup (pa_cons pe_str (pa_cons (pe_callB call_isY (by rfl) T.isinstance PyProof.Rows.Boot.«isinstance» (pa_cons (pv 1) (pa_cons (pe_glob (v := .ref (Es 8)) rfl m_BadStep rfl) pa_nil))) pa_nil))) (pa_pcons (pe_tup (pa_cons pe_str (pa_cons (pe_callB call_isY (by rfl) T.isinstance PyProof.Rows.Boot.«isinstance» (pa_cons (pv 1) (pa_cons (pe_glob (v := .ref (Es 10)) rfl m_Misfit rfl) pa_nil))) pa_nil))) pa_pnil)))))
      (pss_cons (ps_setLc (i := 5) (own := [("word", 6), ("is_one", 7)]) (g := gTup X.K 2 (gCons (gName 6) (gCons (gName 7) (gNil)))) rfl sc__law_heard.nd rfl rfl (sw_true rfl rfl rfl rfl) (pi_seq (pv 4)) (blkOk_by (N := ["ask", "caught", "found", "error", "some", "words", "word", "is_one"]) (sc := C8.fnScope (topS 59)) (by decide +kernel)) (fun _ _ _ _ _ => pg_tup rfl (pgs_cons (pg_name (i := 6) sc__law_heard.nd rfl (Or.inl rfl)) (pgs_cons (pg_name (i := 7) sc__law_heard.nd rfl (Or.inl rfl)) pgs_nil))) (fun _ _ _ _ _ => pts_one (pt_val (pv 7))) (fun _ _ _ _ _ => (pv 6)))
      (pss_one (ps_ret (pe_ifExp (pt_cmpR op_eq (pe_callB call_lenS (by rfl) T.len PyProof.Rows.Boot.«len» (pa_cons (pv 5) pa_nil)) pe_int (nomark _)) (pe_tup (pa_cons (pe_ix ix_Y (pv 5) pe_int (fun _ _ => rfl)) (pa_cons (pe_xv (pv 1)) pa_nil))) (pe_tup (pa_cons pe_str pa_nil)))))))))))))), ?_⟩
  refine ⟨(by show 2 ≤ sizeLine; decide), fun p hp => ⟨p, [.non, .non], rfl, SqT.of upd_same, rfl, .non, [.non], rfl, .non, [], rfl, rfl, ?_⟩⟩
  have e0 := Ex.new (o := HO.tup [.non, .non]) hp
  refine ⟨fun σ' cls d H' => σ' = [some (.ref f), some .non, some .non, none, none, none, none, none] ∧ HeardE X.K CP Es Q cls d H', ?_, rfl, e0 _ _ hc, ?_⟩
  · rintro cls d σ' H1 ⟨rfl, C, dd, v, rfl, rfl, ec, hh⟩
    refine ⟨true, ec.exm, fun _ a ha => ?_, fun z => by cases z⟩
    refine ⟨_, rfl, ?_⟩
    -- behind the suite: caught holds the error
    refine ⟨_, rfl, rfl, _, rfl, iteF ?_⟩
    have ha' : H1 a = none := ha
    have e1 := Ex.new (o := ExV (.ref C) (some dd) a) ha'
    rcases hh with ⟨kn, hd, k⟩ | ⟨w, bit, kp, hd, k⟩
    · have xa : ErrAt (upd H1 a (ExV (.ref C) (some dd) a)) a C dd [("name", v)] := ⟨upd_same, e1 _ _ hd⟩
      refine ⟨_, rfl, xa.is ec.exd kn.k12 ⟨_, rfl, iteF ?_⟩⟩
      refine ⟨_, rfl, (by show 2 ≤ sizeLine; decide), fun p2 hp2 => ?_⟩
      have e2 := Ex.new (o := HO.tup [.ref (Es 11), .ref (Es 9)]) hp2
      have x2 := xa.ex e2
      refine ⟨_, _, _, _, _, true, rfl, upd_same, .cons (.own _) (.cons (.own _) .nil), x2.ty ec.exd, kit_ft kn.k11 kn.k9, _, rfl, iteT ?_⟩
      refine ⟨_, rfl, x2.is ec.exd kn.k11 ⟨_, rfl, iteF ⟨_, rfl, a, C, dd, _, v, rfl, x2.a, ec.exd, kn.na, x2.d, rfl, (by show 2 ≤ sizeLine; decide), fun p3 hp3 => ?_⟩⟩⟩
      have e3 := Ex.new (o := HO.tup [.str "name", v]) hp3
      exact k p3 _ ((e1.trans e2).trans e3) ((e1.trans e2).free hp3) upd_same
    · have xa : ErrAt (upd H1 a (ExV (.ref C) (some dd) a)) a C dd [("part", v)] := ⟨upd_same, e1 _ _ hd⟩
      refine ⟨_, rfl, xa.is ec.exd kp.k12 ⟨_, rfl, iteF ?_⟩⟩
      refine ⟨_, rfl, (by show 2 ≤ sizeLine; decide), fun p2 hp2 => ?_⟩
      have e2 := Ex.new (o := HO.tup [.ref (Es 11), .ref (Es 9)]) hp2
      have x2 := xa.ex e2
      refine ⟨_, _, _, _, _, false, rfl, upd_same, .cons (.own _) (.cons (.own _) .nil), x2.ty ec.exd, kit_ff kp.k11 kp.k9, _, rfl, iteF ?_⟩
      have n2 : NOk (fun _ => False) (upd (upd H1 a (ExV (.ref C) (some dd) a)) p2 (.tup [.ref (Es 11), .ref (Es 9)])) := fun _ z => z.elim
      have lw : ∀ {vs : List V} {l : List PyData} {H : Hp}, RAll (fun _ => False) H vs l → l.length ≤ 100 → vs.length ≤ sizeLine := fun {vs l H} r h => Nat.le_trans (by rw [r.length]; exact h) (by decide)
      refine pairs_go (N := fun _ => False) (bit := bit) (ws1 Es) x2 ec.exd n2 rfl kp.b1 fun vs H3 e3 rs => ⟨lw rs (by show 4 ≤ 100; decide), fun p3 hp3 => ?_⟩
      have e4 := Ex.new (o := HO.lst vs) hp3
      have n3 : NOk (fun _ => False) H3 := n2.ex e3
      have r1 : R (fun _ => False) (upd H3 p3 (.lst vs)) (.ref p3) (.list (pairsD bit (ws1 Es))) := rs.lstR n3 hp3
      have x4 := (x2.ex e3).ex e4
      refine ⟨_, rfl, pairs_go (N := fun _ => False) (bit := bit) (ws2 Es) x4 ec.exd (n3.ex e4) rfl kp.b2 fun vs2 H5 e5 rs2 => ⟨lw rs2 (by show 4 ≤ 100; decide), fun p5 hp5 => ?_⟩⟩
      have e6 := Ex.new (o := HO.lst vs2) hp5
      have n5 : NOk (fun _ => False) H5 := (n3.ex e4).ex e5
      have r2 : R (fun _ => False) (upd H5 p5 (.lst vs2)) (.ref p5) (.list (pairsD bit (ws2 Es))) := rs2.lstR n5 hp5
      refine R.cat ((r1.ex e5).ex e6) r2 (n5.ex e6) (by show 4 + 4 ≤ 100000; decide) fun v7 H7 e7 r7 => ?_
      have x7 := ((x4.ex e5).ex e6).ex e7
      have n7 := (n5.ex e6).ex e7
      refine ⟨_, rfl, pairs_go (N := fun _ => False) (bit := bit) (ws3 Es) x7 ec.exd n7 rfl kp.b3 fun vs3 H8 e8 rs3 => ⟨lw rs3 (by show 2 ≤ 100; decide), fun p8 hp8 => ?_⟩⟩
      have e9 := Ex.new (o := HO.lst vs3) hp8
      have n8 : NOk (fun _ => False) H8 := n7.ex e8
      have r3 : R (fun _ => False) (upd H8 p8 (.lst vs3)) (.ref p8) (.list (pairsD bit (ws3 Es))) := rs3.lstR n8 hp8
      refine R.cat ((r7.ex e8).ex e9) r3 (n8.ex e9) (by show 8 + 2 ≤ 100000; decide) fun v10 H10 e10 r10 => ?_
      have x10 := ((x7.ex e8).ex e9).ex e10
      have n10 := (n8.ex e9).ex e10
      obtain ⟨a1, xs, rfl, ha1, ra1⟩ := seq_of r10 rfl
      obtain ⟨J, sJ, wk⟩ := seq_walk (K := X.K) ha1 ra1
      refine ⟨_, rfl, a1, J, rfl, sJ, fun D hD => lc_genX (N := fun _ => False) keepB firstD wk hD n10 (by show 10 ≤ 100000; decide) (fun u d H11 hm e11 nn ru Qy Qn hy hn => ?_) fun H12 ys e12 hy ry => ?_⟩
      · obtain ⟨w', b, rfl⟩ : ∃ w' b, d = .tuple [.str w', .bool b] := by
          have hm : d ∈ (pairsD bit (ws1 Es) ++ pairsD bit (ws2 Es)) ++ pairsD bit (ws3 Es) := hm
          rcases List.mem_append.mp hm with hm | hm
          · rcases List.mem_append.mp hm with hm | hm
            · obtain ⟨p, _, rfl⟩ := List.mem_map.mp hm
              exact ⟨_, _, rfl⟩
            · obtain ⟨p, _, rfl⟩ := List.mem_map.mp hm
              exact ⟨_, _, rfl⟩
          · obtain ⟨p, _, rfl⟩ := List.mem_map.mp hm
            exact ⟨_, _, rfl⟩
        cases ru with
        | tup hu nu qu =>
          obtain ⟨u1, u2, rfl, q1, q2⟩ := qu.two
          rw [q1.strv, q2.bool] at hu
          refine ⟨_, _, rfl, SqT.of hu, rfl, _, _, rfl, _, _, rfl, rfl, rfl, _, rfl, b, rfl, ?_⟩
          cases b with
          | true => exact iteT ⟨_, rfl, hy rfl _ _ (Ex.refl _) (.str w')⟩
          | false => exact iteF (hn rfl _ (Ex.refl _))
      · rw [show itemsOf (.list ((pairsD bit (ws1 Es) ++ pairsD bit (ws2 Es)) ++ pairsD bit (ws3 Es))) = ((pairsD bit (ws1 Es) ++ pairsD bit (ws2 Es)) ++ pairsD bit (ws3 Es)) from rfl, kp.words] at ry
        have rw12 : R (fun _ => False) H12 (.ref D) (.list [.str w]) := .lst hy (fun z => z) ry
        have x12 := x10.ex e12
        refine ⟨_, rfl, R.len rw12 rfl ⟨rfl, _, rfl, iteT ?_⟩⟩
        refine ⟨_, rfl, R.ix rw12 rfl (by decide) rfl fun u ru => ⟨_, rfl, a, C, dd, _, v, rfl, x12.a, ec.exd, kp.na, x12.d, rfl, (by show 2 ≤ sizeLine; decide), fun p13 hp13 => ?_⟩⟩
        rw [ru.strv]
        have eA := ((((e1.trans e2).trans e3).trans e4).trans e5).trans e6
        have eB := ((((eA.trans e7).trans e8).trans e9).trans e10).trans e12
        exact k p13 _ (eB.trans (Ex.new hp13)) (eB.free hp13) upd_same
  · refine h _ _ _ e0 (fun cls d H' z => ⟨rfl, z⟩) fun v H1 k => ?_
    refine ⟨_, rfl, rfl, _, rfl, iteT ⟨_, rfl, (by show 1 ≤ sizeLine; decide), fun p hp => k p hp⟩⟩
end
end K1
end

section
set_option Elab.async false
set_option linter.all false
set_option maxRecDepth 100000
set_option maxHeartbeats 2000000
namespace K1
open PySem L2 Rp
abbrev abc : Str := "abcdefghijklmnopqrstuvwxyz"
abbrev NP (Q : Addr) : Addr → Prop := fun a => a = Q
theorem nameOk_len {x : Str} (h : nameOk x = true) : 1 ≤ x.length ∧ x.length ≤ 8 ∧ x.cps.toList.all signOk = true := by
  have h : (decide (1 ≤ x.length) && decide (x.length ≤ 8) && x.cps.toList.all signOk) = true := h
  simp only [Bool.and_eq_true, decide_eq_true_eq] at h
  exact ⟨h.1.1, h.1.2, h.2⟩

theorem sign_small {c : Nat} (h : signOk c = true) : c < 0x110000 := by
  have h' : c ∈ abc.cps.toList := of_decide_eq_true h
  have all : ∀ c ∈ abc.cps.toList, c < 0x110000 := by decide +kernel
  exact all c h'
theorem name_str {x : Str} (h : nameOk x = true) : PyData.strOk x = true := by
  obtain ⟨_, _, h3⟩ := nameOk_len h
  unfold PyData.strOk
  rw [Array.all_eq_true]
  intro i hi
  have hm : x.cps[i] ∈ x.cps.toList := by simp
  exact decide_eq_true (sign_small (List.all_eq_true.mp h3 _ hm))
theorem names_str {d : PyData} {k : Int} (h : areNames d k = true) : (strsOf d).all PyData.strOk = true := by
  unfold areNames at h
  simp only [Bool.and_eq_true, decide_eq_true_eq] at h
  refine List.all_eq_true.mpr fun x hx => ?_
  obtain ⟨e, he, rfl⟩ := List.mem_map.mp hx
  have hn := List.all_eq_true.mp h.1.2 e he
  cases e with
  | str y => exact name_str hn
  | _ => cases hn
theorem syms_str {ss : List Str} {d : PyData} (h : areSyms ss d = true) (hs : ss.all PyData.strOk = true) : (rowsOf d).all rowOk = true := by
  obtain ⟨_, _, _, _, _, ha⟩ := syms_fix h
  refine List.all_eq_true.mpr fun r hr => ?_
  obtain ⟨e, he, rfl⟩ := List.mem_map.mp hr
  obtain ⟨x0, x1, x2, h1, hi, h3, h4, h5, h6, h7, h8, h9⟩ := (sym_ok (List.all_eq_true.mp ha e he)).ex
  have a0 : strOf (rowName e) = strOf x0 := by unfold rowName; rw [hi]; rfl
  have a1 : strsOf ((itemsOf e).getD 1 .none) = strsOf x1 := by rw [hi]; rfl
  have a2 : strOf ((itemsOf e).getD 2 .none) = strOf x2 := by rw [hi]; rfl
  have n0 : PyData.strOk (strOf x0) = true := by
    cases x0 with
    | str y => exact name_str h3
    | _ => cases h3
  show (PyData.strOk (strOf (rowName e)) && PyData.strOk (strOf ((itemsOf e).getD 2 .none)) && (strsOf ((itemsOf e).getD 1 .none)).all PyData.strOk) = true
  rw [a0, a1, a2, n0, List.all_eq_true.mp hs _ h9, List.all_eq_true.mpr fun s hx => List.all_eq_true.mp hs s (h8 s hx)]
  rfl
theorem strsOf_list (so : List Str) : strsOf (.list (strsD so)) = so := (strs_all so).2
theorem strsOf_tup (so : List Str) : strsOf (.tuple (strsD so)) = so := (strs_all so).2
theorem rowAt_T (r : SRow) : rowAt (rowT r) = r := by
  show SRow.mk r.name (strsOf (.list (strsD r.args))) r.sort = r
  rw [strsOf_list]
theorem rowsOf_T (sy : List SRow) : rowsOf (.list (sy.map rowT)) = sy := by
  unfold rowsOf
  rw [show itemsOf (.list (sy.map rowT)) = sy.map rowT from rfl, List.map_map]
  have : (rowAt ∘ rowT) = id := by
    funext r
    exact rowAt_T r
  rw [this, List.map_id]
theorem isName_of {x : Str} (h : nameOk x = true) : isName (.str x) = true := h
section
variable {C CB : Addr} {N : Addr → Prop} {H : Hp} {v1 v2 : V} {d1 d2 : PyData} {Q : VK} {E : XK}
theorem two_new {x dx : Addr} (hx : H x = none) (hd : H dx = none) (ne : dx ≠ x) : Ex H (upd (upd H dx (.own x)) x (.ins C dx [])) := (Ex.new hd).trans (Ex.new (by rw [upd_ne (Ne.symm ne)]; exact hx))
/-- Signs(d1, d2) of right data -/
theorem signs_made (n : NOk N H) (r1 : R N H v1 d1) (r2 : R N H v2 d2) (pre : preS d1 d2 = true) (h1 : sortsOk d1 = true) (h2 : areSyms (strsOf d1) d2 = true) {x dx : Addr} (hx : H x = none) (hd : H dx = none) (ne : dx ≠ x) (k : ∀ H', Ex H H' → SigAt C N H' (.ref x) (strsOf d1) (rowsOf d2) → Q .non H') :
    spSigns C CB (.ref x :: ([v1, v2] ++ [])) (upd (upd H dx (.own x)) x (.ins C dx [])) Q E := by
  have e := two_new (C := C) hx hd ne
  have hn := (Bool.and_eq_true_iff.mp h1).1
  refine ⟨plus N x, x, dx, v1, v2, d1, d2, rfl, (n.ex e).plus (by rw [upd_same]; exact fun z => by cases z), .inr rfl, upd_same, (r1.plus hx).ex e, (r2.plus hx).ex e, pre, fun z => (by rw [h1] at z; cases z), fun _ z => (by rw [h2] at z; cases z), fun _ _ H' vso vsy kk kvs t hx' q1 q2 hk nk q3 => ?_⟩
  obtain ⟨_, _, _, _, h16, _⟩ := syms_fix h2
  exact k H' (t.ex e hx) ⟨⟨x, dx, kk, vso, vsy, kvs, rfl, hx', n.not hx, q1.less, q2.less, hk, fun z => nk (.inl z), q3.less⟩, syms_str h2 (names_str hn), names_str hn, by unfold rowsOf; rw [List.length_map]; exact h16⟩
/-- .. of wrong sorts -/
theorem signs_bad1 (n : NOk N H) (r1 : R N H v1 d1) (r2 : R N H v2 d2) (pre : preS d1 d2 = true) (h1 : sortsOk d1 = false) (k : Thr N H E CB "part" (.str "sorts")) {x dx : Addr} (hx : H x = none) (hd : H dx = none) (ne : dx ≠ x) :
    spSigns C CB (.ref x :: ([v1, v2] ++ [])) (upd (upd H dx (.own x)) x (.ins C dx [])) Q E := by
  have e := two_new (C := C) hx hd ne
  refine ⟨plus N x, x, dx, v1, v2, d1, d2, rfl, (n.ex e).plus (by rw [upd_same]; exact fun z => by cases z), .inr rfl, upd_same, (r1.plus hx).ex e, (r2.plus hx).ex e, pre, fun _ a H' v e2 rv ha hv => k a H' v (e.trans e2) rv.less (e.free ha) hv, fun z => (by rw [h1] at z; cases z), fun z => (by rw [h1] at z; cases z)⟩
/-- .. of wrong symbols -/
theorem signs_bad2 (n : NOk N H) (r1 : R N H v1 d1) (r2 : R N H v2 d2) (pre : preS d1 d2 = true) (h1 : sortsOk d1 = true) (h2 : areSyms (strsOf d1) d2 = false) (k : Thr N H E CB "part" (.str "symbols")) {x dx : Addr} (hx : H x = none) (hd : H dx = none) (ne : dx ≠ x) :
    spSigns C CB (.ref x :: ([v1, v2] ++ [])) (upd (upd H dx (.own x)) x (.ins C dx [])) Q E := by
  have e := two_new (C := C) hx hd ne
  refine ⟨plus N x, x, dx, v1, v2, d1, d2, rfl, (n.ex e).plus (by rw [upd_same]; exact fun z => by cases z), .inr rfl, upd_same, (r1.plus hx).ex e, (r2.plus hx).ex e, pre, fun z => (by rw [h1] at z; cases z), fun _ _ a H' v e2 rv ha hv => k a H' v (e.trans e2) rv.less (e.free ha) hv, fun _ z => (by rw [h2] at z; cases z)⟩
end
end K1
end

section
set_option Elab.async false
set_option linter.all false
set_option maxRecDepth 100000
set_option maxHeartbeats 2000000
namespace K1
open PySem L2 Rp
section
variable {K : PySem.W.Frag} {C CB CN CP : Addr} {Es : Nat → Addr} {Pt : Addr}
/-- the table of the law's own code object -/
def tab0 (Pt : Addr) : List (Addr × Str) := [(Pt, "law.<locals>.<lambda>")]
theorem heard_go {N : Addr → Prop} {H1 H2 : Hp} {Q : VK} {E' : XK} {d : PyData} (n : NOk N H1) (kn : KitN K Es CN) (ec : ErrC K CP CN) (kk : ∀ u H', Ex H1 H' → R N H' u (.tuple [.str "name", d]) → Q u H') (e : Ex H1 H2) (hE : ∀ cls d H', HeardE K CP Es Q cls d H' → E' cls d H') : Thr N H2 E' CN "name" d := fun a H' v e2 rv ha hv =>
  hE _ _ _ ⟨CN, a, v, rfl, rfl, ec, .inl ⟨kn, hv, fun p H3 e3 hp h3 => kk _ _ ((e.trans e2).trans e3) (.tup h3 ((n.ex (e.trans e2)).not hp) (.cons (.str _) (.cons (rv.ex e3) .nil)))⟩⟩
theorem heard_part {N : Addr → Prop} {H1 H2 : Hp} {Q : VK} {E' : XK} {d : PyData} {wd : Str} {bit : Str → Bool} (n : NOk N H1) (kp : KitP K Es CB wd bit) (ec : ErrC K CP CB) (kk : ∀ u H', Ex H1 H' → R N H' u (.tuple [.str wd, d]) → Q u H') (e : Ex H1 H2) (hE : ∀ cls d H', HeardE K CP Es Q cls d H' → E' cls d H') : Thr N H2 E' CB "part" d := fun a H' v e2 rv ha hv =>
  hE _ _ _ ⟨CB, a, v, rfl, rfl, ec, .inr ⟨wd, bit, kp, hv, fun p H3 e3 hp h3 => kk _ _ ((e.trans e2).trans e3) (.tup h3 ((n.ex (e.trans e2)).not hp) (.cons (.str _) (.cons (rv.ex e3) .nil)))⟩⟩
theorem extN_xn {N : Addr → Prop} {H H' : Hp} (e : LamX.ExtN H H') : Xn N H H' := fun a o _ t h => e a o h t
theorem Pen_extN {P C : Addr} {ns : List Int} {n : Nat} {H H' : Hp} (p : Pen P C ns n H) (e : LamX.ExtN H H') : Pen P C ns n H' := p.keep fun a o t h => e a o h t
theorem Tabs_xt {T : List (Addr × Str)} {Q : Addr} {H H' : Hp} {l : List V} (t : LamX.Tabs T H) (x : Xt Q H H') (hq : H Q = some (.lst l)) : LamX.Tabs T H' := fun p hp => by
  obtain ⟨ps, h1, h2, h3⟩ := t p hp
  refine ⟨ps, x _ _ (fun z => ?_) h1, h2, fun pos cv hc => ?_⟩
  · rw [z, hq] at h1
    cases h1
  · obtain ⟨c, e1, e2⟩ := h3 pos cv hc
    refine ⟨c, e1, x _ _ (fun z => ?_) e2⟩
    rw [z, hq] at e2
    exact nomatch (show some (HO.lst l) = some (LamX.CodeO Q p.2) from e2)
theorem Pen_tabs {T : List (Addr × Str)} {Q C0 : Addr} {ns : List Int} {n : Nat} {H H' : Hp} (t : LamX.Tabs T H) (p : Pen Q C0 ns n H) (x : Xt Q H H') : LamX.Tabs T H' := by
  obtain ⟨_, _, hq, _⟩ := p.at_
  exact Tabs_xt t x hq
theorem eqv_strs : ∀ ss : List Str, PyData.eqv (.tuple (strsD ss)) (.tuple (strsD ss)) = true
  | [] => rfl
  | x :: r => by
    have ih := eqv_strs r
    show ((x == x) && PyData.eqv (.tuple (strsD r)) (.tuple (strsD r))) = true
    rw [ih, beq_self_eq_true]
    rfl
theorem eqv_rows : ∀ sy : List SRow, PyData.eqv (.tuple (sy.map rowD)) (.tuple (sy.map rowD)) = true
  | [] => rfl
  | r :: t => by
    have ih := eqv_rows t
    have e := eqv_strs r.args
    show (((r.name == r.name) && (PyData.eqv (.tuple (strsD r.args)) (.tuple (strsD r.args)) && ((r.sort == r.sort) && true))) && PyData.eqv (.tuple (t.map rowD)) (.tuple (t.map rowD))) = true
    rw [ih, e, beq_self_eq_true, beq_self_eq_true]
    rfl
end
end K1
end

section
set_option Elab.async false
set_option linter.all false
set_option maxRecDepth 100000
set_option maxHeartbeats 2000000
namespace Rp
open PySem PySem.Spec PyProof.Rows L2
section
variable {K : PySem.W.Frag} {N : Addr → Prop} {H : Hp} {Q : VK} {v u : V} {d e : PyData}
@[irreducible] def rLstOf (K : PySem.W.Frag) : List V → Hp → VK → Prop := fun xs H Q => ∃ p ys, xs = [.ref p] ∧ (SqL K H p ys ∨ SqT K H p ys) ∧ ∀ l, H l = none → Q (.ref l) (upd H l (.lst ys))
theorem call_lstS {X : Cx} : CallR X (.type "list") (rLstOf X.K) := by
  unfold rLstOf
  exact call_list_of
/-- list(..) of a list or tuple -/
theorem R.lstOf (r : R N H v d) (n : NOk N H) (h : isListed d = true) (k : ∀ l xs H', H' l = some (.lst xs) → Ex H H' → RAll N H' xs (itemsOf d) → ¬ N l → H l = none → Q (.ref l) H') : rLstOf K [v] H Q := by
  unfold rLstOf
  obtain ⟨a, xs, rfl, ha, ra⟩ := seq_of r h
  exact ⟨a, xs, rfl, seq_sq ha, fun l hl => k l xs _ upd_same (Ex.new hl) (ra.ex (Ex.new hl)) (n.not hl) hl⟩
end
theorem RAll.rev {N : Addr → Prop} {H : Hp} : ∀ {xs : List V} {ds : List PyData}, RAll N H xs ds → RAll N H xs.reverse ds.reverse
  | _, _, .nil => .nil
  | _, _, .cons r t => by
    rw [List.reverse_cons, List.reverse_cons]
    exact (RAll.rev t).append (.cons r .nil)
theorem RAll.dropLast {N : Addr → Prop} {H : Hp} {xs : List V} {ds : List PyData} (r : RAll N H xs ds) : RAll N H xs.dropLast ds.dropLast := by
  rw [List.dropLast_eq_take, List.dropLast_eq_take, r.length]
  exact r.take _
end Rp
namespace K1
open PySem L2 Rp
/-! ### is_thing -/
def isThing (d : PyData) : Bool := isListed d && decide ((itemsOf d).length = 2) && isName ((itemsOf d).getD 0 .none) && isName ((itemsOf d).getD 1 .none)
def okThing (d : PyData) : Bool := (itemsOf d).all short
def F_is_thing : List PyData → Option PyData
  | [d] => given (okThing d) (.bool (isThing d))
  | _ => none
section
variable {P : Program} {w : World} {K : PySem.W.Frag} {mg : Str → Option Value} {base : Heap} {f : Addr} {fd : FuncData} {C CB CN fB ccB cdB : Addr}
theorem sc_is_thing : FnScope ["word"] ["word"] (C8.fnScope (topS 37)) := C8.fnScope_by (by decide +kernel)
theorem ok_is_thing (D : C8.Def K mg "is_thing" (topS 37) f fd) (b : Binds K fd ["word"] []) (T : TxtB K mg) (G_is_listed : C8.Cal P w K mg base 1 "is_listed" (spP F_is_listed) []) (G_is_name : C8.Cal P w K mg base 1 "is_name" (spP F_is_name) []) : C8.Cal P w K mg base 2 "is_thing" (spP F_is_thing) [] :=
  C8.cal0 D b .nil sc_is_thing (len1 fun ds d h => by match ds, h with | [x], _ => rfl) fun cdv A outer s H vs Q E hr h => by
    obtain ⟨N, ds, d, n, r, hF, k⟩ := h
    match ds, hF with
    | [x], hF =>
      obtain ⟨v, rfl, rv⟩ := r.one
      obtain ⟨hok, rfl⟩ := given_inv hF
      have kf : ∀ b : Bool, ∀ H', Ex H H' → b = isThing x → Q (.bl b) H' := fun b H' e hb => by
        rw [hb]
        exact k _ _ e (.bl _)
      refine ⟨_, (pss_one (ps_ret (pe_and (C8.pe_c G_is_listed hr (by decide) (by rfl) (pa_cons (pv 0) pa_nil)) (pe_and (pe_cmpR op_eq (pe_callB call_lenS (by rfl) T.len PyProof.Rows.Boot.«len» (pa_cons (pv 0) pa_nil)) pe_int (nomark _)) (pe_and (C8.pe_c G_is_name hr (by decide) (by rfl) (pa_cons (pe_ix (show IxR _ (rIxY K) from ix_Y) (pv 0) pe_int (fun _ _ => rfl)) pa_nil)) (pe_one (C8.pe_c G_is_name hr (by decide) (by rfl) (pa_cons (pe_ix (show IxR _ (rIxY K) from ix_Y) (pv 0) pe_int (fun _ _ => rfl)) pa_nil)))))))), ?_⟩
      refine ⟨_, rfl, call_B n (.cons rv .nil) rfl fun H1 e1 => ⟨_, rfl, ?_⟩⟩
      cases hL : isListed x with
      | false => exact iteF (kf _ _ e1 (by unfold isThing; rw [hL]; rfl))
      | true =>
      refine iteT ⟨_, rfl, R.len (rv.ex e1) hL ⟨rfl, _, rfl, ?_⟩⟩
      rw [dec_int]
      refine ite2 (fun c => ?_) (fun c => ?_)
      · have c' : (itemsOf x).length = 2 := by have := of_decide_eq_true c; omega
        obtain ⟨x0, x1, hi⟩ : ∃ x0 x1, itemsOf x = [x0, x1] := by
          match itemsOf x, c' with
          | [x0, x1], _ => exact ⟨x0, x1, rfl⟩
        have hz : isThing x = (isName x0 && isName x1) := by
          unfold isThing
          rw [hL, hi]
          rfl
        rw [hz] at kf
        have hs : short x0 = true ∧ short x1 = true := by
          unfold okThing at hok
          rw [hi] at hok
          simpa using hok
        refine ⟨_, rfl, R.ix (rv.ex e1) hL (by decide) (by rw [hi]; rfl) fun v0 r0 => call_B (n.ex e1) (.cons r0 .nil) (F_name_some hs.1) fun H2 e2 => ⟨_, rfl, ?_⟩⟩
        have e12 := e1.trans e2
        cases hN : isName x0 with
        | false => exact iteF (kf _ _ e12 (by rw [hN]; rfl))
        | true =>
        exact iteT ⟨_, rfl, R.ix (rv.ex e12) hL (by decide) (by rw [hi]; rfl) fun v1 r1 => call_B (n.ex e12) (.cons r1 .nil) (F_name_some hs.2) fun H3 e3 => kf _ _ (e12.trans e3) (by rw [hN]; rfl)⟩
      · have c' : ¬ (itemsOf x).length = 2 := fun q => c (decide_eq_true (by omega))
        exact kf _ _ e1 (by unfold isThing; rw [hL, decide_eq_false c']; rfl)
end
end K1
end

section
set_option Elab.async false
set_option linter.all false
set_option maxRecDepth 100000
set_option maxHeartbeats 2000000
namespace K1
open PySem L2 Rp
/-! ### fits, is_told -/
def isSort : PyData → Bool
  | .none => true
  | .str x => PyData.strOk x
  | _ => false
def sortFits (ds : PyData) (t : Str) : Bool := match ds with
  | .str s => decide (t = s)
  | _ => true
def fitsB (so : List Str) (sy : List SRow) (leaf : PyData → Bool) (dw ds : PyData) : Bool := match dw with
  | .str x => match rowOf sy (.str x) with
    | some r => sortFits ds r.sort
    | none => false
  | d => leaf d && (decide ((itemsOf d).length = 1) || (decide (strOf ((itemsOf d).getD 0 .none) ∈ so) && sortFits ds (strOf ((itemsOf d).getD 0 .none))))
theorem fits_none {so : List Str} {sy : List SRow} {leaf : PyData → Bool} {y : Str} {ds : PyData} (z : rowOf sy (.str y) = none) : fitsB so sy leaf (.str y) ds = false := by
  show (match rowOf sy (.str y) with | some r => sortFits ds r.sort | none => false) = false
  rw [z]
theorem fits_some {so : List Str} {sy : List SRow} {leaf : PyData → Bool} {y : Str} {ds : PyData} {r : SRow} (z : rowOf sy (.str y) = some r) : fitsB so sy leaf (.str y) ds = sortFits ds r.sort := by
  show (match rowOf sy (.str y) with | some r => sortFits ds r.sort | none => false) = _
  rw [z]
structure LeafOk (F : List PyData → Option PyData) (leaf : PyData → Bool) : Prop where
  go : ∀ d, okThing d = true → F [d] = some (.bool (leaf d))
  seq : ∀ d, leaf d = true → isListed d = true ∧ ∃ x, (itemsOf d)[0]? = some (.str x)
  str : ∀ x, leaf (.str x) = false
theorem isName_isStr {d : PyData} (h : isName d = true) : ∃ x, d = .str x := by
  cases d with
  | str x => exact ⟨x, rfl⟩
  | _ => cases h
theorem thing_leaf : LeafOk F_is_thing isThing where
  go d h := given_some h
  seq d h := by
    unfold isThing at h
    simp only [Bool.and_eq_true, decide_eq_true_eq] at h
    obtain ⟨⟨⟨h1, h2⟩, h3⟩, _⟩ := h
    refine ⟨h1, ?_⟩
    match hi : itemsOf d, h2 with
    | [a, b], _ =>
      rw [hi] at h3
      obtain ⟨x, rfl⟩ := isName_isStr (d := a) h3
      exact ⟨x, rfl⟩
  str x := rfl
def spFits (C fL : Addr) (leaf : PyData → Bool) : Sp := fun vs H Q _ => ∃ (N : Addr → Prop) (z wv s : V) (so : List Str) (sy : List SRow) (dw ds : PyData), vs = [z, wv, s, .ref fL] ∧ NOk N H ∧ SigAt C N H z so sy ∧ R N H wv dw ∧ R N H s ds ∧ isSort ds = true ∧ okThing dw = true ∧ ∀ H', Ex H H' → Q (.bl (fitsB so sy leaf dw ds)) H'
section
variable {P : Program} {w : World} {K : PySem.W.Frag} {mg : Str → Option Value} {base : Heap} {f fL : Addr} {fd : FuncData} {C CB CN fB ccB cdB : Addr} {F : List PyData → Option PyData} {leaf : PyData → Bool}
theorem sc_fits : FnScope ["signs", "word", "sort", "is_leaf"] ["signs", "word", "sort", "is_leaf"] (C8.fnScope (topS 45)) := C8.fnScope_by (by decide +kernel)
theorem dec_sort {ds : PyData} {N : Addr → Prop} {H : Hp} {s : V} {t : Str} (r : R N H s ds) (h : isSort ds = true) (hn : ds ≠ .none) : scal (.str t) s = true ∧ decide (V.str t = s) = sortFits ds t := by
  cases r with
  | str x => exact ⟨rfl, by show decide (V.str t = V.str x) = decide (t = x); simp⟩
  | non => exact absurd rfl hn
  | _ => cases h
theorem ok_fits (D : C8.Def K mg "fits" (topS 45) f fd) (b : Binds K fd ["signs", "word", "sort", "is_leaf"] []) (T : TxtB K mg) (S : TxtS K mg C) (CL : C8.CalAt P w K mg base 2 fL (spP F)) (lf : LeafOk F leaf)
    (M_sort_of : MetX P w K mg base 4 C "sort_of" (spPart C CN fun r => .str r.sort) []) : C8.Cal P w K mg base 5 "fits" (spFits C fL leaf) [] :=
  C8.cal0 D b .nil sc_fits (fun vs H Q E h => by obtain ⟨N, z, wv, s, so, sy, dw, ds, rfl, _⟩ := h; rfl) fun cdv A outer s0 H vs Q E hr h => by
    obtain ⟨N, z, wv, s, so, sy, dw, ds, rfl, n, sa, rw0, rs, hso, hok, k⟩ := h
    refine ⟨_, (pss_cons (ps_if (pt_val (pe_callB call_isY (by rfl) T.isinstance PyProof.Rows.Boot.«isinstance» (pa_cons (pv 1) (pa_cons (pe_bltn (v := .ty "str") rfl T.str PyProof.Rows.Boot.«str» rfl) pa_nil))))
      (pss_one (ps_ret (pe_and (pe_cmp (pc_din (Nat.lt_of_le_of_lt (Nat.add_le_add_left (by decide) _) hr.units) (pv 1) (pe_fld (pv 0) rfl))) (pe_one (pe_or (pe_cmpR op_isN (pv 2) pe_non (nomark _)) (pe_one (pe_cmpR op_eq (pe_mtX M_sort_of hr (by decide) p0 (pv 0) (pa_cons (pv 1) pa_nil)) (pv 2) (nomark _))))))))
      pss_nil)
      (pss_cons (ps_if (pt_not (pt_val (C8.pe_cv (i := 3) CL CL hr (by decide) (by decide) rfl (by first | exact Or.inl rfl | exact Or.inr rfl) (pa_cons (pv 1) pa_nil))))
      (pss_one (ps_ret pe_bl))
      pss_nil)
      (pss_one (ps_ret (pe_or (pe_cmpR op_eq (pe_callB call_lenS (by rfl) T.len PyProof.Rows.Boot.«len» (pa_cons (pv 1) pa_nil)) pe_int (nomark _)) (pe_one (pe_and (pe_cmpR (show OpR _ _ (rInY K false) from op_inY) (pe_ix (show IxR _ (rIxY K) from ix_Y) (pv 1) pe_int (fun _ _ => rfl)) (pe_fld (pv 0) rfl) rfl) (pe_one (pe_or (pe_cmpR op_isN (pv 2) pe_non (nomark _)) (pe_one (pe_cmpR op_eq (pe_ix (show IxR _ (rIxY K) from ix_Y) (pv 1) pe_int (fun _ _ => rfl)) (pv 2) (nomark _)))))))))))), ?_⟩
    refine ⟨_, rfl, R.isStrQ rw0 ⟨_, rfl, ?_⟩⟩
    have hs2 : ∀ {H1 : Hp} {Q1 : VK} (t : Str), (Q1 (.bl (sortFits ds t)) H1) → (∃ c, V.bl (decide (s = V.non)) = .bl c ∧ if c = true then Q1 (.bl true) H1 else (scal (.str t) s = true ∧ Q1 (.bl (decide (V.str t = s))) H1)) := fun {H1 Q1} t h1 => by
      by_cases hn : ds = .none
      · subst hn
        cases rs
        exact ⟨_, rfl, h1⟩
      · obtain ⟨h2, h3⟩ := dec_sort (t := t) rs hso hn
        have hs : s ≠ V.non := fun z => by
          subst z
          cases rs
          exact hn rfl
        refine ⟨_, rfl, ?_⟩
        rw [if_neg (by rw [decide_eq_false hs]; exact Bool.false_ne_true)]
        exact ⟨h2, by rw [h3]; exact h1⟩
    cases hstr : isStr dw with
    | true =>
      obtain ⟨y, rfl⟩ : ∃ y, dw = .str y := by
        cases dw with
        | str y => exact ⟨y, rfl⟩
        | _ => cases hstr
      have ev := rw0.strv
      subst ev
      obtain ⟨x, dx, kk, vso, vsy, kvs, rfl, hx, nx, r1, r2, hk, nk, q⟩ := sa.ex
      refine iteT ⟨_, rfl, _, rfl, x, C, dx, _, .ref kk, rfl, hx, S.cl, S.n3, rfl, kk, valV kvs (Sum.inr y), rfl, DGet.k (k := Sum.inr y) hk, ?_⟩
      have hv := valS_rows y sy
      rcases q.val (k := y) with ⟨a, bb⟩ | ⟨v, d, a, bb, rv⟩
      · rw [bb]
        rw [a] at hv
        have z : rowOf sy (.str y) = none := by
          cases e : rowOf sy (.str y) with
          | none => rfl
          | some r => rw [e] at hv; cases hv
        refine ⟨_, rfl, iteF ?_⟩
        have := k H (Ex.refl H)
        rw [fits_none z] at this
        exact this
      · rw [bb]
        rw [a] at hv
        obtain ⟨r, hrow⟩ : ∃ r, rowOf sy (.str y) = some r := by
          cases e : rowOf sy (.str y) with
          | none => rw [e] at hv; cases hv
          | some r => exact ⟨r, rfl⟩
        refine ⟨_, rfl, iteT ⟨_, rfl, rfl, ?_⟩⟩
        have kk2 := k H (Ex.refl H)
        rw [fits_some hrow] at kk2
        by_cases hn : ds = .none
        · subst hn
          cases rs
          exact ⟨_, rfl, kk2⟩
        · have hs : s ≠ V.non := fun z => by
            subst z
            cases rs
            exact hn rfl
          obtain ⟨h2, h3⟩ := dec_sort (t := r.sort) rs hso hn
          refine ⟨_, rfl, ?_⟩
          rw [if_neg (by rw [decide_eq_false hs]; exact Bool.false_ne_true)]
          refine ⟨_, rfl, x, dx, _, rfl, hx, rfl, _, rfl, N, _, _, so, sy, .str y, rfl, n, sa, .str y, fun r' hr2 u ru => ?_, fun hn => by rw [hrow] at hn; cases hn⟩
          rw [hrow] at hr2
          cases hr2
          rw [ru.strv]
          exact ⟨_, rfl, h2, by rw [h3]; exact kk2⟩
    | false =>
      have kf : ∀ b : Bool, ∀ H', Ex H H' → b = fitsB so sy leaf dw ds → Q (.bl b) H' := fun b H' e hb => by
        rw [hb]
        exact k _ e
      have hfit : fitsB so sy leaf dw ds = (leaf dw && (decide ((itemsOf dw).length = 1) || (decide (strOf ((itemsOf dw).getD 0 .none) ∈ so) && sortFits ds (strOf ((itemsOf dw).getD 0 .none))))) := by
        cases dw with
        | str y => cases hstr
        | _ => rfl
      rw [hfit] at kf
      refine iteF (.inl ⟨rfl, _, rfl, ⟨N, _, _, n, .cons rw0 .nil, lf.go dw hok, fun v H1 e1 rb => ?_⟩⟩)
      rw [rb.bool]
      refine ⟨_, rfl, ?_⟩
      cases hlf : leaf dw with
      | false => exact iteT (kf _ _ e1 (by rw [hlf]; rfl))
      | true =>
      obtain ⟨hL, x, hx0⟩ := lf.seq dw hlf
      rw [hlf] at kf
      have hg : (itemsOf dw).getD 0 .none = .str x := by
        rw [List.getD_eq_getElem?_getD, hx0]
        rfl
      rw [hg] at kf
      refine iteF ⟨_, rfl, R.len (rw0.ex e1) hL ⟨rfl, _, rfl, ?_⟩⟩
      rw [dec_int]
      refine ite2 (fun c => ?_) (fun c => ?_)
      · have c' : (itemsOf dw).length = 1 := by have := of_decide_eq_true c; omega
        exact kf _ _ e1 (by rw [decide_eq_true c']; rfl)
      · have c' : ¬ (itemsOf dw).length = 1 := fun q => c (decide_eq_true (by omega))
        rw [decide_eq_false c'] at kf
        have sa1 := sa.ex' e1
        obtain ⟨x1, dx, kk, vso, vsy, kvs, rfl, hx1, nx, r1, r2, hk, nk, q⟩ := sa1.ex
        refine ⟨_, rfl, R.ix (rw0.ex e1) hL (by decide) hx0 fun v0 r0 => ⟨_, rfl, x1, C, dx, _, vso, rfl, hx1, S.cl, S.n1, rfl, R.inStrs r0 r1 rfl (strs_all so).1 ⟨_, rfl, ?_⟩⟩⟩
        rw [show (itemsOf (.tuple (strsD so))).map strOf = so from (strs_all so).2]
        cases hin : decide (x ∈ so) with
        | false => exact iteF (kf _ _ e1 (by rw [show strOf (.str x) = x from rfl, hin]; rfl))
        | true =>
          refine iteT ⟨_, rfl, rfl, ?_⟩
          have kk2 := kf (sortFits ds x) _ e1 (by rw [show strOf (.str x) = x from rfl, hin]; rfl)
          by_cases hn : ds = .none
          · subst hn
            cases rs
            exact ⟨_, rfl, kk2⟩
          · have hs : s ≠ V.non := fun z => by
              subst z
              cases rs
              exact hn rfl
            obtain ⟨h2, h3⟩ := dec_sort (t := x) rs hso hn
            refine ⟨_, rfl, ?_⟩
            rw [if_neg (by rw [decide_eq_false hs]; exact Bool.false_ne_true)]
            refine ⟨_, rfl, R.ix (rw0.ex e1) hL (by decide) hx0 fun v1 r1 => ⟨_, rfl, ?_⟩⟩
            rw [r1.strv]
            exact ⟨h2, by rw [h3]; exact kk2⟩
end
end K1
end

section
set_option Elab.async false
set_option linter.all false
set_option maxRecDepth 100000
set_option maxHeartbeats 2000000
namespace K1
open PySem L2 Rp
def argsD (sy : List SRow) (dw : PyData) : List PyData := match dw with
  | .str x => match rowOf sy (.str x) with
    | some r => strsD r.args
    | none => []
  | _ => []
/-- the words read one by one, what is wanted on top first -/
def toldGo (so : List Str) (sy : List SRow) (leaf : PyData → Bool) : List PyData → List PyData → Option (List PyData)
  | [], st => some st
  | _ :: _, [] => none
  | dw :: r, t :: st => if fitsB so sy leaf dw t = true then toldGo so sy leaf r (argsD sy dw ++ st) else none
def toldB (so : List Str) (sy : List SRow) (leaf : PyData → Bool) (ds : List PyData) (s : PyData) : Bool := (match toldGo so sy leaf ds [s] with
  | some [] => true
  | _ => false) && decide (0 < ds.length)
theorem told_snoc {so : List Str} {sy : List SRow} {leaf : PyData → Bool} {dw : PyData} : ∀ {ds st : List PyData}, toldGo so sy leaf (ds ++ [dw]) st = (match toldGo so sy leaf ds st with
    | some (t :: st') => if fitsB so sy leaf dw t = true then some (argsD sy dw ++ st') else none
    | _ => none)
  | [], [] => rfl
  | [], t :: st => by
    show (if fitsB so sy leaf dw t = true then toldGo so sy leaf [] (argsD sy dw ++ st) else none) = _
    rfl
  | d :: r, [] => rfl
  | d :: r, t :: st => by
    show (if fitsB so sy leaf d t = true then toldGo so sy leaf (r ++ [dw]) (argsD sy d ++ st) else none) = (match (if fitsB so sy leaf d t = true then toldGo so sy leaf r (argsD sy d ++ st) else none) with
      | some (t :: st') => if fitsB so sy leaf dw t = true then some (argsD sy dw ++ st') else none
      | _ => none)
    by_cases c : fitsB so sy leaf d t = true
    · rw [if_pos c, if_pos c]
      exact told_snoc
    · rw [if_neg c, if_neg c]
theorem told_none {so : List Str} {sy : List SRow} {leaf : PyData → Bool} {es : List PyData} : ∀ {ds st : List PyData}, toldGo so sy leaf ds st = none → toldGo so sy leaf (ds ++ es) st = none
  | [], st, h => by cases h
  | d :: r, [], _ => rfl
  | d :: r, t :: st, h => by
    show (if fitsB so sy leaf d t = true then toldGo so sy leaf (r ++ es) (argsD sy d ++ st) else none) = none
    have h : (if fitsB so sy leaf d t = true then toldGo so sy leaf r (argsD sy d ++ st) else none) = none := h
    by_cases c : fitsB so sy leaf d t = true
    · rw [if_pos c] at h ⊢
      exact told_none h
    · rw [if_neg c]
theorem told_words {so : List Str} {sy : List SRow} {leaf : PyData → Bool} : ∀ {ds st st' : List PyData}, toldGo so sy leaf ds st = some st' → ∀ dw ∈ ds, isStr dw = true ∨ leaf dw = true
  | [], _, _, _, dw, h => (List.not_mem_nil h).elim
  | d :: r, [], _, h, _, _ => by cases h
  | d :: r, t :: st, st', h, dw, hm => by
    have h : (if fitsB so sy leaf d t = true then toldGo so sy leaf r (argsD sy d ++ st) else none) = some st' := h
    by_cases c : fitsB so sy leaf d t = true
    · rw [if_pos c] at h
      rcases List.mem_cons.mp hm with rfl | hm
      · cases dw with
        | str x => exact .inl rfl
        | _ => exact .inr (Bool.and_eq_true_iff.mp c).1
      · exact told_words h dw hm
    · rw [if_neg c] at h
      cases h
theorem atom_any {N M : Addr → Prop} {H H' : Hp} {v : V} {d : PyData} (r : R N H v d) (h : isSort d = true) : R M H' v d := by
  cases r with
  | non => exact .non
  | str x => exact .str x
  | _ => cases h
theorem atoms_any {N M : Addr → Prop} {H H' : Hp} : ∀ {xs : List V} {ds : List PyData}, RAll N H xs ds → ds.all isSort = true → RAll M H' xs ds
  | _, _, .nil, _ => .nil
  | _, _, .cons r t, h => by
    rw [List.all_cons, Bool.and_eq_true] at h
    cases r with
    | non => exact .cons .non (atoms_any t h.2)
    | str x => exact .cons (.str x) (atoms_any t h.2)
    | _ => cases h.1
theorem shaped_sorts : ∀ {ds : List PyData}, ds.all isSort = true → PyData.canLayAll0 ds = true ∧ PyData.depthAll ds = 0 ∧ noDicts ds = true
  | [], _ => ⟨rfl, rfl, rfl⟩
  | d :: r, h => by
    rw [List.all_cons, Bool.and_eq_true] at h
    obtain ⟨h1, h2, h3⟩ := shaped_sorts h.2
    cases d with
    | none =>
      refine ⟨h1, ?_, h3⟩
      show max 0 (PyData.depthAll r) = 0
      rw [h2]
      rfl
    | str x =>
      refine ⟨?_, ?_, h3⟩
      · show (PyData.strOk x && PyData.canLayAll0 r) = true
        rw [h1, show PyData.strOk x = true from h.1]
        rfl
      · show max 0 (PyData.depthAll r) = 0
        rw [h2]
        rfl
    | _ => cases h.1
theorem shaped_stack {ds : List PyData} (h : ds.all isSort = true) : SeqAt.shaped (.list ds) = true ∧ noDict (.list ds) = true := by
  obtain ⟨h1, h2, h3⟩ := shaped_sorts h
  refine ⟨?_, h3⟩
  show (PyData.canLayAll0 ds && decide (PyData.depthAll ds + 1 ≤ 64)) = true
  rw [h1, h2]
  rfl
theorem eqv_empty (ds : List PyData) : PyData.eqv (.list ds) (.list []) = ds.isEmpty := by
  cases ds <;> rfl
theorem args_sorts {sy : List SRow} (h : sy.all rowOk = true) (dw : PyData) : (argsD sy dw).all isSort = true := by
  unfold argsD
  cases dw with
  | str x =>
    show (match rowOf sy (.str x) with | some r => strsD r.args | none => []).all isSort = true
    cases hr : rowOf sy (.str x) with
    | none => rfl
    | some r =>
      have hm : r ∈ sy := List.mem_of_find?_eq_some hr
      have hk := List.all_eq_true.mp h r hm
      have hargs : r.args.all PyData.strOk = true := (Bool.and_eq_true_iff.mp hk).2
      refine List.all_eq_true.mpr fun d hd => ?_
      obtain ⟨a, ha, rfl⟩ := List.mem_map.mp hd
      exact List.all_eq_true.mp hargs a ha
  | _ => rfl
theorem args_len {sy : List SRow} (h : ∀ r ∈ sy, r.args.length ≤ 3) (dw : PyData) : (argsD sy dw).length ≤ 3 := by
  unfold argsD
  cases dw with
  | str x =>
    show (match rowOf sy (.str x) with | some r => strsD r.args | none => []).length ≤ 3
    cases hr : rowOf sy (.str x) with
    | none => exact Nat.zero_le _
    | some r =>
      show (strsD r.args).length ≤ 3
      unfold strsD
      rw [List.length_map]
      exact h r (List.mem_of_find?_eq_some hr)
  | _ => exact Nat.zero_le _
def spTold (C fL : Addr) (leaf : PyData → Bool) : Sp := fun vs H Q _ => ∃ (N : Addr → Prop) (z v s : V) (so : List Str) (sy : List SRow) (d ds : PyData), vs = [z, v, s, .ref fL] ∧ NOk N H ∧ SigAt C N H z so sy ∧ (∀ r ∈ sy, r.args.length ≤ 3) ∧ R N H v d ∧ R N H s ds ∧ isSort ds = true ∧ (itemsOf d).all okThing = true ∧ (itemsOf d).length ≤ 100000 ∧
  ∀ H', Ex H H' → Q (.bl (isListed d && toldB so sy leaf (itemsOf d) ds)) H'
section
variable {P : Program} {w : World} {K : PySem.W.Frag} {mg : Str → Option Value} {base : Heap} {f fL : Addr} {fd : FuncData} {C CB CN fB ccB cdB : Addr} {leaf : PyData → Bool}
theorem sc_is_told : FnScope ["signs", "value", "sort", "is_leaf", "wanted", "word"] ["signs", "value", "sort", "is_leaf"] (C8.fnScope (topS 46)) := C8.fnScope_by (by decide +kernel)
theorem ok_is_told (D : C8.Def K mg "is_told" (topS 46) f fd) (b : Binds K fd ["signs", "value", "sort", "is_leaf"] []) (T : TxtB K mg) (S : TxtS K mg C) (hstrL : ∀ x, leaf (.str x) = false) (G_is_listed : C8.Cal P w K mg base 1 "is_listed" (spP F_is_listed) [])
    (G_fits : C8.Cal P w K mg base 5 "fits" (spFits C fL leaf) []) (M_arguments : MetX P w K mg base 4 C "arguments" (spPart C CN fun r => .tuple (strsD r.args)) []) : C8.Cal P w K mg base 6 "is_told" (spTold C fL leaf) [] :=
  C8.cal0 D b .nil sc_is_told (fun vs H Q E h => by obtain ⟨N, z, v, s, so, sy, d, ds, rfl, _⟩ := h; rfl) fun cdv A outer s0 H vs Q E hr h => by
    obtain ⟨N, z, v, s, so, sy, d, ds, rfl, n, sa, h3, rv, rs, hso, hok, hlen, k⟩ := h
    have hu := hr.units
    refine ⟨_, (pss_cons (ps_if (pt_not (pt_val (C8.pe_c G_is_listed hr (by decide) (by rfl) (pa_cons (pv 1) pa_nil))))
      (pss_one (ps_ret pe_bl))
      pss_nil)
      (pss_cons (ps_set (i := 4) sc_is_told.nd rfl (by first | exact Or.inl rfl | exact Or.inr rfl) (pe_lst (pa_cons (pv 2) pa_nil)))
      (pss_cons (ps_for PassesOwn.never rfl (pi_seq (pv 1)) (pg_name (i := 5) sc_is_told.nd rfl (by first | exact Or.inl rfl | exact Or.inr rfl))
      (pss_cons (ps_if (PW.pt (pw_or (pt_cmpR (op_eqY (by exact hu)) (pv 4) (pe_lst pa_nil) (nomark _)) (pw_or1 (pt_not (pt_val (C8.pe_c G_fits hr (by decide) (by rfl) (pa_cons (pv 0) (pa_cons (pv 5) (pa_cons (pe_bm0 PySem.F.plainAttrs_list PySem.F.slot_list_pop PySem.F.type_list_pop mt_pop (pv 4)) (pa_cons (pv 3) pa_nil))))))))))
      (pss_one (ps_ret pe_bl))
      pss_nil)
      (pss_one (ps_if (pt_val (pe_callB call_isY (by rfl) T.isinstance PyProof.Rows.Boot.«isinstance» (pa_cons (pv 5) (pa_cons (pe_bltn (v := .ty "str") rfl T.str PyProof.Rows.Boot.«str» rfl) pa_nil))))
      (pss_one (ps_expr (pe_bm PySem.F.plainAttrs_list PySem.F.slot_list_extend PySem.F.type_list_extend mt_extend (pv 4) (pa_cons (pe_revL (pe_callTy (show CallR _ _ (rLstOf K) from call_lstS) (by rfl) T.list PyProof.Rows.Boot.«list» (pa_cons (pe_mtX M_arguments hr (by decide) p0 (pv 0) (pa_cons (pv 5) pa_nil)) pa_nil))) pa_nil))))
      pss_nil))))
      (pss_one (ps_ret (pe_and (pe_cmpR (op_eqY (by exact hu)) (pv 4) (pe_lst pa_nil) (nomark _)) (pe_one (pe_cmpR op_gt (pe_callB call_lenS (by rfl) T.len PyProof.Rows.Boot.«len» (pa_cons (pv 1) pa_nil)) pe_int (nomark _))))))))), ?_⟩
    refine ⟨_, rfl, call_B n (.cons rv .nil) rfl fun H1 e1 => ⟨_, rfl, ?_⟩⟩
    cases hL : isListed d with
    | false => exact iteT (by have := k _ e1; rw [hL] at this; exact this)
    | true =>
    rw [hL] at k
    refine iteF ⟨_, rfl, (by show 1 ≤ sizeLine; decide), fun W hW => ?_⟩
    have hW0 : H W = none := e1.free hW
    have e2 := e1.trans (Ex.new (o := HO.lst [s]) hW)
    have rv2 : R (plus N W) (upd H1 W (.lst [s])) v d := ((rv.ex e1).plus hW).ex (Ex.new hW)
    obtain ⟨a, J, rfl, sJ, wk, _⟩ := seq_wkx (K := K) rv2 hL
    have kend : ∀ (b : Bool) (H' : Hp), Ex H H' → b = toldB so sy leaf (itemsOf d) ds → Q (.bl b) H' := fun b H' e hb => by
      rw [hb]
      exact k H' e
    have kbad : ∀ i dw, (itemsOf d)[i]? = some dw → toldGo so sy leaf ((itemsOf d).take (i + 1)) [ds] = none → toldB so sy leaf (itemsOf d) ds = false := fun i dw _ hn => by
      have h2 := told_none (es := (itemsOf d).drop (i + 1)) hn
      rw [List.take_append_drop] at h2
      unfold toldB
      rw [h2]
      rfl
    refine ⟨_, rfl, a, J, rfl, sJ, for_data (N := plus N W) (fun i σ H' => ∃ (lw : Option V) (st : List PyData) (ys : List V), σ = [some z, some (.ref a), some s, some (.ref fL), some (.ref W), lw] ∧ Ex H1 H' ∧ H' W = some (.lst ys) ∧ RAll N H' ys st.reverse ∧ st.all isSort = true ∧ st.length ≤ 3 * i + 1 ∧ toldGo so sy leaf ((itemsOf d).take i) [ds] = some st) wk ?_ ?_ ?_ ?_⟩
    · exact ⟨none, [ds], [s], rfl, Ex.new hW, upd_same, .cons (rs.ex e2) .nil, by rw [List.all_cons, hso]; rfl, by show 1 ≤ _; omega, rfl⟩
    · rintro i σ H' ⟨lw, st, ys, rfl, e, hw, _⟩ b o nb _ hb
      have nb' : b ≠ W := fun z => nb (.inr z)
      rw [upd_ne nb'] at hb
      exact e b o hb
    · rintro i y dw σ H2 hj ⟨lw, st, ys, rfl, e, hw, ry, hst, hl, hgo⟩ rx
      have hdw := List.all_eq_true.mp hok dw (List.mem_of_getElem? hj)
      have hi : i < (itemsOf d).length := (List.getElem?_eq_some_iff.mp hj).1
      have hsn : toldGo so sy leaf ((itemsOf d).take (i + 1)) [ds] = (match some st with
        | some (t :: st') => if fitsB so sy leaf dw t = true then some (argsD sy dw ++ st') else none
        | _ => none) := by
        rw [take_snoc hj, told_snoc, hgo]
      have hrev : st.reverse.all isSort = true := by rw [List.all_reverse]; exact hst
      refine ⟨_, rfl, Nat.zero_le _, fun p hp => ?_⟩
      have e3 := Ex.new (o := HO.lst []) hp
      have hw3 := e3 _ _ hw
      have rW : R (fun _ => False) (upd H2 p (.lst [])) (.ref W) (.list st.reverse) := .lst hw3 (fun z => z) (atoms_any ry hrev)
      have rp : R (fun _ => False) (upd H2 p (.lst [])) (.ref p) (.list []) := .lst upd_same (fun z => z) .nil
      obtain ⟨sh1, sh2⟩ := shaped_stack hrev
      refine R.eqD rW rp sh2 rfl sh1 rfl ⟨_, rfl, ?_⟩
      rw [eqv_empty]
      cases st with
      | nil => exact iteT (kend _ _ ((e1.trans e).trans e3) (kbad i dw hj hsn).symm)
      | cons t st' =>
        have hie : (t :: st').reverse.isEmpty = false := by
          rw [List.reverse_cons]
          cases st'.reverse <;> rfl
        rw [hie]
        have hyl : ys.length = st'.length + 1 := by rw [ry.length, List.length_reverse]; rfl
        obtain ⟨yv, hy, ryv⟩ := ry.getD (i := ys.length - 1) (d := t) (by rw [hyl, List.reverse_cons, List.getElem?_append_right (by rw [List.length_reverse]; omega), List.length_reverse]; simp)
        have rdl : RAll N H2 ys.dropLast st'.reverse := by
          have := ry.dropLast
          rw [List.reverse_cons, List.dropLast_concat] at this
          exact this
        rw [List.all_cons, Bool.and_eq_true] at hst
        have e4 : Ex H1 (upd (upd H2 p (.lst [])) W (.lst ys.dropLast)) := (e.trans e3).mut hW
        have n4 := (n.ex e1).ex e4
        refine iteF ⟨_, rfl, _, rfl, _, rfl, .inl ⟨rfl, _, SqL.of hw3⟩, W, ys, yv, rfl, rfl, hw3, hy, _, rfl, N, z, y, yv, so, sy, dw, t, rfl, n4, (sa.ex' e1).ex' e4, ((rx.ex e3).upd (.inr rfl)).less, atom_any ryv hst.1, hst.1, hdw, fun H5 e5 => ⟨_, rfl, ?_⟩⟩
        have hsn : toldGo so sy leaf ((itemsOf d).take (i + 1)) [ds] = if fitsB so sy leaf dw t = true then some (argsD sy dw ++ st') else none := hsn
        have e15 := e4.trans e5
        have hw5 : H5 W = some (.lst ys.dropLast) := e5 _ _ upd_same
        cases hf : fitsB so sy leaf dw t with
        | false =>
          rw [hf] at hsn
          exact iteT (kend _ _ (e1.trans e15) (kbad i dw hj hsn).symm)
        | true =>
          rw [hf, if_pos rfl] at hsn
          have n5 := (n.ex e1).ex e15
          have sa5 := (sa.ex' e1).ex' e15
          have rx5 : R N H5 y dw := (((rx.ex e3).upd (.inr rfl)).less).ex e5
          have hrev' : st'.reverse.all isSort = true := by rw [List.all_reverse]; exact hst.2
          have rd5 : RAll N H5 ys.dropLast st'.reverse := atoms_any rdl hrev'
          have hl' : st'.length ≤ 3 * i := by
            have : st'.length + 1 ≤ 3 * i + 1 := hl
            omega
          refine iteF ⟨_, rfl, R.isStrQ rx5 ⟨_, rfl, ?_⟩⟩
          cases hs : isStr dw with
          | false =>
            have ha : argsD sy dw = [] := by
              cases dw with
              | str x => cases hs
              | _ => rfl
            rw [ha] at hsn
            exact iteF ⟨_, st', ys.dropLast, rfl, e15, hw5, rd5, hst.2, by omega, hsn⟩
          | true =>
            obtain ⟨x, rfl⟩ : ∃ x, dw = .str x := by
              cases dw with
              | str x => exact ⟨x, rfl⟩
              | _ => cases hs
            obtain ⟨r, hrow⟩ : ∃ r, rowOf sy (.str x) = some r := by
              cases hr2 : rowOf sy (.str x) with
              | none => rw [fits_none hr2] at hf; cases hf
              | some r => exact ⟨r, rfl⟩
            have ha : argsD sy (.str x) = strsD r.args := by
              show (match rowOf sy (.str x) with | some r => strsD r.args | none => []) = _
              rw [hrow]
            have hal : (strsD r.args).length ≤ 3 := by
              rw [← ha]
              exact args_len h3 _
            have has : (strsD r.args).all isSort = true := by
              rw [← ha]
              exact args_sorts sa.ok _
            rw [ha] at hsn
            obtain ⟨x', dx, _, _, _, _, rfl, hx, _⟩ := sa5.ex
            refine iteT ⟨_, rfl, .inl ⟨rfl, _, SqL.of hw5⟩, _, rfl, x', dx, _, rfl, hx, rfl, _, rfl, N, _, _, so, sy, .str x, rfl, n5, sa5, rx5, fun r' hr2 u ru => ?_, fun hn => by rw [hrow] at hn; cases hn⟩
            rw [hrow] at hr2
            cases hr2
            refine R.lstOf ru n5 rfl fun l xs H6 hl6 e6 ra6 nl hl0 => ⟨l, xs, rfl, SqL.of hl6, fun q hq => ?_⟩
            have e7 := e6.trans (Ex.new (o := HO.lst xs.reverse) hq)
            have rr : RAll N H6 (ys.dropLast ++ xs.reverse) ((strsD r.args ++ st').reverse) := by
              rw [List.reverse_append]
              exact (rd5.ex e6).append ra6.rev
            have hall : (strsD r.args ++ st').all isSort = true := by rw [List.all_append, has, hst.2]; rfl
            refine ⟨W, q, ys.dropLast, xs.reverse, rfl, rfl, e7 _ _ hw5, upd_same, ?_, ?_⟩
            · have l1 : ys.dropLast.length = st'.length := by rw [List.length_dropLast, hyl]; omega
              have l2 : xs.length = (strsD r.args).length := ra6.length
              rw [List.length_reverse, l1, l2]
              exact Nat.le_trans (by omega : _ ≤ 400000) (by decide)
            · refine ⟨_, strsD r.args ++ st', _, rfl, (e15.trans e7).mut hW, upd_same, atoms_any rr (by rw [List.all_reverse]; exact hall), hall, ?_, hsn⟩
              rw [List.length_append]
              omega
    · rintro σ H' ⟨lw, st, ys, rfl, e, hw, ry, hst, hl, hgo⟩
      rw [List.take_length] at hgo
      have hrev : st.reverse.all isSort = true := by rw [List.all_reverse]; exact hst
      refine ⟨_, rfl, Nat.zero_le _, fun p hp => ?_⟩
      have e3 := Ex.new (o := HO.lst []) hp
      have rW : R (fun _ => False) (upd H' p (.lst [])) (.ref W) (.list st.reverse) := .lst (e3 _ _ hw) (fun z => z) (atoms_any ry hrev)
      have rp : R (fun _ => False) (upd H' p (.lst [])) (.ref p) (.list []) := .lst upd_same (fun z => z) .nil
      obtain ⟨sh1, sh2⟩ := shaped_stack hrev
      refine R.eqD rW rp sh2 rfl sh1 rfl ⟨_, rfl, ?_⟩
      rw [eqv_empty]
      have e13 := e1.trans (e.trans e3)
      cases st with
      | nil =>
        refine iteT ⟨_, rfl, R.len (rv.ex e13) hL ⟨_, _, rfl, rfl, kend _ _ e13 ?_⟩⟩
        unfold toldB
        rw [hgo]
        show decide _ = (true && _)
        rw [Bool.true_and]
        exact decide_eq_decide.mpr (by omega)
      | cons t st' =>
        have hie : (t :: st').reverse.isEmpty = false := by
          rw [List.reverse_cons]
          cases st'.reverse <;> rfl
        rw [hie]
        refine iteF (kend _ _ e13 ?_)
        unfold toldB
        rw [hgo]
        rfl
end
end K1
end

section
set_option Elab.async false
set_option linter.all false
set_option maxRecDepth 100000
set_option maxHeartbeats 2000000
namespace K1
open PySem L2 Rp
/-- no datum is an instance of the class at C -/
def KitD (K : PySem.W.Frag) (C : Addr) : Prop := ∀ d : PyData, PySem.W.kitOne K (.type (tyName d)) (.ref C) = some false
theorem R.isNot {K : PySem.W.Frag} {N : Addr → Prop} {H : Hp} {Q : VK} {v : V} {d : PyData} {C : Addr} (kd : KitD K C) (r : R N H v d) (k : Q (.bl false) H) : rIsY K [v, .ref C] H Q := by
  unfold rIsY
  exact ⟨_, _, _, _, _, rfl, .own C, r.ty, kd d, k⟩
theorem SigAt.isQ {K : PySem.W.Frag} {mg : Str → Option Value} {N : Addr → Prop} {H : Hp} {Q : VK} {v : V} {C : Addr} {so : List Str} {sy : List SRow} (S : TxtS K mg C) (sa : SigAt C N H v so sy) (k : Q (.bl true) H) : rIsY K [v, .ref C] H Q := by
  unfold rIsY
  obtain ⟨x, dx, _, _, _, _, rfl, hx, _⟩ := sa.ex
  exact ⟨_, _, _, _, _, rfl, .own C, .x (.base (.ins hx S.cl S.ha S.hn S.ht S.hm)), S.own, k⟩
def spNeedSigns (C CB : Addr) : Sp := fun vs H Q E => ∃ (N : Addr → Prop) (v : V), vs = [v] ∧ NOk N H ∧ ((∃ so sy, SigAt C N H v so sy ∧ Q .non H) ∨ (∃ d, R N H v d ∧ Thr N H E CB "part" (.str "signs")))
def treeB (so : List Str) (sy : List SRow) (d ds : PyData) : Bool := isListed d && decide ((itemsOf d).length ≤ 400) && toldB so sy isThing (itemsOf d) ds
def spTree (C : Addr) : Sp := fun vs H Q _ => ∃ (N : Addr → Prop) (z v s : V) (so : List Str) (sy : List SRow) (d ds : PyData), vs = [z, v, s] ∧ NOk N H ∧ SigAt C N H z so sy ∧ (∀ r ∈ sy, r.args.length ≤ 3) ∧ R N H v d ∧ R N H s ds ∧ isSort ds = true ∧ (itemsOf d).all okThing = true ∧
  ∀ H', Ex H H' → Q (.bl (treeB so sy d ds)) H'
def spNeedTree (C CT : Addr) : Sp := fun vs H Q E => ∃ (N : Addr → Prop) (z v p : V) (so : List Str) (sy : List SRow) (d dp : PyData), vs = [z, v, p] ∧ NOk N H ∧ SigAt C N H z so sy ∧ (∀ r ∈ sy, r.args.length ≤ 3) ∧ R N H v d ∧ R N H p dp ∧ (itemsOf d).all okThing = true ∧
  (treeB so sy d .none = true → ∀ u H', Ex H H' → R N H' u (.tuple ((itemsOf d).map fixD)) → Q u H') ∧ (treeB so sy d .none = false → Thr N H E CT "part" dp)
theorem thing_fix {d : PyData} (h : isThing d = true) : okFix 3 d = true := by
  unfold isThing at h
  simp only [Bool.and_eq_true, decide_eq_true_eq] at h
  obtain ⟨⟨⟨h1, h2⟩, h3⟩, h4⟩ := h
  match hi : itemsOf d, h2 with
  | [a, b], _ =>
    rw [hi] at h3 h4
    obtain ⟨x, rfl⟩ := isName_isStr (d := a) h3
    obtain ⟨y, rfl⟩ := isName_isStr (d := b) h4
    show (!isListed d || (decide ((itemsOf d).length ≤ 100000) && (itemsOf d).all (okFix 2))) = true
    rw [h1, hi]
    rfl
theorem tree_fix {so : List Str} {sy : List SRow} {d ds : PyData} (h : treeB so sy d ds = true) : isListed d = true ∧ okFix 4 d = true := by
  unfold treeB at h
  simp only [Bool.and_eq_true, decide_eq_true_eq] at h
  obtain ⟨⟨h1, h2⟩, h3⟩ := h
  unfold toldB at h3
  have h3 := (Bool.and_eq_true_iff.mp h3).1
  refine ⟨h1, ?_⟩
  show (!isListed d || (decide ((itemsOf d).length ≤ 100000) && (itemsOf d).all (okFix 3))) = true
  have ha : (itemsOf d).all (okFix 3) = true := by
    cases hg : toldGo so sy isThing (itemsOf d) [ds] with
    | none => rw [hg] at h3; cases h3
    | some st =>
      refine List.all_eq_true.mpr fun w hw => ?_
      rcases told_words hg w hw with hs | ht
      · cases w with
        | str x => rfl
        | _ => cases hs
      · exact thing_fix ht
  rw [ha, decide_eq_true (by omega), h1]
  rfl
section
variable {P : Program} {w : World} {K : PySem.W.Frag} {mg : Str → Option Value} {base : Heap} {f fL : Addr} {fd : FuncData} {C CB CT CN fB ccB cdB fT ccT cdT : Addr}
theorem sc_need_signs : FnScope ["value"] ["value"] (C8.fnScope (topS 34)) := C8.fnScope_by (by decide +kernel)
theorem ok_need_signs (D : C8.Def K mg "need_signs" (topS 34) f fd) (b : Binds K fd ["value"] []) (T : TxtB K mg) (S : TxtS K mg C) (kd : KitD K C) (X_BadSigns : Xc K mg "BadSigns" "part" CB fB ccB cdB) (XG : XProg P mg) : CalX P w K mg base 3 "need_signs" (spNeedSigns C CB) [] :=
  calX D b .nil sc_need_signs (fun vs H Q E h => by obtain ⟨N, v, rfl, _⟩ := h; rfl) fun cdv A outer s0 H vs Q E hr h => by
    obtain ⟨N, v, rfl, n, h⟩ := h
    have m_Signs := S.m
    have tX := takes_of (X := cxOf (L2.CX P w) P w K mg base ["value"] "need_signs" (C8.fnScope (topS 34)) f cdv A outer s0 H E) rfl rfl rfl rfl
    refine ⟨_, (pss_one (ps_if (pt_not (pt_val (pe_callB call_isY (by rfl) T.isinstance PyProof.Rows.Boot.«isinstance» (pa_cons (pv 0) (pa_cons (pe_glob (v := .ref C) rfl m_Signs rfl) pa_nil)))))
      (pss_one (ps_raise1 rfl X_BadSigns.t XG hr tX X_BadSigns.m (pa_cons pe_str pa_nil)))
      pss_nil)), ?_⟩
    rcases h with ⟨so, sy, sa, k⟩ | ⟨d, r, k⟩
    · exact ⟨_, rfl, SigAt.isQ S sa ⟨_, rfl, iteF k⟩⟩
    · exact ⟨_, rfl, R.isNot kd r ⟨_, rfl, iteT ⟨_, rfl, k.go (Ex.refl H) (.str _)⟩⟩⟩
theorem sc_is_tree : FnScope ["signs", "value", "sort"] ["signs", "value", "sort"] (C8.fnScope (topS 47)) := C8.fnScope_by (by decide +kernel)
theorem ok_is_treeF (D : C8.Fun K "is_tree" "is_tree" (topS 47) f fd) (T : TxtB K mg) (mW : ∃ t, mg "MOST_WORDS" = some (.int 400 t)) (m_is_thing : mg "is_thing" = some (.ref fL)) (G_is_listed : C8.Cal P w K mg base 1 "is_listed" (spP F_is_listed) [])
    (G_is_told : C8.Cal P w K mg base 6 "is_told" (spTold C fL isThing) []) : FnOk P w K mg base C8.CX0 7 f fd ["signs", "value", "sort"] (spTree C) :=
  C8.fn0 D sc_is_tree (fun vs H Q E h => by obtain ⟨N, z, v, s, so, sy, d, ds, rfl, _⟩ := h; rfl) fun cdv A outer s0 H vs Q E hr h => by
    obtain ⟨N, z, v, s, so, sy, d, ds, rfl, n, sa, h3, rv, rs, hso, hok, k⟩ := h
    obtain ⟨tW, m_MOST_WORDS⟩ := mW
    refine ⟨_, (pss_one (ps_ret (pe_and (C8.pe_c G_is_listed hr (by decide) (by rfl) (pa_cons (pv 1) pa_nil)) (pe_and (pe_cmpR op_le (pe_callB call_lenS (by rfl) T.len PyProof.Rows.Boot.«len» (pa_cons (pv 1) pa_nil)) (pe_glob (v := .int 400) rfl m_MOST_WORDS ⟨_, rfl⟩) (nomark _)) (pe_one (C8.pe_c G_is_told hr (by decide) (by rfl) (pa_cons (pv 0) (pa_cons (pv 1) (pa_cons (pv 2) (pa_cons (pe_glob (v := .ref fL) rfl m_is_thing rfl) pa_nil)))))))))), ?_⟩
    refine ⟨_, rfl, call_B n (.cons rv .nil) rfl fun H1 e1 => ⟨_, rfl, ?_⟩⟩
    have kf : ∀ (b : Bool) (H' : Hp), Ex H H' → b = treeB so sy d ds → Q (.bl b) H' := fun b H' e hb => by
      rw [hb]
      exact k H' e
    unfold treeB at kf
    cases hL : isListed d with
    | false => exact iteF (kf _ _ e1 (by rw [hL]; rfl))
    | true =>
    rw [hL] at kf
    refine iteT ⟨_, rfl, R.len (rv.ex e1) hL ⟨_, _, rfl, rfl, _, rfl, ?_⟩⟩
    refine ite2 (fun c => ?_) (fun c => ?_)
    · have c' : (itemsOf d).length ≤ 400 := by have := of_decide_eq_true c; omega
      rw [decide_eq_true c'] at kf
      refine ⟨_, rfl, _, rfl, _, rfl, N, z, v, s, so, sy, d, ds, rfl, n.ex e1, sa.ex' e1, h3, rv.ex e1, rs.ex e1, hso, hok, by omega, fun H2 e2 => ?_⟩
      exact kf _ _ (e1.trans e2) (by rw [hL]; rfl)
    · have c' : ¬ (itemsOf d).length ≤ 400 := fun q => c (decide_eq_true (by omega))
      exact kf _ _ e1 (by rw [decide_eq_false c']; rfl)
theorem sc_need_tree : FnScope ["signs", "value", "part"] ["signs", "value", "part"] (C8.fnScope (topS 48)) := C8.fnScope_by (by decide +kernel)
theorem ok_need_treeF (D : C8.Fun K "need_tree" "need_tree" (topS 48) f fd) (T : TxtB K mg) (X_BadTree : Xc K mg "BadTree" "part" CT fT ccT cdT) (XG : XProg P mg) (G_is_tree : C8.Cal P w K mg base 7 "is_tree" (spTree C) [.non]) (G_fixed : C8.Cal P w K mg base 4 "fixed" (spP (F_fixed 4)) []) :
    FnOk P w K mg base (L2.CX P w) 8 f fd ["signs", "value", "part"] (spNeedTree C CT) :=
  fnX D sc_need_tree (fun vs H Q E h => by obtain ⟨N, z, v, p, so, sy, d, dp, rfl, _⟩ := h; rfl) fun cdv A outer s0 H vs Q E hr h => by
    obtain ⟨N, z, v, p, so, sy, d, dp, rfl, n, sa, h3, rv, rp, hok, k1, k2⟩ := h
    have tX := takes_of (X := cxOf (L2.CX P w) P w K mg base ["signs", "value", "part"] "need_tree" (C8.fnScope (topS 48)) f cdv A outer s0 H E) rfl rfl rfl rfl
    refine ⟨_, (pss_cons (ps_if (pt_not (pt_val (C8.pe_c G_is_tree hr (by decide) (by rfl) (pa_cons (pv 0) (pa_cons (pv 1) pa_nil)))))
      (pss_one (ps_raise1 rfl X_BadTree.t XG hr tX X_BadTree.m (pa_cons (pv 2) pa_nil)))
      pss_nil)
      (pss_one (ps_ret (C8.pe_c G_fixed hr (by decide) (by rfl) (pa_cons (pv 1) pa_nil))))), ?_⟩
    refine ⟨_, rfl, _, rfl, N, z, v, .non, so, sy, d, .none, rfl, n, sa, h3, rv, .non, rfl, hok, fun H1 e1 => ⟨_, rfl, ?_⟩⟩
    cases ht : treeB so sy d .none with
    | false => exact iteT ⟨_, rfl, _, rfl, (k2 ht).go e1 (rp.ex e1)⟩
    | true =>
      obtain ⟨hL, hf⟩ := tree_fix ht
      refine iteF ⟨_, rfl, call_P (n.ex e1) (.cons (rv.ex e1) .nil) (F_fixed_some hf) fun u H2 e2 ru => ?_⟩
      rw [fixD_seq hL] at ru
      exact k1 ht u H2 (e1.trans e2) ru
end
end K1
end

section
set_option Elab.async false
set_option linter.all false
set_option maxRecDepth 100000
set_option maxHeartbeats 2000000
namespace Rp
open PySem L2
@[irreducible] def rCatAY (K : PySem.W.Frag) : R2 := rCatA K
theorem op_catAY {X : Cx} : OpR X (binaryOp .Add) (rCatAY X.K) := by
  unfold rCatAY
  exact op_catA
@[irreducible] def rSlTY (K : PySem.W.Frag) : V → Option Int → Option Int → Hp → VK → Prop := rSlA K
theorem sl_tupY {X : Cx} : SlR X (rSlTY X.K) := by
  unfold rSlTY
  exact sl_tupA
section
variable {K : PySem.W.Frag} {N : Addr → Prop} {H : Hp} {Q : VK} {v u : V} {ds es : List PyData}
/-- tuple + tuple -/
theorem R.catT (r : R N H v (.tuple ds)) (s : R N H u (.tuple es)) (n : NOk N H) (hl : ds.length + es.length ≤ 100000) (k : ∀ x H', Ex H H' → R N H' x (.tuple (ds ++ es)) → Q x H') : rCatAY K v u H Q := by
  unfold rCatAY
  cases r with
  | tup e1 n1 q1 =>
    cases s with
    | tup e2 n2 q2 =>
      have l1 := q1.length
      have l2 := q2.length
      refine ⟨_, _, _, _, rfl, rfl, SqT.of e1, SqT.of e2, Nat.le_trans (by omega : _ ≤ 100000) (by decide), fun hx => ?_, fun _ hy => ?_, fun _ _ p hp => k _ _ (Ex.new hp) ((q1.append q2).tupR n hp)⟩
      · have hd : ds = [] := by
          subst hx
          exact List.eq_nil_of_length_eq_zero l1.symm
        subst hd
        exact k _ H (Ex.refl H) (.tup e2 n2 q2)
      · have hd : es = [] := by
          subst hy
          exact List.eq_nil_of_length_eq_zero l2.symm
        subst hd
        rw [List.append_nil] at k
        exact k _ H (Ex.refl H) (.tup e1 n1 q1)
/-- a slice of a tuple -/
theorem R.sliceT {lo hi : Option Int} (r : R N H v (.tuple ds)) (n : NOk N H) (q : ∀ x H', Ex H H' → R N H' x (.tuple ((ds.drop (HT.sIx ds.length 0 lo)).take (HT.sIx ds.length ds.length hi - HT.sIx ds.length 0 lo))) → Q x H') : rSlTY K v lo hi H Q := by
  unfold rSlTY
  cases r with
  | tup e1 n1 q1 =>
    have l1 := q1.length
    refine ⟨_, _, rfl, SqT.of e1, fun hw => ?_, fun _ p hp => q _ _ (Ex.new hp) ?_⟩
    · rw [l1] at hw
      rw [hw.1, hw.2, List.drop_zero, Nat.sub_zero, List.take_length] at q
      exact q _ H (Ex.refl H) (.tup e1 n1 q1)
    · unfold cutV
      rw [l1]
      exact ((q1.drop _).take _).tupR n hp
end
/-- the middle of a list -/
theorem slice_mid {α : Type} {ds : List α} {i j : Nat} (h1 : i ≤ j) (h2 : j ≤ ds.length) : (ds.drop (HT.sIx ds.length 0 (some (i : Int)))).take (HT.sIx ds.length ds.length (some (j : Int)) - HT.sIx ds.length 0 (some (i : Int))) = (ds.drop i).take (j - i) := by
  rw [HT.sIx_nat, HT.sIx_nat, Nat.min_eq_left h2, Nat.min_eq_left (by omega)]
theorem slice_front {α : Type} {ds : List α} {j : Nat} (h2 : j ≤ ds.length) : (ds.drop (HT.sIx ds.length 0 none)).take (HT.sIx ds.length ds.length (some (j : Int)) - HT.sIx ds.length 0 none) = ds.take j := by
  rw [HT.sIx_none, HT.sIx_nat, Nat.min_eq_left h2, List.drop_zero, Nat.sub_zero]
theorem slice_back {α : Type} {ds : List α} {i : Nat} (h2 : i ≤ ds.length) : (ds.drop (HT.sIx ds.length 0 (some (i : Int)))).take (HT.sIx ds.length ds.length none - HT.sIx ds.length 0 (some (i : Int))) = ds.drop i := by
  rw [HT.sIx_nat, Nat.min_eq_left h2]
  have : HT.sIx ds.length ds.length none = ds.length := rfl
  rw [this]
  exact List.take_of_length_le (by rw [List.length_drop]; exact Nat.le_refl _)
end Rp
namespace K1
open PySem L2 Rp
/-! ### plain: where a part ends -/
def ar (sy : List SRow) (dw : PyData) : Nat := (argsD sy dw).length
/-- what is left behind so many parts -/
def skip (sy : List SRow) : List PyData → Nat → Option (List PyData)
  | ws, 0 => some ws
  | [], _ + 1 => none
  | w :: r, n + 1 => skip sy r (n + ar sy w)
theorem skip_zero {sy : List SRow} (ws : List PyData) : skip sy ws 0 = some ws := by cases ws <;> rfl
theorem skip_add {sy : List SRow} : ∀ {ws : List PyData} {m n : Nat}, skip sy ws (m + n) = (skip sy ws m).bind fun r => skip sy r n
  | ws, 0, n => by rw [Nat.zero_add, skip_zero]; rfl
  | [], m + 1, n => by
    rw [show m + 1 + n = (m + n) + 1 by omega]
    rfl
  | w :: r, m + 1, n => by
    rw [show m + 1 + n = (m + n) + 1 by omega]
    show skip sy r (m + n + ar sy w) = (skip sy r (m + ar sy w)).bind fun r => skip sy r n
    rw [show m + n + ar sy w = (m + ar sy w) + n by omega]
    exact skip_add
theorem skip_drop {sy : List SRow} : ∀ {ws rest : List PyData} {n : Nat}, skip sy ws n = some rest → ∃ j, j ≤ ws.length ∧ rest = ws.drop j ∧ (1 ≤ n → 1 ≤ j)
  | ws, rest, 0, h => by
    rw [skip_zero] at h
    cases h
    exact ⟨0, Nat.zero_le _, rfl, fun z => by omega⟩
  | [], rest, n + 1, h => by cases h
  | w :: r, rest, n + 1, h => by
    obtain ⟨j, h1, h2, _⟩ := skip_drop (ws := r) h
    exact ⟨j + 1, by rw [List.length_cons]; omega, h2, fun _ => by omega⟩
theorem told_skip {so : List Str} {sy : List SRow} {leaf : PyData → Bool} : ∀ {ws st : List PyData} {n : Nat}, toldGo so sy leaf ws st = some [] → n ≤ st.length → ∃ rest, skip sy ws n = some rest
  | ws, st, 0, _, _ => ⟨ws, skip_zero ws⟩
  | [], st, n + 1, h, hn => by
    have h : some st = some [] := h
    cases h
    cases hn
  | w :: r, [], n + 1, h, hn => by cases hn
  | w :: r, t :: st, n + 1, h, hn => by
    have h : (if fitsB so sy leaf w t = true then toldGo so sy leaf r (argsD sy w ++ st) else none) = some [] := h
    by_cases c : fitsB so sy leaf w t = true
    · rw [if_pos c] at h
      exact told_skip (ws := r) (n := n + ar sy w) h (by
        rw [List.length_append]
        have : n + 1 ≤ st.length + 1 := hn
        show n + (argsD sy w).length ≤ _
        omega)
    · rw [if_neg c] at h
      cases h
/-- at each place of a told row stands a part -/
theorem told_part {so : List Str} {sy : List SRow} {leaf : PyData → Bool} : ∀ {ws st : List PyData} {k : Nat}, toldGo so sy leaf ws st = some [] → k < ws.length → ∃ rest, skip sy (ws.drop k) 1 = some rest
  | [], _, k, _, hk => by cases hk
  | w :: r, [], k, h, _ => by cases h
  | w :: r, t :: st, 0, h, _ => told_skip (ws := w :: r) (st := t :: st) (n := 1) h (by show 1 ≤ st.length + 1; omega)
  | w :: r, t :: st, k + 1, h, hk => by
    have h : (if fitsB so sy leaf w t = true then toldGo so sy leaf r (argsD sy w ++ st) else none) = some [] := h
    by_cases c : fitsB so sy leaf w t = true
    · rw [if_pos c] at h
      exact told_part (ws := r) (k := k) h (by have : k + 1 < r.length + 1 := hk; omega)
    · rw [if_neg c] at h
      cases h
/-- the place behind the part at k -/
def endOf (sy : List SRow) (ws : List PyData) (k : Nat) : Nat := match skip sy (ws.drop k) 1 with
  | some rest => ws.length - rest.length
  | none => k + 1
theorem end_facts {sy : List SRow} {ws rest : List PyData} {k : Nat} (hk : k < ws.length) (h : skip sy (ws.drop k) 1 = some rest) : endOf sy ws k = ws.length - rest.length ∧ k < endOf sy ws k ∧ endOf sy ws k ≤ ws.length ∧ rest = ws.drop (endOf sy ws k) := by
  have e : endOf sy ws k = ws.length - rest.length := by
    unfold endOf
    rw [h]
  obtain ⟨j, h1, h2, h3⟩ := skip_drop h
  have h3 := h3 (Nat.le_refl _)
  rw [List.length_drop] at h1
  have hl : rest.length = ws.length - (k + j) := by rw [h2, List.drop_drop, List.length_drop]
  refine ⟨e, by omega, by omega, ?_⟩
  rw [h2, List.drop_drop]
  congr 1
  omega
def knownW (sy : List SRow) (dw : PyData) : Bool := !isStr dw || (rowOf sy dw).isSome
end K1
end

section
set_option Elab.async false
set_option linter.all false
set_option maxRecDepth 100000
set_option maxHeartbeats 2000000
namespace K1
open PySem L2 Rp
theorem known_row {sy : List SRow} {x : Str} (h : knownW sy (.str x) = true) : ∃ r, rowOf sy (.str x) = some r := by
  have h : (false || (rowOf sy (.str x)).isSome) = true := h
  rw [Bool.false_or] at h
  exact Option.isSome_iff_exists.mp h
theorem args_row {sy : List SRow} {x : Str} {r : SRow} (h : rowOf sy (.str x) = some r) : argsD sy (.str x) = strsD r.args := by
  show (match rowOf sy (.str x) with | some r => strsD r.args | none => []) = _
  rw [h]
theorem str_is {d : PyData} (h : isStr d = true) : ∃ x, d = .str x := by
  cases d with
  | str x => exact ⟨x, rfl⟩
  | _ => cases h
theorem args_not {sy : List SRow} {d : PyData} (h : isStr d = false) : argsD sy d = [] := by
  cases d with
  | str x => cases h
  | _ => rfl
def sortW (sy : List SRow) (dw : PyData) : Option Str := match dw with
  | .str x => (rowOf sy (.str x)).map (·.sort)
  | d => if isThing d = true then some (strOf ((itemsOf d).getD 0 .none)) else none
def spArity (C : Addr) : Sp := fun vs H Q _ => ∃ (N : Addr → Prop) (z v : V) (so : List Str) (sy : List SRow) (dw : PyData), vs = [z, v] ∧ NOk N H ∧ SigAt C N H z so sy ∧ R N H v dw ∧ knownW sy dw = true ∧ Q (.int (ar sy dw)) H
def spSortAt (C : Addr) : Sp := fun vs H Q _ => ∃ (N : Addr → Prop) (z v : V) (so : List Str) (sy : List SRow) (dw : PyData) (t : Str), vs = [z, v] ∧ NOk N H ∧ SigAt C N H z so sy ∧ R N H v dw ∧ sortW sy dw = some t ∧ Q (.str t) H
def spBehind (C : Addr) : Sp := fun vs H Q _ => ∃ (N : Addr → Prop) (z v : V) (so : List Str) (sy : List SRow) (ws rest : List PyData) (k : Nat), vs = [z, v, .int (k : Int)] ∧ NOk N H ∧ SigAt C N H z so sy ∧ R N H v (.tuple ws) ∧ ws.all (knownW sy) = true ∧ k < ws.length ∧ skip sy (ws.drop k) 1 = some rest ∧
  ∀ H', Ex H H' → Q (.int (endOf sy ws k : Int)) H'
section
variable {P : Program} {w : World} {K : PySem.W.Frag} {mg : Str → Option Value} {base : Heap} {f fL : Addr} {fd : FuncData} {C CB CT CN : Addr}
theorem sc_arity : FnScope ["signs", "word"] ["signs", "word"] (C8.fnScope (topS 38)) := C8.fnScope_by (by decide +kernel)
theorem ok_arity (D : C8.Def K mg "arity" (topS 38) f fd) (b : Binds K fd ["signs", "word"] []) (T : TxtB K mg) (S : TxtS K mg C) : C8.Cal P w K mg base 1 "arity" (spArity C) [] :=
  C8.cal0 D b .nil sc_arity (fun vs H Q E h => by obtain ⟨N, z, v, so, sy, dw, rfl, _⟩ := h; rfl) fun cdv A outer s0 H vs Q E hr h => by
    obtain ⟨N, z, v, so, sy, dw, rfl, n, sa, rv, hk, k⟩ := h
    refine ⟨_, (pss_one (ps_ret (pe_ifExp (pt_val (pe_callB call_isY (by rfl) T.isinstance PyProof.Rows.Boot.«isinstance» (pa_cons (pv 1) (pa_cons (pe_bltn (v := .ty "str") rfl T.str PyProof.Rows.Boot.«str» rfl) pa_nil)))) (pe_callB call_lenS (by rfl) T.len PyProof.Rows.Boot.«len» (pa_cons (pe_ix (show IxR _ (rIxY K) from ix_Y) (pe_dget (Nat.lt_of_le_of_lt (Nat.add_le_add_left (by decide) _) hr.units) (pe_fld (pv 0) rfl) (pv 1) (fun _ _ => rfl)) pe_int (fun _ _ => rfl)) pa_nil)) pe_int))), ?_⟩
    refine ⟨_, rfl, R.isStrQ rv ⟨_, rfl, ?_⟩⟩
    cases hs : isStr dw with
    | false =>
      have e : ar sy dw = 0 := by unfold ar; rw [args_not hs]; rfl
      rw [e] at k
      exact iteF k
    | true =>
      obtain ⟨x, rfl⟩ := str_is hs
      obtain ⟨r, hrow⟩ := known_row hk
      have ev := rv.strv
      subst ev
      refine iteT (part_go sa hrow fun x1 dx kk vso vsy rv1 kvs ea hx hkk hv rr => ?_)
      subst ea
      refine ⟨_, rfl, x1, C, dx, _, .ref kk, rfl, hx, S.cl, S.n3, rfl, _, rfl, kk, rv1, rfl, by rw [← hv]; exact DGet.k (k := Sum.inr x) hkk, R.ix rr rfl (by decide) rfl fun u ru => R.len ru rfl ?_⟩
      have e : ar sy (.str x) = (strsD r.args).length := by unfold ar; rw [args_row hrow]
      rw [e] at k
      exact k
theorem sc_sort_at : FnScope ["signs", "word"] ["signs", "word"] (C8.fnScope (topS 39)) := C8.fnScope_by (by decide +kernel)
theorem ok_sort_at (D : C8.Def K mg "sort_at" (topS 39) f fd) (b : Binds K fd ["signs", "word"] []) (T : TxtB K mg) (S : TxtS K mg C) (M_sort_of : MetX P w K mg base 4 C "sort_of" (spPart C CN fun r => .str r.sort) []) : C8.Cal P w K mg base 5 "sort_at" (spSortAt C) [] :=
  C8.cal0 D b .nil sc_sort_at (fun vs H Q E h => by obtain ⟨N, z, v, so, sy, dw, t, rfl, _⟩ := h; rfl) fun cdv A outer s0 H vs Q E hr h => by
    obtain ⟨N, z, v, so, sy, dw, t, rfl, n, sa, rv, ht, k⟩ := h
    refine ⟨_, (pss_cons (ps_if (pt_val (pe_callB call_isY (by rfl) T.isinstance PyProof.Rows.Boot.«isinstance» (pa_cons (pv 1) (pa_cons (pe_bltn (v := .ty "str") rfl T.str PyProof.Rows.Boot.«str» rfl) pa_nil))))
      (pss_one (ps_ret (pe_mtX M_sort_of hr (by decide) p0 (pv 0) (pa_cons (pv 1) pa_nil))))
      pss_nil)
      (pss_one (ps_ret (pe_ifExp (pt_cmpR op_eq (pe_callB call_lenS (by rfl) T.len PyProof.Rows.Boot.«len» (pa_cons (pv 1) pa_nil)) pe_int (nomark _)) (pe_ix (show IxR _ (rIxY K) from ix_Y) (pv 1) pe_int (fun _ _ => rfl)) pe_non)))), ?_⟩
    refine ⟨_, rfl, R.isStrQ rv ⟨_, rfl, ?_⟩⟩
    cases hs : isStr dw with
    | false =>
      have ht : (if isThing dw = true then some (strOf ((itemsOf dw).getD 0 .none)) else none) = some t := by
        cases dw with
        | str x => cases hs
        | _ => exact ht
      have hth : isThing dw = true := by
        by_cases c : isThing dw = true
        · exact c
        · rw [if_neg c] at ht
          cases ht
      rw [if_pos hth] at ht
      cases ht
      obtain ⟨hL, x, hx⟩ := thing_leaf.seq dw hth
      have hl2 : (itemsOf dw).length = 2 := by
        unfold isThing at hth
        simp only [Bool.and_eq_true, decide_eq_true_eq] at hth
        exact hth.1.1.2
      refine iteF ⟨_, rfl, R.len rv hL ⟨rfl, _, rfl, ?_⟩⟩
      rw [dec_int, decide_eq_true (by omega)]
      refine iteT ⟨_, rfl, R.ix rv hL (by decide) hx fun u ru => ?_⟩
      rw [ru.strv]
      have hg : (itemsOf dw).getD 0 .none = .str x := by
        rw [List.getD_eq_getElem?_getD, hx]
        rfl
      rw [hg] at k
      exact k
    | true =>
      obtain ⟨x, rfl⟩ := str_is hs
      have ht : (rowOf sy (.str x)).map (·.sort) = some t := ht
      obtain ⟨r, hrow, rfl⟩ := Option.map_eq_some_iff.mp ht
      obtain ⟨x1, dx, _, _, _, _, rfl, hx, _⟩ := sa.ex
      refine iteT ⟨_, rfl, x1, dx, _, rfl, hx, rfl, _, rfl, N, _, _, so, sy, .str x, rfl, n, sa, rv, fun r' hr2 u ru => ?_, fun hn => by rw [hrow] at hn; cases hn⟩
      rw [hrow] at hr2
      cases hr2
      rw [ru.strv]
      exact k
theorem sc_behind : FnScope ["signs", "row", "spot", "wanted", "at"] ["signs", "row", "spot"] (C8.fnScope (topS 40)) := C8.fnScope_by (by decide +kernel)
theorem ok_behind (D : C8.Def K mg "behind" (topS 40) f fd) (b : Binds K fd ["signs", "row", "spot"] []) (T : TxtB K mg) (G_arity : C8.Cal P w K mg base 1 "arity" (spArity C) []) : C8.Cal P w K mg base 2 "behind" (spBehind C) [] :=
  C8.cal0 D b .nil sc_behind (fun vs H Q E h => by obtain ⟨N, z, v, so, sy, ws, rest, k, rfl, _⟩ := h; rfl) fun cdv A outer s0 H vs Q E hr h => by
    obtain ⟨N, z, v, so, sy, ws, rest, k, rfl, n, sa, rv, hall, hk, hsk, q⟩ := h
    refine ⟨_, (pss_cons (ps_par (i := 3) (j := 4) rfl sc_behind.nd rfl rfl (by decide) rfl rfl (pa_cons pe_int (pa_cons (pv 2) pa_nil)) rfl)
      (pss_cons (ps_while PassesOwn.never (pt_cmpR op_gt (pv 3) pe_int (nomark _))
      (pss_cons (ps_set (i := 3) sc_behind.nd rfl (by first | exact Or.inl rfl | exact Or.inr rfl) (pe_op op_sub (pe_op op_add (pv 3) (C8.pe_c G_arity hr (by decide) (by rfl) (pa_cons (pv 0) (pa_cons (pe_ix (show IxR _ (rIxY K) from ix_Y) (pv 1) (pv 4) (fun _ _ => rfl)) pa_nil)))) pe_int))
      (pss_one (ps_set (i := 4) sc_behind.nd rfl (by first | exact Or.inl rfl | exact Or.inr rfl) (pe_op op_add (pv 4) pe_int)))))
      (pss_one (ps_ret (pv 4))))), ?_⟩
    refine ⟨_, rfl, _, _, rfl, ?_⟩
    obtain ⟨he, _, _, _⟩ := end_facts hk hsk
    refine ⟨fun m σ H' => ∃ (c at_ : Nat), σ = [some z, some v, some (.int (k : Int)), some (.int (c : Int)), some (.int (at_ : Int))] ∧ Ex H H' ∧ at_ ≤ ws.length ∧ skip sy (ws.drop at_) c = some rest ∧ m = ws.length - at_, ⟨_, 1, k, rfl, Ex.refl H, by omega, hsk, rfl⟩, ?_⟩
    rintro m σ H' ⟨c, at_, rfl, e, hat, hs, rfl⟩
    refine ⟨_, rfl, _, _, rfl, rfl, _, rfl, ?_⟩
    cases c with
    | zero =>
      rw [skip_zero] at hs
      have hr' : rest = ws.drop at_ := (Option.some.inj hs).symm
      refine iteF ⟨_, rfl, ?_⟩
      have hl : at_ = endOf sy ws k := by
        rw [he, hr', List.length_drop]
        omega
      rw [hl]
      exact q _ e
    | succ c =>
      rw [show decide ((0 : Int) < ((c + 1 : Nat) : Int)) = true from decide_eq_true (by omega)]
      have hlt : at_ < ws.length := by
        by_cases z : at_ < ws.length
        · exact z
        · rw [List.drop_eq_nil_of_le (by omega)] at hs
          cases hs
      have hdr : ws.drop at_ = ws[at_] :: ws.drop (at_ + 1) := List.drop_eq_getElem_cons hlt
      rw [hdr] at hs
      have hs : skip sy (ws.drop (at_ + 1)) (c + ar sy ws[at_]) = some rest := hs
      refine iteT ⟨fun σ' H'' => ∃ m', m' < ws.length - at_ ∧ ∃ (c at_ : Nat), σ' = [some z, some v, some (.int (k : Int)), some (.int (c : Int)), some (.int (at_ : Int))] ∧ Ex H H'' ∧ at_ ≤ ws.length ∧ skip sy (ws.drop at_) c = some rest ∧ m' = ws.length - at_, fun _ _ h => h, ?_⟩
      refine ⟨_, rfl, _, rfl, _, rfl, _, rfl, R.ix (rv.ex e) rfl (by omega) (e := ws[at_]) (by show ws[((at_ : Nat) : Int).toNat]? = _; rw [Int.toNat_natCast]; exact List.getElem?_eq_getElem hlt) fun y ry => ?_⟩
      refine ⟨N, z, y, so, sy, ws[at_], rfl, n.ex e, sa.ex' e, ry, List.all_eq_true.mp hall _ (List.getElem_mem hlt), ?_⟩
      refine ⟨_, _, rfl, rfl, _, _, rfl, rfl, _, rfl, _, _, rfl, rfl, ?_⟩
      refine ⟨_, by omega, c + ar sy ws[at_], at_ + 1, ?_, e, by omega, hs, rfl⟩
      have h1 : ((c + 1 : Nat) : Int) + (ar sy ws[at_] : Int) - 1 = ((c + ar sy ws[at_] : Nat) : Int) := by omega
      have h2 : (at_ : Int) + 1 = ((at_ + 1 : Nat) : Int) := by omega
      show [some z, some v, some (V.int (k : Int)), some (V.int (((c + 1 : Nat) : Int) + (ar sy ws[at_] : Int) - 1)), some (V.int ((at_ : Int) + 1))] = _
      rw [h1, h2]
end
end K1
end

section
set_option Elab.async false
set_option linter.all false
set_option maxRecDepth 100000
set_option maxHeartbeats 2000000
namespace K1
open PySem L2 Rp
/-- the part at k -/
def partW (sy : List SRow) (ws : List PyData) (k : Nat) : List PyData := (ws.drop k).take (endOf sy ws k - k)
def partsP (sy : List SRow) (ws : List PyData) : Nat → Nat → List PyData
  | _, 0 => []
  | at_, n + 1 => .tuple (partW sy ws at_) :: partsP sy ws (endOf sy ws at_) n
def atP (sy : List SRow) (ws : List PyData) : Nat → Nat → Nat
  | at_, 0 => at_
  | at_, n + 1 => atP sy ws (endOf sy ws at_) n
theorem atP_succ (sy : List SRow) (ws : List PyData) : ∀ (at_ n : Nat), atP sy ws at_ (n + 1) = endOf sy ws (atP sy ws at_ n)
  | at_, 0 => rfl
  | at_, n + 1 => by
    show atP sy ws (endOf sy ws at_) (n + 1) = endOf sy ws (atP sy ws (endOf sy ws at_) n)
    exact atP_succ sy ws _ n
theorem partsP_snoc (sy : List SRow) (ws : List PyData) : ∀ (at_ n : Nat), partsP sy ws at_ (n + 1) = partsP sy ws at_ n ++ [.tuple (partW sy ws (atP sy ws at_ n))]
  | at_, 0 => rfl
  | at_, n + 1 => by
    show .tuple (partW sy ws at_) :: partsP sy ws (endOf sy ws at_) (n + 1) = .tuple (partW sy ws at_) :: (partsP sy ws (endOf sy ws at_) n ++ [.tuple (partW sy ws (atP sy ws (endOf sy ws at_) n))])
    rw [partsP_snoc sy ws _ n]
theorem skip_need {sy : List SRow} : ∀ {ws rest : List PyData} {n : Nat}, skip sy ws n = some rest → n ≤ ws.length
  | ws, _, 0, _ => Nat.zero_le _
  | [], _, n + 1, h => by cases h
  | w :: r, rest, n + 1, h => by
    have := skip_need (ws := r) (n := n + ar sy w) h
    rw [List.length_cons]
    omega
/-- so many parts one behind another -/
theorem atP_skip {sy : List SRow} {ws : List PyData} : ∀ {n at_ : Nat} {rest : List PyData}, at_ ≤ ws.length → skip sy (ws.drop at_) n = some rest → ∀ j, j < n → atP sy ws at_ j < ws.length ∧ ∃ r1, skip sy (ws.drop (atP sy ws at_ j)) 1 = some r1
  | 0, _, _, _, _, j, h => by cases h
  | n + 1, at_, rest, hl, h, j, hj => by
    rw [show n + 1 = 1 + n by omega, skip_add] at h
    cases h1 : skip sy (ws.drop at_) 1 with
    | none => rw [h1] at h; cases h
    | some r1 =>
      rw [h1] at h
      have h : skip sy r1 n = some rest := h
      have hlt : at_ < ws.length := by
        by_cases z : at_ < ws.length
        · exact z
        · rw [List.drop_eq_nil_of_le (by omega)] at h1
          cases h1
      obtain ⟨_, _, e3, e4⟩ := end_facts hlt h1
      cases j with
      | zero => exact ⟨hlt, r1, h1⟩
      | succ j =>
        rw [e4] at h
        exact atP_skip (n := n) e3 h j (by omega)
def spSubtree (C : Addr) : Sp := fun vs H Q _ => ∃ (N : Addr → Prop) (z v : V) (so : List Str) (sy : List SRow) (ws rest : List PyData) (k : Nat), vs = [z, v, .int (k : Int)] ∧ NOk N H ∧ SigAt C N H z so sy ∧ R N H v (.tuple ws) ∧ ws.all (knownW sy) = true ∧ k < ws.length ∧ skip sy (ws.drop k) 1 = some rest ∧
  ∀ u H', Ex H H' → R N H' u (.tuple (partW sy ws k)) → Q u H'
def spReplaced (C : Addr) : Sp := fun vs H Q _ => ∃ (N : Addr → Prop) (z v o : V) (so : List Str) (sy : List SRow) (ws rest os : List PyData) (k : Nat), vs = [z, v, .int (k : Int), o] ∧ NOk N H ∧ SigAt C N H z so sy ∧ R N H v (.tuple ws) ∧ R N H o (.tuple os) ∧ ws.length ≤ 10000 ∧ os.length ≤ 10000 ∧ ws.all (knownW sy) = true ∧ k < ws.length ∧ skip sy (ws.drop k) 1 = some rest ∧
  ∀ u H', Ex H H' → R N H' u (.tuple (ws.take k ++ os ++ ws.drop (endOf sy ws k))) → Q u H'
def spPartsOf (C : Addr) : Sp := fun vs H Q _ => ∃ (N : Addr → Prop) (z v : V) (so : List Str) (sy : List SRow) (dw : PyData) (r rest : List PyData), vs = [z, v] ∧ NOk N H ∧ SigAt C N H z so sy ∧ R N H v (.tuple (dw :: r)) ∧ (dw :: r).all (knownW sy) = true ∧ r.length ≤ 10000 ∧ skip sy r (ar sy dw) = some rest ∧
  ∀ u H', Ex H H' → R N H' u (.list (partsP sy (dw :: r) 1 (ar sy dw))) → Q u H'
def spInner (C : Addr) : Sp := fun vs H Q _ => ∃ (N : Addr → Prop) (z v : V) (so : List Str) (sy : List SRow) (ws : List PyData), vs = [z, v] ∧ NOk N H ∧ SigAt C N H z so sy ∧ R N H v (.tuple ws) ∧ ws.all (knownW sy) = true ∧ ws.length ≤ 10000 ∧
  ∀ H', Ex H H' → Q (.int ((ws.filter fun x => decide (0 < ar sy x)).length : Int)) H'
section
variable {P : Program} {w : World} {K : PySem.W.Frag} {mg : Str → Option Value} {base : Heap} {f fL : Addr} {fd : FuncData} {C CB CT CN : Addr}
theorem sc_subtree : FnScope ["signs", "row", "spot"] ["signs", "row", "spot"] (C8.fnScope (topS 41)) := C8.fnScope_by (by decide +kernel)
theorem ok_subtree (D : C8.Def K mg "subtree" (topS 41) f fd) (b : Binds K fd ["signs", "row", "spot"] []) (G_behind : C8.Cal P w K mg base 2 "behind" (spBehind C) []) : C8.Cal P w K mg base 3 "subtree" (spSubtree C) [] :=
  C8.cal0 D b .nil sc_subtree (fun vs H Q E h => by obtain ⟨N, z, v, so, sy, ws, rest, k, rfl, _⟩ := h; rfl) fun cdv A outer s0 H vs Q E hr h => by
    obtain ⟨N, z, v, so, sy, ws, rest, k, rfl, n, sa, rv, hall, hk, hsk, q⟩ := h
    refine ⟨_, (pss_one (ps_ret (pe_slice sl_tupY (pv 1) (po_some (pv 2)) (po_some (C8.pe_c G_behind hr (by decide) (by rfl) (pa_cons (pv 0) (pa_cons (pv 1) (pa_cons (pv 2) pa_nil)))))))), ?_⟩
    obtain ⟨_, e2, e3, _⟩ := end_facts hk hsk
    refine ⟨_, rfl, _, rfl, _, rfl, _, rfl, _, rfl, _, rfl, N, z, v, so, sy, ws, rest, k, rfl, n, sa, rv, hall, hk, hsk, fun H1 e1 => ⟨_, rfl, R.sliceT (rv.ex e1) (n.ex e1) fun x H2 e2' rx => ?_⟩⟩
    rw [slice_mid (by omega) e3] at rx
    exact q x H2 (e1.trans e2') rx
theorem sc_replaced : FnScope ["signs", "row", "spot", "other"] ["signs", "row", "spot", "other"] (C8.fnScope (topS 42)) := C8.fnScope_by (by decide +kernel)
theorem ok_replaced (D : C8.Def K mg "replaced" (topS 42) f fd) (b : Binds K fd ["signs", "row", "spot", "other"] []) (G_behind : C8.Cal P w K mg base 2 "behind" (spBehind C) []) : C8.Cal P w K mg base 3 "replaced" (spReplaced C) [] :=
  C8.cal0 D b .nil sc_replaced (fun vs H Q E h => by obtain ⟨N, z, v, o, so, sy, ws, rest, os, k, rfl, _⟩ := h; rfl) fun cdv A outer s0 H vs Q E hr h => by
    obtain ⟨N, z, v, o, so, sy, ws, rest, os, k, rfl, n, sa, rv, ro, hl, hlo, hall, hk, hsk, q⟩ := h
    refine ⟨_, (pss_one (ps_ret (pe_op op_catAY (pe_op op_catAY (pe_slice sl_tupY (pv 1) po_none (po_some (pv 2))) (pv 3)) (pe_slice sl_tupY (pv 1) (po_some (C8.pe_c G_behind hr (by decide) (by rfl) (pa_cons (pv 0) (pa_cons (pv 1) (pa_cons (pv 2) pa_nil))))) po_none)))), ?_⟩
    obtain ⟨_, e2, e3, _⟩ := end_facts hk hsk
    refine ⟨_, rfl, _, rfl, _, rfl, R.sliceT rv n fun x H1 e1 rx => ⟨_, rfl, ?_⟩⟩
    rw [slice_front (by omega)] at rx
    have n1 := n.ex e1
    refine R.catT rx (ro.ex e1) n1 (by rw [List.length_take]; omega) fun y H2 e2' ry => ?_
    have e12 := e1.trans e2'
    refine ⟨_, rfl, _, rfl, _, rfl, _, rfl, N, z, v, so, sy, ws, rest, k, rfl, n.ex e12, sa.ex' e12, rv.ex e12, hall, hk, hsk, fun H3 e3' => ⟨_, rfl, ?_⟩⟩
    have e13 := e12.trans e3'
    refine R.sliceT (rv.ex e13) (n.ex e13) fun x2 H4 e4 rx2 => ?_
    rw [slice_back e3] at rx2
    have e14 := e13.trans e4
    exact R.catT ((ry.ex e3').ex e4) rx2 (n.ex e14) (by rw [List.length_append, List.length_take, List.length_drop]; omega) fun u H5 e5 ru => q u H5 (e14.trans e5) ru
theorem sc_parts_of : FnScope ["signs", "row", "found", "at", "_", "later"] ["signs", "row"] (C8.fnScope (topS 43)) := C8.fnScope_by (by decide +kernel)
theorem ok_parts_of (D : C8.Def K mg "parts_of" (topS 43) f fd) (b : Binds K fd ["signs", "row"] []) (T : TxtB K mg) (G_arity : C8.Cal P w K mg base 1 "arity" (spArity C) []) (G_behind : C8.Cal P w K mg base 2 "behind" (spBehind C) []) : C8.Cal P w K mg base 3 "parts_of" (spPartsOf C) [] :=
  C8.cal0 D b .nil sc_parts_of (fun vs H Q E h => by obtain ⟨N, z, v, so, sy, dw, r, rest, rfl, _⟩ := h; rfl) fun cdv A outer s0 H vs Q E hr h => by
    obtain ⟨N, z, v, so, sy, dw, r, rest, rfl, n, sa, rv, hall, hlen, hsk, q⟩ := h
    refine ⟨_, (pss_cons (ps_par (i := 2) (j := 3) rfl sc_parts_of.nd rfl rfl (by decide) rfl rfl (pa_cons (pe_lst pa_nil) (pa_cons pe_int pa_nil)) rfl)
      (pss_cons (ps_for PassesOwn.never rfl (pi_range1 rfl T.range (pa_cons (C8.pe_c G_arity hr (by decide) (by rfl) (pa_cons (pv 0) (pa_cons (pe_ix (show IxR _ (rIxY K) from ix_Y) (pv 1) pe_int (fun _ _ => rfl)) pa_nil))) pa_nil)) (pg_name (i := 4) sc_parts_of.nd rfl (by first | exact Or.inl rfl | exact Or.inr rfl))
      (pss_cons (ps_set (i := 5) sc_parts_of.nd rfl (by first | exact Or.inl rfl | exact Or.inr rfl) (C8.pe_c G_behind hr (by decide) (by rfl) (pa_cons (pv 0) (pa_cons (pv 1) (pa_cons (pv 3) pa_nil)))))
      (pss_cons (ps_expr (pe_bm PySem.F.plainAttrs_list PySem.F.slot_list_append PySem.F.type_list_append mt_append (pv 2) (pa_cons (pe_slice sl_tupY (pv 1) (po_some (pv 3)) (po_some (pv 5))) pa_nil)))
      (pss_one (ps_set (i := 3) sc_parts_of.nd rfl (by first | exact Or.inl rfl | exact Or.inr rfl) (pv 5))))))
      (pss_one (ps_ret (pv 2))))), ?_⟩
    refine ⟨Nat.zero_le _, fun W hW => ⟨_, _, rfl, ?_⟩⟩
    have e1 := Ex.new (o := HO.lst []) hW
    have n1 := n.ex e1
    refine ⟨_, rfl, _, rfl, R.ix (rv.ex e1) rfl (by decide) (e := dw) rfl fun y ry => ?_⟩
    refine ⟨N, z, y, so, sy, dw, rfl, n1, sa.ex' e1, ry, List.all_eq_true.mp hall _ List.mem_cons_self, ?_⟩
    have har : ar sy dw ≤ 100000 := by
      by_cases z : ar sy dw ≤ 100000
      · exact z
      · exfalso
        obtain ⟨j, hj1, hj2, _⟩ := skip_drop hsk
        have := skip_need hsk
        omega
    refine ⟨_, rfl, by omega, by omega, ?_⟩
    have hrl : (rangeD 0 ((ar sy dw : Nat) : Int).toNat).length = ar sy dw := by rw [rangeD_length, Int.toNat_natCast]
    have hat := atP_skip (sy := sy) (ws := dw :: r) (at_ := 1) (rest := rest) (by rw [List.length_cons]; omega) hsk
    refine for_data (N := plus N W) (ds := rangeD 0 ((ar sy dw : Nat) : Int).toNat) (fun j σ H' => ∃ (x4 x5 : Option V) (xs : List V), σ = [some z, some v, some (.ref W), some (.int (atP sy (dw :: r) 1 j : Int)), x4, x5] ∧ Ex H H' ∧ H' W = some (.lst xs) ∧ RAll (plus N W) H' xs (partsP sy (dw :: r) 1 j)) wkx_range ?_ ?_ ?_ ?_
    · exact ⟨none, none, [], rfl, e1, upd_same, .nil⟩
    · rintro i σ H' ⟨x4, x5, xs, rfl, e, hw, _⟩ b o nb _ hb
      have nb' : b ≠ W := fun z => nb (.inr z)
      rw [upd_ne nb'] at hb
      exact e b o hb
    · rintro j x d σ H2 hj ⟨x4, x5, xs, rfl, e, hw, rxs⟩ rx
      have hj' : j < ar sy dw := by
        have := (List.getElem?_eq_some_iff.mp hj).1
        rw [hrl] at this
        exact this
      obtain ⟨hlt, r1, hs1⟩ := hat j hj'
      obtain ⟨_, f2, f3, _⟩ := end_facts hlt hs1
      have n2 := n.ex e
      refine ⟨_, rfl, _, rfl, _, rfl, N, z, v, so, sy, dw :: r, r1, atP sy (dw :: r) 1 j, rfl, n2, sa.ex' e, rv.ex e, hall, hlt, hs1, fun H3 e3 => ?_⟩
      have e03 := e.trans e3
      have hw3 := e3 _ _ hw
      refine ⟨_, rfl, .inl ⟨rfl, _, SqL.of hw3⟩, _, rfl, _, rfl, _, rfl, _, rfl, _, rfl, R.sliceT ((rv.plus hW).ex e03) ((n.ex e03).plus (D := W) (by rw [hw3]; exact fun z => by cases z)) fun u H4 e4 ru => ?_⟩
      rw [slice_mid (by omega) f3] at ru
      have hw4 := e4 _ _ hw3
      have hxl : xs.length = (partsP sy (dw :: r) 1 j).length := rxs.length
      have hpl : ∀ (n at_ : Nat), (partsP sy (dw :: r) at_ n).length = n := fun n => by
        induction n with
        | zero => exact fun _ => rfl
        | succ n ih => exact fun at_ => by show (partsP sy (dw :: r) _ n).length + 1 = n + 1; rw [ih]
      refine ⟨_, _, _, rfl, rfl, hw4, by rw [hxl, hpl]; exact Nat.lt_of_le_of_lt (by omega : j ≤ 100000) (by decide), _, rfl, some x, some (.int (endOf sy (dw :: r) (atP sy (dw :: r) 1 j) : Int)), xs ++ [u], ?_, (e03.trans e4).mut hW, upd_same, ?_⟩
      · rw [atP_succ]
        rfl
      · rw [partsP_snoc]
        have ext : Xn (plus N W) H4 (upd H4 W (.lst (xs ++ [u]))) := fun b o nb _ h => upd_at h fun z => nb (.inr z)
        exact (((rxs.ex e3).ex e4).mono ext).append (.cons (ru.mono ext) .nil)
    · rintro σ H' ⟨x4, x5, xs, rfl, e, hw, rxs⟩
      rw [hrl] at rxs
      exact ⟨_, rfl, q _ _ e (.lst hw (fun z => n _ z hW) rxs.less)⟩
theorem sc_inner_nodes : FnScope ["signs", "row", "word"] ["signs", "row"] (C8.fnScope (topS 44)) := C8.fnScope_by (by decide +kernel)
theorem ok_inner_nodes (D : C8.Def K mg "inner_nodes" (topS 44) f fd) (b : Binds K fd ["signs", "row"] []) (T : TxtB K mg) (G_arity : C8.Cal P w K mg base 1 "arity" (spArity C) []) : C8.Cal P w K mg base 2 "inner_nodes" (spInner C) [] :=
  C8.cal0 D b .nil sc_inner_nodes (fun vs H Q E h => by obtain ⟨N, z, v, so, sy, ws, rfl, _⟩ := h; rfl) fun cdv A outer s0 H vs Q E hr h => by
    obtain ⟨N, z, v, so, sy, ws, rfl, n, sa, rv, hall, hlen, q⟩ := h
    refine ⟨_, (pss_one (ps_ret (pe_callB call_lenS (by rfl) T.len PyProof.Rows.Boot.«len» (pa_cons (pe_lc (own := [("word", 2)]) (g := gName 2) rfl sc_inner_nodes.nd (pi_seq (pv 1)) (blkOk_by (N := ["signs", "row", "word"]) (sc := C8.fnScope (topS 44)) (by decide +kernel)) (fun _ _ _ _ _ => pg_name (i := 2) sc_inner_nodes.nd rfl (Or.inl rfl)) (fun _ _ _ _ _ => pts_one (pt_cmpR op_gt (C8.pe_c G_arity hr (by decide) (by rfl) (pa_cons (pv 0) (pa_cons (pv 2) pa_nil))) pe_int (nomark _))) (fun _ _ _ _ _ => (pv 2))) pa_nil)))), ?_⟩
    obtain ⟨a, xs, rfl, ha, ra⟩ := seq_of rv rfl
    obtain ⟨J, sJ, wk⟩ := seq_walk (K := K) ha ra
    refine ⟨_, rfl, a, J, rfl, sJ, fun D2 hD2 => lc_gen (N := N) (fun x => decide (0 < ar sy x)) (fun d => d) wk hD2 n (by show ws.length ≤ 100000; omega) (fun y dd H2 hm e nn ry Q' q' => ?_) (fun y dd H2 hm hk e nn ry Q' q' => ⟨_, rfl, q' _ _ (Ex.refl _) ry⟩) fun H2 ys e2 hy ry => ?_⟩
    · refine ⟨_, rfl, _, rfl, plus N D2, z, y, so, sy, dd, rfl, nn, (sa.plus hD2).ex' e, ry, List.all_eq_true.mp hall _ hm, _, _, rfl, rfl, _, rfl, ?_⟩
      have := q' _ (Ex.refl _)
      rw [show decide ((0 : Int) < (ar sy dd : Int)) = decide (0 < ar sy dd) from decide_eq_decide.mpr (by omega)]
      exact this
    · rw [List.map_id'] at ry
      have rl : R N H2 (.ref D2) (.list (ws.filter fun x => decide (0 < ar sy x))) := .lst hy (fun z => n _ z hD2) ry
      exact R.len rl rfl (q _ e2)
end
end K1
end

section
set_option Elab.async false
set_option linter.all false
set_option maxRecDepth 100000
set_option maxHeartbeats 2000000
namespace K1
open PySem L2 Rp
theorem fix_name (d : PyData) : isName (fixD d) = isName d := by cases d <;> rfl
theorem fix_str (d : PyData) : isStr (fixD d) = isStr d := by cases d <;> rfl
theorem fix_items {d : PyData} (h : isListed d = true) : itemsOf (fixD d) = (itemsOf d).map fixD ∧ isListed (fixD d) = true := by
  rw [fixD_seq h]
  exact ⟨rfl, rfl⟩
theorem getD_map {ds : List PyData} (i : Nat) : (ds.map fixD).getD i .none = fixD (ds.getD i .none) := by
  rw [List.getD_eq_getElem?_getD, List.getD_eq_getElem?_getD, List.getElem?_map]
  cases ds[i]? <;> rfl
theorem fix_thing (d : PyData) : isThing (fixD d) = isThing d := by
  cases hL : isListed d with
  | false => rw [fixD_else hL]
  | true =>
    obtain ⟨h1, h2⟩ := fix_items hL
    unfold isThing
    rw [h1, h2, hL, List.length_map, getD_map, getD_map, fix_name, fix_name]
theorem thing_first {d : PyData} (h : isThing d = true) : strOf ((itemsOf (fixD d)).getD 0 .none) = strOf ((itemsOf d).getD 0 .none) ∧ (itemsOf (fixD d)).length = (itemsOf d).length := by
  obtain ⟨hL, x, hx⟩ := thing_leaf.seq d h
  obtain ⟨h1, _⟩ := fix_items hL
  rw [h1, getD_map, List.length_map]
  have hg : (itemsOf d).getD 0 .none = .str x := by
    rw [List.getD_eq_getElem?_getD, hx]
    rfl
  rw [hg]
  exact ⟨rfl, rfl⟩
theorem fix_fits {so : List Str} {sy : List SRow} {d t : PyData} : fitsB so sy isThing (fixD d) t = fitsB so sy isThing d t := by
  cases hs : isStr d with
  | true =>
    obtain ⟨x, rfl⟩ := str_is hs
    rfl
  | false =>
    have e : ∀ d, isStr d = false → fitsB so sy isThing d t = (isThing d && (decide ((itemsOf d).length = 1) || (decide (strOf ((itemsOf d).getD 0 .none) ∈ so) && sortFits t (strOf ((itemsOf d).getD 0 .none))))) := fun d h => by
      cases d with
      | str x => cases h
      | _ => rfl
    rw [e d hs, e (fixD d) (by rw [fix_str]; exact hs), fix_thing]
    cases ht : isThing d with
    | false => rfl
    | true =>
      obtain ⟨h1, h2⟩ := thing_first ht
      rw [h1, h2]
theorem fix_args {sy : List SRow} (d : PyData) : argsD sy (fixD d) = argsD sy d := by cases d <;> rfl
theorem fix_told {so : List Str} {sy : List SRow} : ∀ {ws st : List PyData}, toldGo so sy isThing (ws.map fixD) st = toldGo so sy isThing ws st
  | [], _ => rfl
  | w :: r, [] => rfl
  | w :: r, t :: st => by
    show (if fitsB so sy isThing (fixD w) t = true then toldGo so sy isThing (r.map fixD) (argsD sy (fixD w) ++ st) else none) = (if fitsB so sy isThing w t = true then toldGo so sy isThing r (argsD sy w ++ st) else none)
    rw [fix_fits, fix_args, fix_told]
theorem told_known {so : List Str} {sy : List SRow} {leaf : PyData → Bool} : ∀ {ws st st' : List PyData}, toldGo so sy leaf ws st = some st' → ws.all (knownW sy) = true
  | [], _, _, _ => rfl
  | w :: r, [], _, h => by cases h
  | w :: r, t :: st, st', h => by
    have h : (if fitsB so sy leaf w t = true then toldGo so sy leaf r (argsD sy w ++ st) else none) = some st' := h
    by_cases c : fitsB so sy leaf w t = true
    · rw [if_pos c] at h
      rw [List.all_cons, told_known h, Bool.and_true]
      cases hs : isStr w with
      | false =>
        unfold knownW
        rw [hs]
        rfl
      | true =>
        obtain ⟨x, rfl⟩ := str_is hs
        unfold knownW
        cases hr : rowOf sy (.str x) with
        | none => rw [fits_none hr] at c; cases c
        | some r => rfl
    · rw [if_neg c] at h
      cases h
/-- what is known of a right tree's words -/
structure TreeW (so : List Str) (sy : List SRow) (fw : List PyData) : Prop where
  told : ∃ s, toldGo so sy isThing fw [s] = some []
  pos : 0 < fw.length
  few : fw.length ≤ 400
  known : fw.all (knownW sy) = true
theorem tree_w {so : List Str} {sy : List SRow} {d s : PyData} (h : treeB so sy d s = true) : TreeW so sy ((itemsOf d).map fixD) := by
  unfold treeB at h
  simp only [Bool.and_eq_true, decide_eq_true_eq] at h
  obtain ⟨⟨h1, h2⟩, h3⟩ := h
  unfold toldB at h3
  obtain ⟨h3, h4⟩ := Bool.and_eq_true_iff.mp h3
  have h4 := of_decide_eq_true h4
  have hg : toldGo so sy isThing (itemsOf d) [s] = some [] := by
    cases hg : toldGo so sy isThing (itemsOf d) [s] with
    | none => rw [hg] at h3; cases h3
    | some st =>
      rw [hg] at h3
      cases st with
      | nil => rfl
      | cons a b => cases h3
  have hf : toldGo so sy isThing ((itemsOf d).map fixD) [s] = some [] := by rw [fix_told]; exact hg
  exact ⟨⟨s, hf⟩, by rw [List.length_map]; exact h4, by rw [List.length_map]; exact h2, told_known hf⟩
theorem TreeW.part {so : List Str} {sy : List SRow} {fw : List PyData} (t : TreeW so sy fw) {k : Nat} (hk : k < fw.length) : ∃ rest, skip sy (fw.drop k) 1 = some rest := by
  obtain ⟨s, h⟩ := t.told
  exact told_part h hk
theorem sortW_not {sy : List SRow} {d : PyData} (h : isStr d = false) : sortW sy d = if isThing d = true then some (strOf ((itemsOf d).getD 0 .none)) else none := by
  cases d with
  | str x => cases h
  | _ => rfl
theorem TreeW.sort {so : List Str} {sy : List SRow} {fw : List PyData} (t : TreeW so sy fw) {k : Nat} {dw : PyData} (hk : fw[k]? = some dw) : ∃ s, sortW sy dw = some s := by
  obtain ⟨s, h⟩ := t.told
  have hm := List.mem_of_getElem? hk
  rcases told_words h dw hm with hs | ht
  · obtain ⟨x, rfl⟩ := str_is hs
    obtain ⟨r, hr⟩ := known_row (List.all_eq_true.mp t.known _ hm)
    refine ⟨r.sort, ?_⟩
    show (rowOf sy (.str x)).map (·.sort) = _
    rw [hr]
    rfl
  · refine ⟨strOf ((itemsOf dw).getD 0 .none), ?_⟩
    cases hs : isStr dw with
    | true =>
      obtain ⟨x, rfl⟩ := str_is hs
      exact absurd ht (by rw [thing_leaf.str]; exact Bool.false_ne_true)
    | false => rw [sortW_not hs, if_pos ht]
theorem head_at {fw : List PyData} {i : Nat} (h : i < fw.length) : fw[i]? = some (fw.getD i .none) := by
  rw [List.getD_eq_getElem?_getD, List.getElem?_eq_getElem h]
  rfl
def spNeedInt (CI : Addr) : Sp := fun vs H Q E => ∃ (N : Addr → Prop) (v p : V) (d dp : PyData) (l m : Int), vs = [v, p, .int l, .int m] ∧ NOk N H ∧ R N H v d ∧ R N H p dp ∧ (within d (.int l) (.int m) = true → ∀ H', Ex H H' → Q .non H') ∧ (within d (.int l) (.int m) = false → Thr N H E CI "part" dp)
theorem within_at {d : PyData} {m : Int} (h : within d (.int 0) (.int m) = true) : ∃ i : Nat, d = .int (i : Int) ∧ (i : Int) ≤ m := by
  cases d with
  | int j =>
    have h : (decide (0 ≤ j) && decide (j ≤ m)) = true := h
    obtain ⟨h1, h2⟩ := Bool.and_eq_true_iff.mp h
    have h1 := of_decide_eq_true h1
    have h2 := of_decide_eq_true h2
    exact ⟨j.toNat, by rw [Int.toNat_of_nonneg h1], by omega⟩
  | _ => cases h
/-- what the calls ask of signs and a tree: no signs; no tree; else K -/
def spOver (C CB CT : Addr) (N : Addr → Prop) (z v : V) (H : Hp) (E : XK) (go : List Str → List SRow → List PyData → Prop) : Prop := NOk N H ∧ ((∃ d0, R N H z d0 ∧ Thr N H E CB "part" (.str "signs")) ∨
  (∃ so sy d, SigAt C N H z so sy ∧ (∀ r ∈ sy, r.args.length ≤ 3) ∧ R N H v d ∧ (itemsOf d).all okThing = true ∧ (treeB so sy d .none = false → Thr N H E CT "part" (.str "tree")) ∧ (treeB so sy d .none = true → go so sy ((itemsOf d).map fixD))))
def spTreeSort (C CB CT : Addr) : Sp := fun vs H Q E => ∃ (N : Addr → Prop) (z v : V), vs = [z, v] ∧ spOver C CB CT N z v H E fun so sy fw => ∀ t H', Ex H H' → sortW sy (fw.getD 0 .none) = some t → Q (.str t) H'
def spPartAt (C CB CT CI : Addr) : Sp := fun vs H Q E => ∃ (N : Addr → Prop) (z v k : V), vs = [z, v, k] ∧ spOver C CB CT N z v H E fun so sy fw => ∃ dk, R N H k dk ∧ (within dk (.int 0) (.int ((fw.length : Int) - 1)) = false → Thr N H E CI "part" (.str "spot")) ∧
  (∀ i : Nat, dk = .int (i : Int) → i < fw.length → ∀ u H', Ex H H' → R N H' u (.tuple (partW sy fw i)) → Q u H')
def spWithPart (C CB CT CI CM : Addr) : Sp := fun vs H Q E => ∃ (N : Addr → Prop) (z v k o : V), vs = [z, v, k, o] ∧ spOver C CB CT N z v H E fun so sy fw => ∃ dk d2, R N H k dk ∧ R N H o d2 ∧ (itemsOf d2).all okThing = true ∧ (within dk (.int 0) (.int ((fw.length : Int) - 1)) = false → Thr N H E CI "part" (.str "spot")) ∧
  (∀ i : Nat, dk = .int (i : Int) → i < fw.length → (treeB so sy d2 .none = false → Thr N H E CT "part" (.str "other")) ∧
    (treeB so sy d2 .none = true → ∀ t1 t2, sortW sy (fw.getD i .none) = some t1 → sortW sy (((itemsOf d2).map fixD).getD 0 .none) = some t2 → (t1 ≠ t2 → Thr N H E CM "part" (.str "sort")) ∧
      (t1 = t2 → ∀ u H', Ex H H' → R N H' u (.tuple (fw.take i ++ (itemsOf d2).map fixD ++ fw.drop (endOf sy fw i))) → Q u H')))
def spArgsOf (C CB CT : Addr) : Sp := fun vs H Q E => ∃ (N : Addr → Prop) (z v : V), vs = [z, v] ∧ spOver C CB CT N z v H E fun so sy fw => ∀ u H', Ex H H' → R N H' u (.tuple (partsP sy fw 1 (ar sy (fw.getD 0 .none)))) → Q u H'
def spManyInner (C CB CT : Addr) : Sp := fun vs H Q E => ∃ (N : Addr → Prop) (z v : V), vs = [z, v] ∧ spOver C CB CT N z v H E fun so sy fw => ∀ H', Ex H H' → Q (.int ((fw.filter fun x => decide (0 < ar sy x)).length : Int)) H'
theorem thr_ex {N : Addr → Prop} {H H1 : Hp} {E : XK} {C : Addr} {f : Str} {d : PyData} (t : Thr N H E C f d) (e : Ex H H1) : Thr N H1 E C f d := fun a H' v e2 rv ha hv => t a H' v (e.trans e2) rv (e.free ha) hv
section
variable {P : Program} {w : World} {K : PySem.W.Frag} {mg : Str → Option Value} {base : Heap} {f fL : Addr} {fd : FuncData} {C CB CT CI CM CN fI ccI cdI fM ccM cdM : Addr}
theorem sc_need_integer : FnScope ["value", "part", "least", "most"] ["value", "part", "least", "most"] (C8.fnScope (topS 24)) := C8.fnScope_by (by decide +kernel)
theorem ok_need_integer (D : C8.Def K mg "need_integer" (topS 24) f fd) (b : Binds K fd ["value", "part", "least", "most"] []) (X_BadNumber : Xc K mg "BadNumber" "part" CI fI ccI cdI) (XG : XProg P mg) (G_is_within : C8.Cal P w K mg base 2 "is_within" (spP F_is_within) []) : CalX P w K mg base 3 "need_integer" (spNeedInt CI) [] :=
  calX D b .nil sc_need_integer (fun vs H Q E h => by obtain ⟨N, v, p, d, dp, l, m, rfl, _⟩ := h; rfl) fun cdv A outer s0 H vs Q E hr h => by
    obtain ⟨N, v, p, d, dp, l, m, rfl, n, r, rp, k1, k2⟩ := h
    have tX := takes_of (X := cxOf (L2.CX P w) P w K mg base ["value", "part", "least", "most"] "need_integer" (C8.fnScope (topS 24)) f cdv A outer s0 H E) rfl rfl rfl rfl
    refine ⟨_, (pss_one (ps_if (pt_not (pt_val (C8.pe_c G_is_within hr (by decide) (by rfl) (pa_cons (pv 0) (pa_cons (pv 2) (pa_cons (pv 3) pa_nil))))))
      (pss_one (ps_raise1 rfl X_BadNumber.t XG hr tX X_BadNumber.m (pa_cons (pv 1) pa_nil)))
      pss_nil)), ?_⟩
    refine ⟨_, rfl, _, rfl, _, rfl, call_B n (.cons r (.cons (.int l) (.cons (.int m) .nil))) rfl fun H1 e1 => ⟨_, rfl, ?_⟩⟩
    cases hb : within d (.int l) (.int m) with
    | true => exact iteF (k1 hb H1 e1)
    | false => exact iteT ⟨_, rfl, _, rfl, (k2 hb).go e1 (rp.ex e1)⟩
theorem sc_tree_sort : FnScope ["signs", "tree"] ["signs", "tree"] (C8.fnScope (topS 50)) := C8.fnScope_by (by decide +kernel)
theorem ok_tree_sort (D : C8.Def K mg "tree_sort" (topS 50) f fd) (b : Binds K fd ["signs", "tree"] []) (G_need_signs : CalX P w K mg base 3 "need_signs" (spNeedSigns C CB) []) (G_need_tree : CalX P w K mg base 8 "need_tree" (spNeedTree C CT) [.str "tree"]) (G_sort_at : C8.Cal P w K mg base 5 "sort_at" (spSortAt C) []) : CalX P w K mg base 9 "tree_sort" (spTreeSort C CB CT) [] :=
  calX D b .nil sc_tree_sort (fun vs H Q E h => by obtain ⟨N, z, v, rfl, _⟩ := h; rfl) fun cdv A outer s0 H vs Q E hr h => by
    obtain ⟨N, z, v, rfl, n, h⟩ := h
    have tX := takes_of (X := cxOf (L2.CX P w) P w K mg base ["signs", "tree"] "tree_sort" (C8.fnScope (topS 50)) f cdv A outer s0 H E) rfl rfl rfl rfl
    refine ⟨_, (pss_cons (ps_expr (pe_cX G_need_signs hr (by decide) (passes_call tX fun _ _ _ _ h => h) (by rfl) (pa_cons (pv 0) pa_nil)))
      (pss_one (ps_ret (C8.pe_c G_sort_at hr (by decide) (by rfl) (pa_cons (pv 0) (pa_cons (pe_ix (show IxR _ (rIxY K) from ix_Y) (pe_cX G_need_tree hr (by decide) (passes_call tX fun _ _ _ _ h => h) (by rfl) (pa_cons (pv 0) (pa_cons (pv 1) pa_nil))) pe_int (fun _ _ => rfl)) pa_nil)))))), ?_⟩
    rcases h with ⟨d0, rz, k⟩ | ⟨so, sy, d, sa, h3, rv, hok, k1, k2⟩
    · exact ⟨_, rfl, N, z, rfl, n, .inr ⟨d0, rz, k⟩⟩
    · refine ⟨_, rfl, N, z, rfl, n, .inl ⟨so, sy, sa, ?_⟩⟩
      refine ⟨_, rfl, _, rfl, _, rfl, N, z, v, .str "tree", so, sy, d, .str "tree", rfl, n, sa, h3, rv, .str _, hok, fun ht u H1 e1 ru => ?_, fun ht => k1 ht⟩
      have tw := tree_w ht
      have hx : ((itemsOf d).map fixD)[0]? = some (((itemsOf d).map fixD).getD 0 .none) := by
        rw [List.getD_eq_getElem?_getD, List.getElem?_eq_getElem tw.pos]
        rfl
      obtain ⟨t, hs⟩ := tw.sort hx
      exact R.ix ru rfl (by decide) hx fun y ry => ⟨N, z, y, so, sy, _, t, rfl, n.ex e1, sa.ex' e1, ry, hs, k2 ht t H1 e1 hs⟩
theorem sc_part_at : FnScope ["signs", "tree", "spot", "here"] ["signs", "tree", "spot"] (C8.fnScope (topS 51)) := C8.fnScope_by (by decide +kernel)
theorem ok_part_at (D : C8.Def K mg "part_at" (topS 51) f fd) (b : Binds K fd ["signs", "tree", "spot"] []) (T : TxtB K mg) (G_need_signs : CalX P w K mg base 3 "need_signs" (spNeedSigns C CB) []) (G_need_tree : CalX P w K mg base 8 "need_tree" (spNeedTree C CT) [.str "tree"]) (G_need_integer : CalX P w K mg base 3 "need_integer" (spNeedInt CI) []) (G_subtree : C8.Cal P w K mg base 3 "subtree" (spSubtree C) []) : CalX P w K mg base 9 "part_at" (spPartAt C CB CT CI) [] :=
  calX D b .nil sc_part_at (fun vs H Q E h => by obtain ⟨N, z, v, k, rfl, _⟩ := h; rfl) fun cdv A outer s0 H vs Q E hr h => by
    obtain ⟨N, z, v, kv, rfl, n, h⟩ := h
    have tX := takes_of (X := cxOf (L2.CX P w) P w K mg base ["signs", "tree", "spot", "here"] "part_at" (C8.fnScope (topS 51)) f cdv A outer s0 H E) rfl rfl rfl rfl
    refine ⟨_, (pss_cons (ps_expr (pe_cX G_need_signs hr (by decide) (passes_call tX fun _ _ _ _ h => h) (by rfl) (pa_cons (pv 0) pa_nil)))
      (pss_cons (ps_set (i := 3) sc_part_at.nd rfl (by first | exact Or.inl rfl | exact Or.inr rfl) (pe_cX G_need_tree hr (by decide) (passes_call tX fun _ _ _ _ h => h) (by rfl) (pa_cons (pv 0) (pa_cons (pv 1) pa_nil))))
      (pss_cons (ps_expr (pe_cX G_need_integer hr (by decide) (passes_call tX fun _ _ _ _ h => h) (by rfl) (pa_cons (pv 2) (pa_cons pe_str (pa_cons pe_int (pa_cons (pe_op op_sub (pe_callB call_lenS (by rfl) T.len PyProof.Rows.Boot.«len» (pa_cons (pv 3) pa_nil)) pe_int) pa_nil))))))
      (pss_one (ps_ret (C8.pe_c G_subtree hr (by decide) (by rfl) (pa_cons (pv 0) (pa_cons (pv 3) (pa_cons (pv 2) pa_nil))))))))), ?_⟩
    rcases h with ⟨d0, rz, k⟩ | ⟨so, sy, d, sa, h3, rv, hok, k1, k2⟩
    · exact ⟨_, rfl, N, z, rfl, n, .inr ⟨d0, rz, k⟩⟩
    · refine ⟨_, rfl, N, z, rfl, n, .inl ⟨so, sy, sa, ?_⟩⟩
      refine ⟨_, rfl, _, rfl, N, z, v, .str "tree", so, sy, d, .str "tree", rfl, n, sa, h3, rv, .str _, hok, fun ht u H1 e1 ru => ?_, fun ht => k1 ht⟩
      have tw := tree_w ht
      obtain ⟨dk, rk, q1, q2⟩ := k2 ht
      refine ⟨_, rfl, _, rfl, R.len ru rfl ⟨_, _, rfl, rfl, N, kv, .str "spot", dk, .str "spot", 0, _, rfl, n.ex e1, rk.ex e1, .str _, fun hw H2 e2 => ?_, fun hw => thr_ex (q1 hw) e1⟩⟩
      obtain ⟨i, rfl, hi⟩ := within_at hw
      have hlt : i < ((itemsOf d).map fixD).length := by
        have : (i : Int) ≤ ((((itemsOf d).map fixD).length : Nat) : Int) - 1 := hi
        omega
      obtain ⟨rest, hsk⟩ := tw.part hlt
      have e12 := e1.trans e2
      have ek := rk.intv
      subst ek
      exact ⟨_, rfl, _, rfl, _, rfl, N, z, u, so, sy, _, rest, i, rfl, n.ex e12, sa.ex' e12, ru.ex e2, tw.known, hlt, hsk, fun x H3 e3 rx => q2 i rfl hlt x H3 (e12.trans e3) rx⟩
theorem sc_with_part : FnScope ["signs", "tree", "spot", "other", "here", "part"] ["signs", "tree", "spot", "other"] (C8.fnScope (topS 52)) := C8.fnScope_by (by decide +kernel)
theorem ok_with_part (D : C8.Def K mg "with_part" (topS 52) f fd) (b : Binds K fd ["signs", "tree", "spot", "other"] []) (T : TxtB K mg) (G_need_signs : CalX P w K mg base 3 "need_signs" (spNeedSigns C CB) []) (G_need_tree : CalX P w K mg base 8 "need_tree" (spNeedTree C CT) [.str "tree"]) (G_need_tree3 : CalX P w K mg base 8 "need_tree" (spNeedTree C CT) [])
    (G_need_integer : CalX P w K mg base 3 "need_integer" (spNeedInt CI) []) (G_sort_at : C8.Cal P w K mg base 5 "sort_at" (spSortAt C) []) (G_replaced : C8.Cal P w K mg base 3 "replaced" (spReplaced C) []) (X_Misfit : Xc K mg "Misfit" "part" CM fM ccM cdM) (XG : XProg P mg) : CalX P w K mg base 9 "with_part" (spWithPart C CB CT CI CM) [] :=
  calX D b .nil sc_with_part (fun vs H Q E h => by obtain ⟨N, z, v, k, o, rfl, _⟩ := h; rfl) fun cdv A outer s0 H vs Q E hr h => by
    obtain ⟨N, z, v, kv, o, rfl, n, h⟩ := h
    have tX := takes_of (X := cxOf (L2.CX P w) P w K mg base ["signs", "tree", "spot", "other", "here", "part"] "with_part" (C8.fnScope (topS 52)) f cdv A outer s0 H E) rfl rfl rfl rfl
    refine ⟨_, (pss_cons (ps_expr (pe_cX G_need_signs hr (by decide) (passes_call tX fun _ _ _ _ h => h) (by rfl) (pa_cons (pv 0) pa_nil)))
      (pss_cons (ps_set (i := 4) sc_with_part.nd rfl (by first | exact Or.inl rfl | exact Or.inr rfl) (pe_cX G_need_tree hr (by decide) (passes_call tX fun _ _ _ _ h => h) (by rfl) (pa_cons (pv 0) (pa_cons (pv 1) pa_nil))))
      (pss_cons (ps_expr (pe_cX G_need_integer hr (by decide) (passes_call tX fun _ _ _ _ h => h) (by rfl) (pa_cons (pv 2) (pa_cons pe_str (pa_cons pe_int (pa_cons (pe_op op_sub (pe_callB call_lenS (by rfl) T.len PyProof.Rows.Boot.«len» (pa_cons (pv 4) pa_nil)) pe_int) pa_nil))))))
      (pss_cons (ps_set (i := 5) sc_with_part.nd rfl (by first | exact Or.inl rfl | exact Or.inr rfl) (pe_cX G_need_tree3 hr (by decide) (passes_call tX fun _ _ _ _ h => h) (by rfl) (pa_cons (pv 0) (pa_cons (pv 3) (pa_cons pe_str pa_nil)))))
      (pss_cons (ps_if (pt_cmpR op_ne (C8.pe_c G_sort_at hr (by decide) (by rfl) (pa_cons (pv 0) (pa_cons (pe_ix (show IxR _ (rIxY K) from ix_Y) (pv 4) (pv 2) (fun _ _ => rfl)) pa_nil))) (C8.pe_c G_sort_at hr (by decide) (by rfl) (pa_cons (pv 0) (pa_cons (pe_ix (show IxR _ (rIxY K) from ix_Y) (pv 5) pe_int (fun _ _ => rfl)) pa_nil))) (nomark _))
      (pss_one (ps_raise1 rfl X_Misfit.t XG hr tX X_Misfit.m (pa_cons pe_str pa_nil)))
      pss_nil)
      (pss_one (ps_ret (C8.pe_c G_replaced hr (by decide) (by rfl) (pa_cons (pv 0) (pa_cons (pv 4) (pa_cons (pv 2) (pa_cons (pv 5) pa_nil)))))))))))), ?_⟩
    rcases h with ⟨d0, rz, k⟩ | ⟨so, sy, d, sa, h3, rv, hok, k1, k2⟩
    · exact ⟨_, rfl, N, z, rfl, n, .inr ⟨d0, rz, k⟩⟩
    · refine ⟨_, rfl, N, z, rfl, n, .inl ⟨so, sy, sa, ?_⟩⟩
      refine ⟨_, rfl, _, rfl, N, z, v, .str "tree", so, sy, d, .str "tree", rfl, n, sa, h3, rv, .str _, hok, fun ht u H1 e1 ru => ?_, fun ht => k1 ht⟩
      have tw := tree_w ht
      obtain ⟨dk, d2, rk, ro, hok2, q1, q2⟩ := k2 ht
      refine ⟨_, rfl, _, rfl, R.len ru rfl ⟨_, _, rfl, rfl, N, kv, .str "spot", dk, .str "spot", 0, _, rfl, n.ex e1, rk.ex e1, .str _, fun hw H2 e2 => ?_, fun hw => thr_ex (q1 hw) e1⟩⟩
      obtain ⟨i, rfl, hi⟩ := within_at hw
      have hlt : i < ((itemsOf d).map fixD).length := by
        have : (i : Int) ≤ ((((itemsOf d).map fixD).length : Nat) : Int) - 1 := hi
        omega
      obtain ⟨rest, hsk⟩ := tw.part hlt
      have e12 := e1.trans e2
      have ek := rk.intv
      subst ek
      obtain ⟨p1, p2⟩ := q2 i rfl hlt
      refine ⟨_, rfl, _, rfl, N, z, o, .str "other", so, sy, d2, .str "other", rfl, n.ex e12, sa.ex' e12, h3, ro.ex e12, .str _, hok2, fun ht2 u2 H3 e3 ru2 => ?_, fun ht2 => thr_ex (p1 ht2) e12⟩
      have tw2 := tree_w ht2
      have e13 := e12.trans e3
      have hx1 := head_at hlt
      have hx2 := head_at tw2.pos
      obtain ⟨t1, hs1⟩ := tw.sort hx1
      obtain ⟨t2, hs2⟩ := tw2.sort hx2
      obtain ⟨g1, g2⟩ := p2 ht2 t1 t2 hs1 hs2
      have ru3 := (ru.ex e2).ex e3
      refine ⟨_, rfl, _, rfl, _, rfl, R.ix ru3 rfl (by omega) (by show ((itemsOf d).map fixD)[((i : Nat) : Int).toNat]? = _; rw [Int.toNat_natCast]; exact hx1) fun y ry => ⟨N, z, y, so, sy, _, t1, rfl, n.ex e13, sa.ex' e13, ry, hs1, ?_⟩⟩
      refine ⟨_, rfl, _, rfl, R.ix ru2 rfl (by decide) hx2 fun y2 ry2 => ⟨N, z, y2, so, sy, _, t2, rfl, n.ex e13, sa.ex' e13, ry2, hs2, rfl, _, rfl, ?_⟩⟩
      by_cases ht12 : t1 = t2
      · subst ht12
        rw [decide_eq_true rfl]
        refine iteF ⟨_, rfl, _, rfl, _, rfl, _, rfl, N, z, u, u2, so, sy, _, rest, _, i, rfl, n.ex e13, sa.ex' e13, ru3, ru2, Nat.le_trans tw.few (by decide), Nat.le_trans tw2.few (by decide), tw.known, hlt, hsk, fun x H4 e4 rx => g2 rfl x H4 (e13.trans e4) rx⟩
      · rw [decide_eq_false (fun z => ht12 (V.str.inj z))]
        exact iteT ⟨_, rfl, (g1 ht12).go e13 (.str _)⟩
theorem sc_arguments_of : FnScope ["signs", "tree"] ["signs", "tree"] (C8.fnScope (topS 53)) := C8.fnScope_by (by decide +kernel)
theorem ok_arguments_of (D : C8.Def K mg "arguments_of" (topS 53) f fd) (b : Binds K fd ["signs", "tree"] []) (T : TxtB K mg) (G_need_signs : CalX P w K mg base 3 "need_signs" (spNeedSigns C CB) []) (G_need_tree : CalX P w K mg base 8 "need_tree" (spNeedTree C CT) [.str "tree"]) (G_parts_of : C8.Cal P w K mg base 3 "parts_of" (spPartsOf C) []) : CalX P w K mg base 9 "arguments_of" (spArgsOf C CB CT) [] :=
  calX D b .nil sc_arguments_of (fun vs H Q E h => by obtain ⟨N, z, v, rfl, _⟩ := h; rfl) fun cdv A outer s0 H vs Q E hr h => by
    obtain ⟨N, z, v, rfl, n, h⟩ := h
    have tX := takes_of (X := cxOf (L2.CX P w) P w K mg base ["signs", "tree"] "arguments_of" (C8.fnScope (topS 53)) f cdv A outer s0 H E) rfl rfl rfl rfl
    refine ⟨_, (pss_cons (ps_expr (pe_cX G_need_signs hr (by decide) (passes_call tX fun _ _ _ _ h => h) (by rfl) (pa_cons (pv 0) pa_nil)))
      (pss_one (ps_ret (pe_callTy call_tupS (by rfl) T.tuple PyProof.Rows.Boot.«tuple» (pa_cons (C8.pe_c G_parts_of hr (by decide) (by rfl) (pa_cons (pv 0) (pa_cons (pe_cX G_need_tree hr (by decide) (passes_call tX fun _ _ _ _ h => h) (by rfl) (pa_cons (pv 0) (pa_cons (pv 1) pa_nil))) pa_nil))) pa_nil))))), ?_⟩
    rcases h with ⟨d0, rz, k⟩ | ⟨so, sy, d, sa, h3, rv, hok, k1, k2⟩
    · exact ⟨_, rfl, N, z, rfl, n, .inr ⟨d0, rz, k⟩⟩
    · refine ⟨_, rfl, N, z, rfl, n, .inl ⟨so, sy, sa, ?_⟩⟩
      refine ⟨_, rfl, _, rfl, _, rfl, N, z, v, .str "tree", so, sy, d, .str "tree", rfl, n, sa, h3, rv, .str _, hok, fun ht u H1 e1 ru => ?_, fun ht => k1 ht⟩
      have tw := tree_w ht
      have q := k2 ht
      have hpos := tw.pos
      have hfew := tw.few
      have hknown := tw.known
      obtain ⟨s, htold⟩ := tw.told
      generalize (itemsOf d).map fixD = fw at *
      cases fw with
      | nil => cases hpos
      | cons dw r =>
        obtain ⟨rest, hsk⟩ : ∃ rest, skip sy r (ar sy dw) = some rest := by
          obtain ⟨rest, h⟩ := told_skip (n := 1) htold (by show 1 ≤ 1; omega)
          refine ⟨rest, ?_⟩
          have h : skip sy r (0 + ar sy dw) = some rest := h
          rw [Nat.zero_add] at h
          exact h
        refine ⟨N, z, u, so, sy, dw, r, rest, rfl, n.ex e1, sa.ex' e1, ru, hknown, by rw [List.length_cons] at hfew; omega, hsk, fun x H2 e2 rx => ?_⟩
        exact R.tupOf rx ((n.ex e1).ex e2) rfl fun y H3 e3 ry => q y H3 ((e1.trans e2).trans e3) ry
theorem sc_many_inner : FnScope ["signs", "tree"] ["signs", "tree"] (C8.fnScope (topS 54)) := C8.fnScope_by (by decide +kernel)
theorem ok_many_inner (D : C8.Def K mg "many_inner" (topS 54) f fd) (b : Binds K fd ["signs", "tree"] []) (G_need_signs : CalX P w K mg base 3 "need_signs" (spNeedSigns C CB) []) (G_need_tree : CalX P w K mg base 8 "need_tree" (spNeedTree C CT) [.str "tree"]) (G_inner_nodes : C8.Cal P w K mg base 2 "inner_nodes" (spInner C) []) : CalX P w K mg base 9 "many_inner" (spManyInner C CB CT) [] :=
  calX D b .nil sc_many_inner (fun vs H Q E h => by obtain ⟨N, z, v, rfl, _⟩ := h; rfl) fun cdv A outer s0 H vs Q E hr h => by
    obtain ⟨N, z, v, rfl, n, h⟩ := h
    have tX := takes_of (X := cxOf (L2.CX P w) P w K mg base ["signs", "tree"] "many_inner" (C8.fnScope (topS 54)) f cdv A outer s0 H E) rfl rfl rfl rfl
    refine ⟨_, (pss_cons (ps_expr (pe_cX G_need_signs hr (by decide) (passes_call tX fun _ _ _ _ h => h) (by rfl) (pa_cons (pv 0) pa_nil)))
      (pss_one (ps_ret (C8.pe_c G_inner_nodes hr (by decide) (by rfl) (pa_cons (pv 0) (pa_cons (pe_cX G_need_tree hr (by decide) (passes_call tX fun _ _ _ _ h => h) (by rfl) (pa_cons (pv 0) (pa_cons (pv 1) pa_nil))) pa_nil)))))), ?_⟩
    rcases h with ⟨d0, rz, k⟩ | ⟨so, sy, d, sa, h3, rv, hok, k1, k2⟩
    · exact ⟨_, rfl, N, z, rfl, n, .inr ⟨d0, rz, k⟩⟩
    · refine ⟨_, rfl, N, z, rfl, n, .inl ⟨so, sy, sa, ?_⟩⟩
      refine ⟨_, rfl, _, rfl, _, rfl, N, z, v, .str "tree", so, sy, d, .str "tree", rfl, n, sa, h3, rv, .str _, hok, fun ht u H1 e1 ru => ?_, fun ht => k1 ht⟩
      have tw := tree_w ht
      exact ⟨N, z, u, so, sy, _, rfl, n.ex e1, sa.ex' e1, ru, tw.known, Nat.le_trans tw.few (by decide), fun H2 e2 => k2 ht H2 (e1.trans e2)⟩
end
end K1
end

section
set_option Elab.async false
set_option linter.all false
set_option maxRecDepth 100000
set_option maxHeartbeats 2000000
namespace K1
open PySem L2 Rp
/-! ### the law's worlds -/
def worldD (so : List Str) (sy : List SRow) : PyData := .list [.list (strsD so), .list (sy.map rowT)]
def worlds : List (List Str × List SRow) := [
  (["n"], [⟨"a", [], "n"⟩, ⟨"f", ["n"], "n"⟩, ⟨"g", ["n"], "n"⟩]),
  (["n"], [⟨"a", [], "n"⟩, ⟨"b", [], "n"⟩, ⟨"f", ["n"], "n"⟩, ⟨"k", ["n", "n"], "n"⟩]),
  (["n"], [⟨"b", [], "n"⟩, ⟨"f", ["n"], "n"⟩, ⟨"g", ["n"], "n"⟩, ⟨"h", ["n", "n", "n"], "n"⟩, ⟨"a", [], "n"⟩]),
  (["t", "s", "n"], [⟨"a", [], "n"⟩, ⟨"b", [], "t"⟩, ⟨"c", [], "s"⟩, ⟨"f", ["n"], "n"⟩, ⟨"h", ["n", "t", "n"], "n"⟩, ⟨"m", ["s"], "n"⟩, ⟨"v", ["n"], "t"⟩]),
  (["t", "n"], [⟨"a", [], "n"⟩, ⟨"b", [], "t"⟩, ⟨"f", ["n"], "n"⟩, ⟨"u", ["t"], "n"⟩, ⟨"k", ["n", "t"], "n"⟩, ⟨"v", ["n"], "t"⟩])]
/-- a world that the law may draw -/
def IsW (so : List Str) (sy : List SRow) : Prop := (so, sy) ∈ worlds
theorem w_bool : ∀ p ∈ worlds, sortsOk (.list (strsD p.1)) = true ∧ areSyms p.1 (.list (p.2.map rowT)) = true ∧ preS (.list (strsD p.1)) (.list (p.2.map rowT)) = true ∧ (p.2.all fun r => decide (r.args.length ≤ 3)) = true ∧ p.2.all rowOk = true ∧ p.1.all PyData.strOk = true := by decide +kernel
def spWorld : Sp := fun vs H Q _ => ∃ (N : Addr → Prop) (P C : Addr) (ns : List Int) (n : Nat), vs = [.ref P] ∧ N P ∧ NOk N H ∧ Pen P C ns (n + 1) H ∧ ∀ so sy u H', IsW so sy → Pen P C ns n H' → Xt P H H' → R N H' u (worldD so sy) → Q u H'
def spLSigns (C : Addr) : Sp := fun vs H Q _ => ∃ (N : Addr → Prop) (v : V) (so : List Str) (sy : List SRow), vs = [v] ∧ NOk N H ∧ R N H v (worldD so sy) ∧ IsW so sy ∧ ∀ z H', Ex H H' → SigAt C N H' z so sy → Q z H'
def spLArgs : Sp := fun vs H Q _ => ∃ (N : Addr → Prop) (v u : V) (so : List Str) (sy : List SRow) (dw : PyData), vs = [v, u] ∧ NOk N H ∧ R N H v (worldD so sy) ∧ sy.length ≤ 16 ∧ R N H u dw ∧ knownW sy dw = true ∧ ∀ x H', Ex H H' → R N H' x (.list (argsD sy dw)) → Q x H'
def spLSort : Sp := fun vs H Q _ => ∃ (N : Addr → Prop) (v u : V) (so : List Str) (sy : List SRow) (dw : PyData) (t : Str), vs = [v, u] ∧ NOk N H ∧ R N H v (worldD so sy) ∧ sy.length ≤ 16 ∧ R N H u dw ∧ sortW sy dw = some t ∧ ∀ H', Ex H H' → Q (.str t) H'
/-- the rows of a name -/
def nameIs (x : Str) (d : PyData) : Bool := decide (strOf (rowName d) = x)
theorem rows_named {x : Str} : ∀ {sy : List SRow} {r : SRow}, rowOf sy (.str x) = some r → ∃ t, (sy.map rowT).filter (nameIs x) = rowT r :: t
  | a :: s, r, h => by
    have h : (a :: s).find? (fun r => decide (r.name = x)) = some r := h
    rw [List.find?_cons] at h
    rw [List.map_cons, List.filter_cons]
    by_cases c : a.name = x
    · rw [decide_eq_true c] at h
      cases h
      have e : nameIs x (rowT a) = true := decide_eq_true c
      rw [if_pos e]
      exact ⟨_, rfl⟩
    · rw [decide_eq_false c] at h
      have e : nameIs x (rowT a) = false := decide_eq_false c
      rw [if_neg (by rw [e]; exact Bool.false_ne_true)]
      exact rows_named (sy := s) h
theorem rows_none {x : Str} : ∀ {sy : List SRow}, rowOf sy (.str x) = none → (sy.map rowT).filter (nameIs x) = []
  | [], _ => rfl
  | a :: s, h => by
    have h : (a :: s).find? (fun r => decide (r.name = x)) = none := h
    rw [List.find?_cons] at h
    rw [List.map_cons, List.filter_cons]
    by_cases c : a.name = x
    · rw [decide_eq_true c] at h
      cases h
    · rw [decide_eq_false c] at h
      have e : nameIs x (rowT a) = false := decide_eq_false c
      rw [if_neg (by rw [e]; exact Bool.false_ne_true)]
      exact rows_none (sy := s) h
section
variable {P : Program} {w : World} {K : PySem.W.Frag} {mg : Str → Option Value} {base : Heap} {f fL : Addr} {fd : FuncData} {C CB CT CN : Addr}
theorem sc__law_world : FnScope ["pen", "some"] ["pen"] (C8.fnScope (topS 60)) := C8.fnScope_by (by decide +kernel)
theorem ok_world (D : C8.Def K mg "_law_world" (topS 60) f fd) (b : Binds K fd ["pen"] []) (G__law_pick : C8.Cal P w K mg base 2 "_law_pick" spPick []) : C8.Cal P w K mg base 3 "_law_world" spWorld [] :=
  C8.cal0 D b .nil sc__law_world (fun vs H Q E h => by obtain ⟨N, P, C, ns, n, rfl, _⟩ := h; rfl) fun cdv A outer s0 H vs Q E hr h => by
    obtain ⟨N, P, C, ns, n, rfl, hP, nN, pn, k⟩ := h
    refine ⟨_, (pss_cons (ps_set (i := 1) sc__law_world.nd rfl (by first | exact Or.inl rfl | exact Or.inr rfl) (lit_lst (lits_cons (lit_lst (lits_cons (lit_lst (lits_cons lit_str lits_nil)) (lits_cons (lit_lst (lits_cons (lit_tup (lits_cons lit_str (lits_cons (lit_lst lits_nil) (lits_cons lit_str lits_nil)))) (lits_cons (lit_tup (lits_cons lit_str (lits_cons (lit_lst (lits_cons lit_str lits_nil)) (lits_cons lit_str lits_nil)))) (lits_cons (lit_tup (lits_cons lit_str (lits_cons (lit_lst (lits_cons lit_str lits_nil)) (lits_cons lit_str lits_nil)))) lits_nil)))) lits_nil))) lits_nil)))
      (pss_cons (ps_set (i := 1) sc__law_world.nd rfl (by first | exact Or.inl rfl | exact Or.inr rfl) (pe_op op_catY (pv 1) (lit_lst (lits_cons (lit_lst (lits_cons (lit_lst (lits_cons lit_str lits_nil)) (lits_cons (lit_lst (lits_cons (lit_tup (lits_cons lit_str (lits_cons (lit_lst lits_nil) (lits_cons lit_str lits_nil)))) (lits_cons (lit_tup (lits_cons lit_str (lits_cons (lit_lst lits_nil) (lits_cons lit_str lits_nil)))) (lits_cons (lit_tup (lits_cons lit_str (lits_cons (lit_lst (lits_cons lit_str lits_nil)) (lits_cons lit_str lits_nil)))) (lits_cons (lit_tup (lits_cons lit_str (lits_cons (lit_lst (lits_cons lit_str (lits_cons lit_str lits_nil))) (lits_cons lit_str lits_nil)))) lits_nil))))) lits_nil))) lits_nil))))
      (pss_cons (ps_set (i := 1) sc__law_world.nd rfl (by first | exact Or.inl rfl | exact Or.inr rfl) (pe_op op_catY (pv 1) (lit_lst (lits_cons (lit_lst (lits_cons (lit_lst (lits_cons lit_str lits_nil)) (lits_cons (lit_lst (lits_cons (lit_tup (lits_cons lit_str (lits_cons (lit_lst lits_nil) (lits_cons lit_str lits_nil)))) (lits_cons (lit_tup (lits_cons lit_str (lits_cons (lit_lst (lits_cons lit_str lits_nil)) (lits_cons lit_str lits_nil)))) (lits_cons (lit_tup (lits_cons lit_str (lits_cons (lit_lst (lits_cons lit_str lits_nil)) (lits_cons lit_str lits_nil)))) (lits_cons (lit_tup (lits_cons lit_str (lits_cons (lit_lst (lits_cons lit_str (lits_cons lit_str (lits_cons lit_str lits_nil)))) (lits_cons lit_str lits_nil)))) (lits_cons (lit_tup (lits_cons lit_str (lits_cons (lit_lst lits_nil) (lits_cons lit_str lits_nil)))) lits_nil)))))) lits_nil))) lits_nil))))
      (pss_cons (ps_set (i := 1) sc__law_world.nd rfl (by first | exact Or.inl rfl | exact Or.inr rfl) (pe_op op_catY (pv 1) (lit_lst (lits_cons (lit_lst (lits_cons (lit_lst (lits_cons lit_str (lits_cons lit_str (lits_cons lit_str lits_nil)))) (lits_cons (lit_lst (lits_cons (lit_tup (lits_cons lit_str (lits_cons (lit_lst lits_nil) (lits_cons lit_str lits_nil)))) (lits_cons (lit_tup (lits_cons lit_str (lits_cons (lit_lst lits_nil) (lits_cons lit_str lits_nil)))) (lits_cons (lit_tup (lits_cons lit_str (lits_cons (lit_lst lits_nil) (lits_cons lit_str lits_nil)))) (lits_cons (lit_tup (lits_cons lit_str (lits_cons (lit_lst (lits_cons lit_str lits_nil)) (lits_cons lit_str lits_nil)))) (lits_cons (lit_tup (lits_cons lit_str (lits_cons (lit_lst (lits_cons lit_str (lits_cons lit_str (lits_cons lit_str lits_nil)))) (lits_cons lit_str lits_nil)))) (lits_cons (lit_tup (lits_cons lit_str (lits_cons (lit_lst (lits_cons lit_str lits_nil)) (lits_cons lit_str lits_nil)))) (lits_cons (lit_tup (lits_cons lit_str (lits_cons (lit_lst (lits_cons lit_str lits_nil)) (lits_cons lit_str lits_nil)))) lits_nil)))))))) lits_nil))) lits_nil))))
      (pss_one (ps_ret (C8.pe_c G__law_pick hr (by decide) (by rfl) (pa_cons (pv 0) (pa_cons (pe_op op_catY (pv 1) (lit_lst (lits_cons (lit_lst (lits_cons (lit_lst (lits_cons lit_str (lits_cons lit_str lits_nil))) (lits_cons (lit_lst (lits_cons (lit_tup (lits_cons lit_str (lits_cons (lit_lst lits_nil) (lits_cons lit_str lits_nil)))) (lits_cons (lit_tup (lits_cons lit_str (lits_cons (lit_lst lits_nil) (lits_cons lit_str lits_nil)))) (lits_cons (lit_tup (lits_cons lit_str (lits_cons (lit_lst (lits_cons lit_str lits_nil)) (lits_cons lit_str lits_nil)))) (lits_cons (lit_tup (lits_cons lit_str (lits_cons (lit_lst (lits_cons lit_str lits_nil)) (lits_cons lit_str lits_nil)))) (lits_cons (lit_tup (lits_cons lit_str (lits_cons (lit_lst (lits_cons lit_str (lits_cons lit_str lits_nil))) (lits_cons lit_str lits_nil)))) (lits_cons (lit_tup (lits_cons lit_str (lits_cons (lit_lst (lits_cons lit_str lits_nil)) (lits_cons lit_str lits_nil)))) lits_nil))))))) lits_nil))) lits_nil))) pa_nil))))))))), ?_⟩
    refine ⟨N, nN, fun u1 H1 e1 r1 => ⟨_, rfl, N, nN.ex e1, fun a1 H2 e2 q1 => R.cat (r1.ex e2) q1 ((nN.ex e1).ex e2) (by decide) fun u2 H3 e3 r2 => ?_⟩⟩
    have e03 := (e1.trans e2).trans e3
    refine ⟨_, rfl, N, nN.ex e03, fun a2 H4 e4 q2 => R.cat (r2.ex e4) q2 ((nN.ex e03).ex e4) (by decide) fun u3 H5 e5 r3 => ?_⟩
    have e05 := (e03.trans e4).trans e5
    refine ⟨_, rfl, N, nN.ex e05, fun a3 H6 e6 q3 => R.cat (r3.ex e6) q3 ((nN.ex e05).ex e6) (by decide) fun u4 H7 e7 r4 => ?_⟩
    have e07 := (e05.trans e6).trans e7
    refine ⟨_, rfl, _, rfl, N, nN.ex e07, fun a4 H8 e8 q4 => R.cat (r4.ex e8) q4 ((nN.ex e07).ex e8) (by decide) fun u5 H9 e9 r5 => ?_⟩
    have e09 := (e07.trans e8).trans e9
    have r5 : R N H9 u5 (.list (worlds.map fun p => worldD p.1 p.2)) := by
      refine (congrArg (R N H9 u5) ?_).mp r5
      rfl
    refine ⟨N, P, C, ns, n, u5, .list (worlds.map fun p => worldD p.1 p.2), rfl, hP, r5, rfl, by decide, by decide, pn.ex e09, fun i e u H' he pn' xt ru => ?_⟩
    have he : (worlds.map fun p => worldD p.1 p.2)[i]? = some e := he
    rw [List.getElem?_map] at he
    obtain ⟨p, hp, rfl⟩ := Option.map_eq_some_iff.mp he
    exact k p.1 p.2 u H' (List.mem_of_getElem? hp) pn' (e09.xt.trans xt) ru
theorem sc__law_signs : FnScope ["world"] ["world"] (C8.fnScope (topS 61)) := C8.fnScope_by (by decide +kernel)
theorem ok_lsigns (D : C8.Def K mg "_law_signs" (topS 61) f fd) (b : Binds K fd ["world"] []) (K_Signs : MakX P w K mg base 6 "Signs" C (spSigns C CB) []) : C8.Cal P w K mg base 8 "_law_signs" (spLSigns C) [] :=
  C8.cal0 D b .nil sc__law_signs (fun vs H Q E h => by obtain ⟨N, v, so, sy, rfl, _⟩ := h; rfl) fun cdv A outer s0 H vs Q E hr h => by
    obtain ⟨N, v, so, sy, rfl, n, rv, hw, k⟩ := h
    obtain ⟨w1, w2, w3, _, _, _⟩ := w_bool _ hw
    refine ⟨_, (pss_one (ps_ret (pe_mkX K_Signs hr (by decide) p0 (by rfl) (pa_cons (pe_ix (show IxR _ (rIxY K) from ix_Y) (pv 0) pe_int (fun _ _ => rfl)) (pa_cons (pe_ix (show IxR _ (rIxY K) from ix_Y) (pv 0) pe_int (fun _ _ => rfl)) pa_nil))))), ?_⟩
    refine ⟨_, rfl, R.ix rv rfl (by decide) (e := .list (strsD so)) rfl fun y1 r1 => ⟨_, rfl, R.ix rv rfl (by decide) (e := .list (sy.map rowT)) rfl fun y2 r2 x dx hx hd ne => signs_made n r1 r2 w3 w1 (by rw [strsOf_list]; exact w2) hx hd ne fun H' e sa => ⟨rfl, ?_⟩⟩⟩
    rw [strsOf_list, rowsOf_T] at sa
    exact k _ H' e sa
end
end K1
end

section
set_option Elab.async false
set_option linter.all false
set_option maxRecDepth 100000
set_option maxHeartbeats 2000000
namespace K1
open PySem L2 Rp
section
variable {P : Program} {w : World} {K : PySem.W.Frag} {mg : Str → Option Value} {base : Heap} {f fL : Addr} {fd : FuncData} {C CB CT CN : Addr}
theorem dec_text (a b : Str) : decide (V.str a = V.str b) = decide (a = b) := by simp
theorem sc__law_args : FnScope ["world", "word", "row"] ["world", "word"] (C8.fnScope (topS 62)) := C8.fnScope_by (by decide +kernel)
theorem ok_largs (D : C8.Def K mg "_law_args" (topS 62) f fd) (b : Binds K fd ["world", "word"] []) (T : TxtB K mg) : C8.Cal P w K mg base 1 "_law_args" spLArgs [] :=
  C8.cal0 D b .nil sc__law_args (fun vs H Q E h => by obtain ⟨N, v, u, so, sy, dw, rfl, _⟩ := h; rfl) fun cdv A outer s0 H vs Q E hr h => by
    obtain ⟨N, v, u, so, sy, dw, rfl, n, rv, h16, ru, hk, k⟩ := h
    refine ⟨_, (pss_one (ps_ret (pe_ifExp (pt_val (pe_callB call_isY (by rfl) T.isinstance PyProof.Rows.Boot.«isinstance» (pa_cons (pv 1) (pa_cons (pe_bltn (v := .ty "str") rfl T.str PyProof.Rows.Boot.«str» rfl) pa_nil)))) (pe_ix (show IxR _ (rIxY K) from ix_Y) (pe_lc (own := [("row", 2)]) (g := gName 2) rfl sc__law_args.nd (pi_seq (pe_ix (show IxR _ (rIxY K) from ix_Y) (pv 0) pe_int (fun _ _ => rfl))) (blkOk_by (N := ["world", "word", "row"]) (sc := C8.fnScope (topS 62)) (by decide +kernel)) (fun _ _ _ _ _ => pg_name (i := 2) sc__law_args.nd rfl (Or.inl rfl)) (fun _ _ _ _ _ => pts_one (pt_cmpR op_eq (pe_ix (show IxR _ (rIxY K) from ix_Y) (pv 2) pe_int (fun _ _ => rfl)) (pv 1) (nomark _))) (fun _ _ _ _ _ => (pe_ix (show IxR _ (rIxY K) from ix_Y) (pv 2) pe_int (fun _ _ => rfl)))) pe_int (fun _ _ => rfl)) (pe_lst pa_nil)))), ?_⟩
    refine ⟨_, rfl, R.isStrQ ru ⟨_, rfl, ?_⟩⟩
    cases hs : isStr dw with
    | false =>
      refine iteF ⟨Nat.zero_le _, fun p hp => k _ _ (Ex.new hp) ?_⟩
      rw [args_not hs]
      exact RAll.nil.lstR n hp
    | true =>
      obtain ⟨x, rfl⟩ := str_is hs
      obtain ⟨r, hrow⟩ := known_row hk
      have ev := ru.strv
      subst ev
      refine iteT ⟨_, rfl, R.ix rv rfl (by decide) (e := .list (sy.map rowT)) rfl fun y ry => ?_⟩
      obtain ⟨a, xs, rfl, ha, ra⟩ := seq_of ry rfl
      obtain ⟨J, sJ, wk⟩ := seq_walk (K := K) ha ra
      refine ⟨a, J, rfl, sJ, fun D2 hD2 => lc_gen (N := N) (nameIs x) (fun d => (itemsOf d).getD 1 .none) wk hD2 n (by show (sy.map rowT).length ≤ 100000; rw [List.length_map]; omega) (fun y dd H4 hm e nn ry Q' q => ?_) (fun y dd H4 hm hk e nn ry Q' q => ?_) fun H4 zs e4 hz rz => ?_⟩
      · obtain ⟨ρ, _, rfl⟩ := List.mem_map.mp hm
        refine ⟨_, rfl, R.ix ry rfl (by decide) (e := .str ρ.name) rfl fun u2 ru2 => ⟨_, rfl, ?_⟩⟩
        rw [ru2.strv]
        refine ⟨rfl, _, rfl, ?_⟩
        rw [dec_text]
        exact q _ (Ex.refl _)
      · obtain ⟨ρ, _, rfl⟩ := List.mem_map.mp hm
        exact ⟨_, rfl, R.ix ry rfl (by decide) (e := .list (strsD ρ.args)) rfl fun u2 ru2 => q _ _ (Ex.refl _) ru2⟩
      · obtain ⟨t, ht⟩ := rows_named hrow
        rw [show itemsOf (.list (sy.map rowT)) = sy.map rowT from rfl, ht] at rz
        have rl : R N H4 (.ref D2) (.list ((rowT r :: t).map fun d => (itemsOf d).getD 1 .none)) := .lst hz (fun z => n _ z hD2) rz
        refine R.ix rl rfl (by decide) (e := .list (strsD r.args)) rfl fun u2 ru2 => k u2 H4 e4 ?_
        rw [args_row hrow]
        exact ru2
theorem sc__law_sort : FnScope ["world", "word", "row"] ["world", "word"] (C8.fnScope (topS 63)) := C8.fnScope_by (by decide +kernel)
theorem ok_lsort (D : C8.Def K mg "_law_sort" (topS 63) f fd) (b : Binds K fd ["world", "word"] []) (T : TxtB K mg) : C8.Cal P w K mg base 1 "_law_sort" spLSort [] :=
  C8.cal0 D b .nil sc__law_sort (fun vs H Q E h => by obtain ⟨N, v, u, so, sy, dw, t, rfl, _⟩ := h; rfl) fun cdv A outer s0 H vs Q E hr h => by
    obtain ⟨N, v, u, so, sy, dw, t, rfl, n, rv, h16, ru, ht, k⟩ := h
    refine ⟨_, (pss_one (ps_ret (pe_ifExp (pt_val (pe_callB call_isY (by rfl) T.isinstance PyProof.Rows.Boot.«isinstance» (pa_cons (pv 1) (pa_cons (pe_bltn (v := .ty "str") rfl T.str PyProof.Rows.Boot.«str» rfl) pa_nil)))) (pe_ix (show IxR _ (rIxY K) from ix_Y) (pe_lc (own := [("row", 2)]) (g := gName 2) rfl sc__law_sort.nd (pi_seq (pe_ix (show IxR _ (rIxY K) from ix_Y) (pv 0) pe_int (fun _ _ => rfl))) (blkOk_by (N := ["world", "word", "row"]) (sc := C8.fnScope (topS 63)) (by decide +kernel)) (fun _ _ _ _ _ => pg_name (i := 2) sc__law_sort.nd rfl (Or.inl rfl)) (fun _ _ _ _ _ => pts_one (pt_cmpR op_eq (pe_ix (show IxR _ (rIxY K) from ix_Y) (pv 2) pe_int (fun _ _ => rfl)) (pv 1) (nomark _))) (fun _ _ _ _ _ => (pe_ix (show IxR _ (rIxY K) from ix_Y) (pv 2) pe_int (fun _ _ => rfl)))) pe_int (fun _ _ => rfl)) (pe_ix (show IxR _ (rIxY K) from ix_Y) (pv 1) pe_int (fun _ _ => rfl))))), ?_⟩
    refine ⟨_, rfl, R.isStrQ ru ⟨_, rfl, ?_⟩⟩
    cases hs : isStr dw with
    | false =>
      rw [sortW_not hs] at ht
      have hth : isThing dw = true := by
        by_cases c : isThing dw = true
        · exact c
        · rw [if_neg c] at ht
          cases ht
      rw [if_pos hth] at ht
      cases ht
      obtain ⟨hL, x, hx⟩ := thing_leaf.seq dw hth
      refine iteF ⟨_, rfl, R.ix ru hL (by decide) hx fun y ry => ?_⟩
      rw [ry.strv]
      have hg : (itemsOf dw).getD 0 .none = .str x := by
        rw [List.getD_eq_getElem?_getD, hx]
        rfl
      rw [hg] at k
      exact k H (Ex.refl H)
    | true =>
      obtain ⟨x, rfl⟩ := str_is hs
      have ht : (rowOf sy (.str x)).map (·.sort) = some t := ht
      obtain ⟨r, hrow, rfl⟩ := Option.map_eq_some_iff.mp ht
      have ev := ru.strv
      subst ev
      refine iteT ⟨_, rfl, R.ix rv rfl (by decide) (e := .list (sy.map rowT)) rfl fun y ry => ?_⟩
      obtain ⟨a, xs, rfl, ha, ra⟩ := seq_of ry rfl
      obtain ⟨J, sJ, wk⟩ := seq_walk (K := K) ha ra
      refine ⟨a, J, rfl, sJ, fun D2 hD2 => lc_gen (N := N) (nameIs x) (fun d => (itemsOf d).getD 2 .none) wk hD2 n (by show (sy.map rowT).length ≤ 100000; rw [List.length_map]; omega) (fun y dd H4 hm e nn ry Q' q => ?_) (fun y dd H4 hm hk e nn ry Q' q => ?_) fun H4 zs e4 hz rz => ?_⟩
      · obtain ⟨ρ, _, rfl⟩ := List.mem_map.mp hm
        refine ⟨_, rfl, R.ix ry rfl (by decide) (e := .str ρ.name) rfl fun u2 ru2 => ⟨_, rfl, ?_⟩⟩
        rw [ru2.strv]
        refine ⟨rfl, _, rfl, ?_⟩
        rw [dec_text]
        exact q _ (Ex.refl _)
      · obtain ⟨ρ, _, rfl⟩ := List.mem_map.mp hm
        exact ⟨_, rfl, R.ix ry rfl (by decide) (e := .str ρ.sort) rfl fun u2 ru2 => q _ _ (Ex.refl _) ru2⟩
      · obtain ⟨t, ht⟩ := rows_named hrow
        rw [show itemsOf (.list (sy.map rowT)) = sy.map rowT from rfl, ht] at rz
        have rl : R N H4 (.ref D2) (.list ((rowT r :: t).map fun d => (itemsOf d).getD 2 .none)) := .lst hz (fun z => n _ z hD2) rz
        refine R.ix rl rfl (by decide) (e := .str r.sort) rfl fun u2 ru2 => ?_
        rw [ru2.strv]
        exact k H4 e4
end
end K1
end

section
set_option Elab.async false
set_option linter.all false
set_option maxRecDepth 100000
set_option maxHeartbeats 2000000
namespace Rp
open PySem L2
/-- a list of one int, so many times -/
theorem rep_ints {H : Hp} {Q : VK} {p0 : Addr} {c k : Int} (h : H p0 = some (.lst [.int c])) (h0 : 0 ≤ k) (h1 : k ≤ 10000) (q : ∀ p, H p = none → Q (.ref p) (upd H p (.lst ((List.replicate k.toNat c).map V.int)))) : rRepY (.ref p0) (.int k) H Q := by
  unfold rRepY
  have z : (List.replicate k.toNat [V.int c]).flatten = (List.replicate k.toNat c).map V.int := by
    induction k.toNat with
    | zero => rfl
    | succ m ih => rw [List.replicate_succ, List.replicate_succ, List.flatten_cons, ih]; rfl
  refine ⟨p0, k, _, rfl, rfl, h, by omega, by omega, ?_, fun p hp => ?_⟩
  · show 1 * k.toNat ≤ _
    exact Nat.le_trans (by omega : _ ≤ 10000) (by decide)
  · rw [z]
    exact q p hp
end Rp
namespace K1
open PySem L2 Rp
theorem atP_end {sy : List SRow} {ws : List PyData} : ∀ {n at_ : Nat} {rest : List PyData}, at_ ≤ ws.length → skip sy (ws.drop at_) n = some rest → atP sy ws at_ n ≤ ws.length ∧ rest = ws.drop (atP sy ws at_ n)
  | 0, at_, rest, hl, h => by
    rw [skip_zero] at h
    exact ⟨hl, (Option.some.inj h).symm⟩
  | n + 1, at_, rest, hl, h => by
    rw [show n + 1 = 1 + n by omega, skip_add] at h
    cases h1 : skip sy (ws.drop at_) 1 with
    | none => rw [h1] at h; cases h
    | some r1 =>
      rw [h1] at h
      have h : skip sy r1 n = some rest := h
      have hlt : at_ < ws.length := by
        by_cases z : at_ < ws.length
        · exact z
        · rw [List.drop_eq_nil_of_le (by omega)] at h1
          cases h1
      obtain ⟨_, _, e3, e4⟩ := end_facts hlt h1
      rw [e4] at h
      exact atP_end (n := n) e3 h
/-- the end of a part by its arguments -/
theorem end_args {sy : List SRow} {ws rest : List PyData} {k : Nat} {dw : PyData} (hk : ws[k]? = some dw) (h : skip sy (ws.drop k) 1 = some rest) : skip sy (ws.drop (k + 1)) (ar sy dw) = some rest ∧ endOf sy ws k = atP sy ws (k + 1) (ar sy dw) := by
  have hlt : k < ws.length := (List.getElem?_eq_some_iff.mp hk).1
  have hd : ws.drop k = dw :: ws.drop (k + 1) := by
    rw [List.drop_eq_getElem_cons hlt]
    congr 1
    rw [List.getElem?_eq_getElem hlt] at hk
    exact Option.some.inj hk
  have h2 : skip sy (ws.drop (k + 1)) (ar sy dw) = some rest := by
    rw [hd] at h
    have h : skip sy (ws.drop (k + 1)) (0 + ar sy dw) = some rest := h
    rw [Nat.zero_add] at h
    exact h
  refine ⟨h2, ?_⟩
  obtain ⟨e1, _, _, _⟩ := end_facts hlt h
  obtain ⟨a1, a2⟩ := atP_end (by omega) h2
  have hl : rest.length = ws.length - atP sy ws (k + 1) (ar sy dw) := by
    have := congrArg List.length a2
    rw [List.length_drop] at this
    exact this
  omega
theorem atP_ge {sy : List SRow} {ws : List PyData} {at_ m : Nat} (h : ∀ j, j < m → atP sy ws at_ j < ws.length ∧ ∃ r1, skip sy (ws.drop (atP sy ws at_ j)) 1 = some r1) : ∀ j, j < m → at_ ≤ atP sy ws at_ j
  | 0, _ => Nat.le_refl _
  | j + 1, hj => by
    obtain ⟨hlt, r1, hs⟩ := h j (by omega)
    have ih := atP_ge h j (by omega)
    obtain ⟨_, e2, _, _⟩ := end_facts hlt hs
    rw [atP_succ]
    omega
def endsI (sy : List SRow) (ws : List PyData) : List Int := (List.range ws.length).map fun k => ((endOf sy ws k : Nat) : Int)
def spLBehind : Sp := fun vs H Q _ => ∃ (N : Addr → Prop) (v u : V) (so : List Str) (sy : List SRow) (ws : List PyData), vs = [v, u] ∧ NOk N H ∧ R N H v (worldD so sy) ∧ sy.length ≤ 16 ∧ R N H u (.tuple ws) ∧ ws.length ≤ 1000 ∧ ws.all (knownW sy) = true ∧ (∀ k, k < ws.length → ∃ rest, skip sy (ws.drop k) 1 = some rest) ∧
  ∀ x H', Ex H H' → R N H' x (.list ((endsI sy ws).map PyData.int)) → Q x H'
section
variable {P : Program} {w : World} {K : PySem.W.Frag} {mg : Str → Option Value} {base : Heap} {f fL : Addr} {fd : FuncData} {C CB CT CN : Addr}
theorem sc__law_behind : FnScope ["world", "tree", "found", "back", "spot", "at", "sort"] ["world", "tree"] (C8.fnScope (topS 64)) := C8.fnScope_by (by decide +kernel)
theorem ok_lbehind (D : C8.Def K mg "_law_behind" (topS 64) f fd) (b : Binds K fd ["world", "tree"] []) (T : TxtB K mg) (G__law_args : C8.Cal P w K mg base 1 "_law_args" spLArgs []) : C8.Cal P w K mg base 2 "_law_behind" spLBehind [] :=
  C8.cal0 D b .nil sc__law_behind (fun vs H Q E h => by obtain ⟨N, v, u, so, sy, ws, rfl, _⟩ := h; rfl) fun cdv A outer s0 H vs Q E hr h => by
    obtain ⟨N, v, u, so, sy, ws, rfl, n, rv, h16, ru, hlen, hall, hpart, q⟩ := h
    refine ⟨_, (pss_cons (ps_set (i := 2) sc__law_behind.nd rfl (by first | exact Or.inl rfl | exact Or.inr rfl) (pe_op op_repY (pe_lst (pa_cons pe_int pa_nil)) (pe_callB (show CallR _ _ (Rp.rLen K) from call_lenS) (by rfl) T.len PyProof.Rows.Boot.«len» (pa_cons (pv 1) pa_nil))))
      (pss_cons (ps_for PassesOwn.never rfl (pi_range1 rfl T.range (pa_cons (pe_callB (show CallR _ _ (Rp.rLen K) from call_lenS) (by rfl) T.len PyProof.Rows.Boot.«len» (pa_cons (pv 1) pa_nil)) pa_nil)) (pg_name (i := 3) sc__law_behind.nd rfl (by first | exact Or.inl rfl | exact Or.inr rfl))
      (pss_cons (ps_set (i := 4) sc__law_behind.nd rfl (by first | exact Or.inl rfl | exact Or.inr rfl) (pe_op op_sub (pe_op op_sub (pe_callB (show CallR _ _ (Rp.rLen K) from call_lenS) (by rfl) T.len PyProof.Rows.Boot.«len» (pa_cons (pv 1) pa_nil)) pe_int) (pv 3)))
      (pss_cons (ps_set (i := 5) sc__law_behind.nd rfl (by first | exact Or.inl rfl | exact Or.inr rfl) (pe_op op_add (pv 4) pe_int))
      (pss_cons (ps_for PassesOwn.never rfl (pi_seq (C8.pe_c G__law_args hr (by decide) (by rfl) (pa_cons (pv 0) (pa_cons (pe_ix (show IxR _ (rIxY K) from ix_Y) (pv 1) (pv 4) (fun _ _ => rfl)) pa_nil)))) (pg_name (i := 6) sc__law_behind.nd rfl (by first | exact Or.inl rfl | exact Or.inr rfl))
      (pss_one (ps_set (i := 5) sc__law_behind.nd rfl (by first | exact Or.inl rfl | exact Or.inr rfl) (pe_ix (show IxR _ (rIxY K) from ix_Y) (pv 2) (pv 5) (fun _ _ => rfl)))))
      (pss_one (ps_asg (pv 5) (pg_sub (pv 2) (pv 4) set_list)))))))
      (pss_one (ps_ret (pv 2))))), ?_⟩
    refine ⟨(by show 1 ≤ sizeLine; decide), fun p0 hp0 => ⟨_, rfl, R.len (ru.ex (Ex.new hp0)) rfl ?_⟩⟩
    have hil : (((itemsOf (.tuple ws)).length : Nat) : Int) = (ws.length : Int) := rfl
    rw [hil]
    refine rep_ints upd_same (by omega) (by omega) fun W hW => ?_
    have e1 := Ex.new (o := HO.lst [V.int 0]) hp0
    have hW0 : H W = none := e1.free hW
    have e2 := e1.trans (Ex.new (o := HO.lst ((List.replicate ((ws.length : Nat) : Int).toNat (0 : Int)).map V.int)) hW)
    refine ⟨_, rfl, R.len (ru.ex e2) rfl ⟨_, rfl, by omega, by omega, ?_⟩⟩
    have hrl : (rangeD 0 ((ws.length : Nat) : Int).toNat).length = ws.length := by rw [rangeD_length, Int.toNat_natCast]
    refine for_data (N := plus N W) (ds := rangeD 0 ((ws.length : Nat) : Int).toNat) (fun j σ H' => ∃ (x3 x4 x5 x6 : Option V) (is : List Int), σ = [some v, some u, some (.ref W), x3, x4, x5, x6] ∧ Ex (upd H p0 (.lst [V.int 0])) H' ∧ H' W = some (.lst (is.map V.int)) ∧ is.length = ws.length ∧ ∀ k, ws.length ≤ k + j → k < ws.length → is[k]? = some ((endOf sy ws k : Nat) : Int)) wkx_range ?_ ?_ ?_ ?_
    · refine ⟨none, none, none, none, _, rfl, Ex.new hW, upd_same, by rw [List.length_replicate, Int.toNat_natCast], fun k h1 h2 => by omega⟩
    · rintro i σ H' ⟨x3, x4, x5, x6, is, rfl, e, hw, _⟩ b o nb _ hb
      have nb' : b ≠ W := fun z => nb (.inr z)
      rw [upd_ne nb'] at hb
      exact e b o hb
    · rintro j x d σ H2 hj ⟨x3, x4, x5, x6, is, rfl, e, hw, hil2, hends⟩ rx
      have hj' : j < ws.length := by
        have := (List.getElem?_eq_some_iff.mp hj).1
        rw [hrl] at this
        exact this
      have ed : d = .int ((j : Nat) : Int) := by
        have z : (rangeD 0 ((ws.length : Nat) : Int).toNat)[j]? = some (.int (0 + (j : Int))) := by rw [Int.toNat_natCast]; simp [rangeD, List.getElem?_map, List.getElem?_range hj']
        rw [z] at hj
        have := Option.some.inj hj
        rw [← this, Int.zero_add]
      subst ed
      have ex := rx.intv
      subst ex
      have e0 := e1.trans e
      have hk : ws.length - 1 - j < ws.length := by omega
      have hks : ((ws.length : Int) - 1 - (j : Int)) = ((ws.length - 1 - j : Nat) : Int) := by omega
      have hks1 : ((ws.length - 1 - j : Nat) : Int) + 1 = ((ws.length - 1 - j + 1 : Nat) : Int) := by omega
      refine ⟨_, rfl, R.len (ru.ex e0) rfl ⟨_, _, rfl, rfl, _, rfl, _, _, rfl, rfl, ?_⟩⟩
      rw [show (((itemsOf (.tuple ws)).length : Nat) : Int) = (ws.length : Int) from rfl]
      dsimp only
      rw [hks]
      refine ⟨_, rfl, _, _, rfl, rfl, ?_⟩
      dsimp only
      rw [hks1]
      have hat : ws[ws.length - 1 - j]? = some ws[ws.length - 1 - j] := List.getElem?_eq_getElem hk
      obtain ⟨rest, hsk⟩ := hpart _ hk
      obtain ⟨hsk2, hend⟩ := end_args hat hsk
      have hch := atP_skip (at_ := ws.length - 1 - j + 1) (by omega) hsk2
      refine ⟨_, rfl, _, rfl, _, rfl, R.ix (ru.ex e0) rfl (by omega) (e := ws[ws.length - 1 - j]) (by show ws[((ws.length - 1 - j : Nat) : Int).toNat]? = _; rw [Int.toNat_natCast]; exact hat) fun y ry => ?_⟩
      refine ⟨N, v, y, so, sy, _, rfl, n.ex e0, rv.ex e0, h16, ry, List.all_eq_true.mp hall _ (List.getElem_mem hk), fun xa H3 e3 rxa => ?_⟩
      obtain ⟨a, J, rfl, sJ, wk, _⟩ := seq_wkx (K := K) rxa rfl
      have hw3 := e3 _ _ hw
      refine ⟨a, J, rfl, sJ, for_data (N := N) (ds := argsD sy ws[ws.length - 1 - j]) (fun i σ H' => ∃ x6 : Option V, σ = [some v, some u, some (.ref W), some (.int (j : Int)), some (.int ((ws.length - 1 - j : Nat) : Int)), some (.int ((atP sy ws (ws.length - 1 - j + 1) i : Nat) : Int)), x6] ∧ H' = H3) wk ⟨x6, rfl, rfl⟩ (fun i σ H' ⟨_, _, h⟩ => by subst h; exact (Ex.refl _).xn) ?_ ?_⟩
      · rintro i xi di σ H' hdi ⟨x6', rfl, rfl⟩ rxi
        have hi' : i < ar sy ws[ws.length - 1 - j] := (List.getElem?_eq_some_iff.mp hdi).1
        obtain ⟨hlt, r1, hs1⟩ := hch i hi'
        have hge : ws.length - 1 - j + 1 ≤ atP sy ws (ws.length - 1 - j + 1) i := atP_ge hch i hi'
        have hval := hends _ (by omega) hlt
        have rf : R (fun _ => False) H' (.ref W) (.list (is.map PyData.int)) := .lst hw3 (fun z => z) (ints_R is)
        refine ⟨_, rfl, _, rfl, R.ix rf rfl (by omega) (e := .int ((endOf sy ws (atP sy ws (ws.length - 1 - j + 1) i) : Nat) : Int)) (by show (is.map PyData.int)[((_ : Nat) : Int).toNat]? = _; rw [Int.toNat_natCast, List.getElem?_map, hval]; rfl) fun y2 ry2 => ?_⟩
        rw [ry2.intv, ← atP_succ]
        exact ⟨_, rfl, rfl⟩
      · rintro σ H' ⟨x6', rfl, rfl⟩
        have hie : ixN (is.map V.int).length ((ws.length - 1 - j : Nat) : Int) = some (ws.length - 1 - j) := by
          unfold ixN
          rw [List.length_map, hil2, if_pos (by omega), if_pos (by omega), Int.toNat_natCast]
        refine ⟨_, rfl, _, rfl, _, rfl, W, _, _, ws.length - 1 - j, rfl, rfl, hw3, hie, ?_⟩
        have hal : (argsD sy ws[ws.length - 1 - j]).length = ar sy ws[ws.length - 1 - j] := rfl
        rw [hal, ← hend]
        refine ⟨_, _, _, _, is.set (ws.length - 1 - j) ((endOf sy ws (ws.length - 1 - j) : Nat) : Int), rfl, (e.trans e3).mut hW, ?_, by rw [List.length_set]; exact hil2, fun k h1 h2 => ?_⟩
        · rw [upd_same, List.map_set]
        · by_cases hkk : k = ws.length - 1 - j
          · subst hkk
            exact List.getElem?_set_self (by omega)
          · rw [List.getElem?_set_ne (fun z => hkk z.symm)]
            exact hends k (by omega) h2
    · rintro σ H' ⟨x3, x4, x5, x6, is, rfl, e, hw, hil2, hends⟩
      rw [hrl] at hends
      have hi : is = endsI sy ws := by
        refine List.ext_getElem? fun k => ?_
        unfold endsI
        by_cases hk : k < ws.length
        · rw [hends k (by omega) hk, List.getElem?_map, List.getElem?_range hk]
          rfl
        · rw [List.getElem?_eq_none (by omega), List.getElem?_eq_none (by rw [List.length_map, List.length_range]; omega)]
      refine ⟨_, rfl, q _ _ (e1.trans e) (.lst hw (fun z => n _ z hW0) ?_)⟩
      rw [hi]
      exact ints_R _
end
end K1
end

section
set_option Elab.async false
set_option linter.all false
set_option maxRecDepth 100000
set_option maxHeartbeats 2000000
namespace K1
open PySem L2 Rp
/-! ### _law_tree -/
def TT : Nat → Nat
  | 0 => 0
  | e + 1 => 2 + 3 * TT e
def LL : Nat → Nat
  | 0 => 0
  | e + 1 => 1 + 3 * LL e
/-- a word of a drawn tree: it is fixed -/
def plainW (w : PyData) : Bool := match w with
  | .str _ => true
  | .tuple [.str a, .str b] => nameOk a && nameOk b
  | _ => false
structure Grown (so : List Str) (sy : List SRow) (s : Str) (m : Nat) (ws : List PyData) : Prop where
  told : ∀ more st, toldGo so sy isThing (ws ++ more) (.str s :: st) = toldGo so sy isThing more st
  plain : ws.all plainW = true
  few : ws.length ≤ m
  pos : 0 < ws.length
theorem Grown.mono {so : List Str} {sy : List SRow} {s : Str} {m m' : Nat} {ws : List PyData} (g : Grown so sy s m ws) (h : m ≤ m') : Grown so sy s m' ws := ⟨g.told, g.plain, Nat.le_trans g.few h, g.pos⟩
theorem w_rows : ∀ p ∈ worlds, (p.2.all fun r => decide (rowOf p.2 (.str r.name) = some r)) = true ∧ (p.2.all fun r => r.args.all fun a => decide (a ∈ p.1)) = true ∧ p.1.all nameOk = true ∧ p.2.length ≤ 16 ∧ (p.2.all fun r => decide (r.sort ∈ p.1)) = true := by decide +kernel
theorem lay_rowT : ∀ {sy : List SRow}, sy.all rowOk = true → PyData.canLayAll0 (sy.map rowT) = true ∧ PyData.depthAll (sy.map rowT) ≤ 2 ∧ noDicts (sy.map rowT) = true
  | [], _ => ⟨rfl, Nat.zero_le _, rfl⟩
  | r :: t, h => by
    rw [List.all_cons, Bool.and_eq_true] at h
    obtain ⟨h1, h3⟩ := Bool.and_eq_true_iff.mp h.1
    obtain ⟨h1, h2⟩ := Bool.and_eq_true_iff.mp h1
    obtain ⟨i1, i2, i3⟩ := lay_rowT h.2
    refine ⟨?_, ?_, ?_⟩
    · show ((PyData.strOk r.name && (PyData.canLayAll0 (strsD r.args) && (PyData.strOk r.sort && true))) && PyData.canLayAll0 (t.map rowT)) = true
      rw [i1, lay_strs, h1, h2, h3]
      rfl
    · show max (PyData.depth (rowT r)) (PyData.depthAll (t.map rowT)) ≤ 2
      refine Nat.max_le.mpr ⟨?_, i2⟩
      show max 0 (max (PyData.depthAll (strsD r.args) + 1) (max 0 0)) + 1 ≤ 2
      rw [depth_strs]
      decide
    · show ((noDict (.str r.name) && (noDicts (strsD r.args) && (noDict (.str r.sort) && true))) && noDicts (t.map rowT)) = true
      rw [i3, noDict_strs]
      rfl
theorem shaped_rowT {sy : List SRow} (h : sy.all rowOk = true) : SeqAt.shaped (.list (sy.map rowT)) = true ∧ noDict (.list (sy.map rowT)) = true := by
  obtain ⟨h1, h2, h3⟩ := lay_rowT h
  refine ⟨?_, h3⟩
  show (PyData.canLayAll0 (sy.map rowT) && decide (PyData.depthAll (sy.map rowT) + 1 ≤ 64)) = true
  rw [h1, decide_eq_true (by omega)]
  rfl
def keepW (s : Str) (e : Nat) (r : SRow) : Bool := decide (r.sort = s) && (decide (1 < e) || r.args.isEmpty)
theorem told_thing {so : List Str} {sy : List SRow} {s a : Str} (hs : s ∈ so) (hn : nameOk s = true) (ha : nameOk a = true) : Grown so sy s 1 [.tuple [.str s, .str a]] where
  told more st := by
    show (if fitsB so sy isThing (.tuple [.str s, .str a]) (.str s) = true then toldGo so sy isThing more ([] ++ st) else none) = _
    have h1 : isThing (.tuple [.str s, .str a]) = true := by
      show (true && decide (2 = 2) && nameOk s && nameOk a) = true
      rw [hn, ha]
      rfl
    have h2 : fitsB so sy isThing (.tuple [.str s, .str a]) (.str s) = true := by
      show (isThing (.tuple [.str s, .str a]) && (decide (2 = 1) || (decide (s ∈ so) && decide (s = s)))) = true
      rw [h1, decide_eq_true hs, decide_eq_true rfl]
      rfl
    rw [if_pos h2]
    rfl
  plain := by
    show (nameOk s && nameOk a && true) = true
    rw [hn, ha]
    rfl
  few := Nat.le_refl _
  pos := by show 0 < 1; omega
theorem told_name {so : List Str} {sy : List SRow} {s : Str} {r : SRow} (hr : rowOf sy (.str r.name) = some r) (hs : r.sort = s) (more st : List PyData) : toldGo so sy isThing ([.str r.name] ++ more) (.str s :: st) = toldGo so sy isThing more (strsD r.args ++ st) := by
  show (if fitsB so sy isThing (.str r.name) (.str s) = true then toldGo so sy isThing more (argsD sy (.str r.name) ++ st) else none) = _
  rw [fits_some hr, args_row hr]
  show (if decide (r.sort = s) = true then _ else none) = _
  rw [decide_eq_true hs, if_pos rfl]
def spLTree (e : Nat) : Sp := fun vs H Q _ => ∃ (N : Addr → Prop) (P C : Addr) (ns : List Int) (n : Nat) (wv : V) (so : List Str) (sy : List SRow) (s : Str), vs = [.ref P, wv, .str s, .int (e : Int)] ∧ 1 ≤ e ∧ e ≤ 6 ∧ N P ∧ NOk N H ∧ R N H wv (worldD so sy) ∧ IsW so sy ∧ s ∈ so ∧ Pen P C ns (n + TT e) H ∧
  ∀ ws u H', Grown so sy s (LL e) ws → Pen P C ns n H' → Xt P H H' → R N H' u (.tuple ws) → Q u H'
section
variable {P : Program} {w : World} {K : PySem.W.Frag} {mg : Str → Option Value} {base : Heap} {f fL : Addr} {fd : FuncData} {C CB CT CN : Addr}
theorem sc__law_tree : FnScope ["pen", "world", "sort", "deep", "some", "row", "found", "each"] ["pen", "world", "sort", "deep"] (C8.fnScope (topS 65)) := C8.fnScope_by (by decide +kernel)
theorem ok_ltreeF (D : C8.Def K mg "_law_tree" (topS 65) f fd) (b : Binds K fd ["pen", "world", "sort", "deep"] []) (T : TxtB K mg) (G__law_draw : C8.Cal P w K mg base 1 "_law_draw" spDraw []) (G__law_pick : C8.Cal P w K mg base 2 "_law_pick" spPick []) : ∀ e, FnOk P w K mg base C8.CX0 (e + 3) f fd ["pen", "world", "sort", "deep"] (spLTree e)
  | 0 => ⟨fun vs H Q E h => by obtain ⟨_, _, _, _, _, _, _, _, _, rfl, _⟩ := h; rfl, fun A outer s H args us vs Q E _ _ _ _ h => by
      obtain ⟨_, _, _, _, _, _, _, _, _, _, h, _⟩ := h
      cases h⟩
  | e + 1 => C8.fn0 D.fn sc__law_tree (fun vs H Q E h => by obtain ⟨_, _, _, _, _, _, _, _, _, rfl, _⟩ := h; rfl) fun cdv A outer s0 H vs Q E hr h => by
    have G__law_tree : C8.Cal P w K mg base (e + 3) "_law_tree" (spLTree e) [] := ⟨f, fd, ["pen", "world", "sort", "deep"], [], ok_ltreeF D b T G__law_draw G__law_pick e, D.mgf, D.kp, b, .nil⟩
    have hu := hr.units
    obtain ⟨N, P, C, ns, n, wv, so, sy, s, rfl, _, he6, hP, nN, rv, hw, hs, pn, k⟩ := h
    obtain ⟨q1, q2, q3, q4, q5⟩ := w_rows _ hw
    obtain ⟨_, _, _, _, q6, _⟩ := w_bool _ hw
    have hrows : ∀ r ∈ sy, rowOf sy (.str r.name) = some r := fun r hr => of_decide_eq_true (List.all_eq_true.mp q1 r hr)
    have hargs : ∀ r ∈ sy, ∀ a ∈ r.args, a ∈ so := fun r hr a ha => of_decide_eq_true (List.all_eq_true.mp (List.all_eq_true.mp q2 r hr) a ha)
    have hnm : nameOk s = true := List.all_eq_true.mp q3 s hs
    refine ⟨_, (pss_cons (ps_setLc (i := 4) (own := [("row", 5)]) (g := gName 5) rfl sc__law_tree.nd rfl rfl (sw_true rfl rfl rfl rfl) (pi_seq (pe_ix (show IxR _ (rIxY K) from ix_Y) (pv 1) pe_int (fun _ _ => rfl))) (blkOk_by (N := ["pen", "world", "sort", "deep", "some", "row", "found", "each"]) (sc := C8.fnScope (topS 65)) (by decide +kernel)) (fun _ _ _ _ _ => pg_name (i := 5) sc__law_tree.nd rfl (Or.inl rfl)) (fun _ _ _ _ _ => pts_one (PW.pt (pw_and (pt_cmpR op_eq (pe_ix (show IxR _ (rIxY K) from ix_Y) (pv 5) pe_int (fun _ _ => rfl)) (pv 2) (nomark _)) (pw_and1 (PW.pt (pw_or (pt_cmpR op_gt (pv 3) pe_int (nomark _)) (pw_or1 (pt_cmpR (show OpR _ _ (rEqY K) from op_eqY (by exact hu)) (pe_ix (show IxR _ (rIxY K) from ix_Y) (pv 5) pe_int (fun _ _ => rfl)) (pe_lst pa_nil) (nomark _))))))))) (fun _ _ _ _ _ => (pv 5)))
      (pss_cons (ps_if (PW.pt (pw_or (pt_cmpR (show OpR _ _ (rEqY K) from op_eqY (by exact hu)) (pv 4) (pe_lst pa_nil) (nomark _)) (pw_or1 (pt_cmpR op_eq (C8.pe_c G__law_draw hr (by omega) (by rfl) (pa_cons (pv 0) (pa_cons (pe_op op_add pe_int (pe_op op_mul pe_int (pe_callTy call_int1 (by rfl) T.int PyProof.Rows.Boot.«int» (pa_cons (pe_cmpR op_gt (pv 3) pe_int (nomark _)) pa_nil)))) pa_nil))) pe_int (nomark _)))))
      (pss_one (ps_ret (pe_tup (pa_cons (pe_tup (pa_cons (pv 2) (pa_cons (C8.pe_c G__law_pick hr (by omega) (by rfl) (pa_cons (pv 0) (pa_cons (lit_lst (lits_cons lit_str (lits_cons lit_str lits_nil))) pa_nil))) pa_nil))) pa_nil))))
      pss_nil)
      (pss_cons (ps_set (i := 5) sc__law_tree.nd rfl (by first | exact Or.inl rfl | exact Or.inr rfl) (C8.pe_c G__law_pick hr (by omega) (by rfl) (pa_cons (pv 0) (pa_cons (pe_op op_catY (pv 4) (pe_op op_repY (pe_lc (own := [("row", 5)]) (g := gName 5) rfl sc__law_tree.nd (pi_seq (pv 4)) (blkOk_by (N := ["pen", "world", "sort", "deep", "some", "row", "found", "each"]) (sc := C8.fnScope (topS 65)) (by decide +kernel)) (fun _ _ _ _ _ => pg_name (i := 5) sc__law_tree.nd rfl (Or.inl rfl)) (fun _ _ _ _ _ => pts_one (pt_cmpR (show OpR _ _ (rNeY K) from op_neY (by exact hu)) (pe_ix (show IxR _ (rIxY K) from ix_Y) (pv 5) pe_int (fun _ _ => rfl)) (pe_lst pa_nil) (nomark _))) (fun _ _ _ _ _ => (pv 5))) pe_int)) pa_nil))))
      (pss_cons (ps_set (i := 6) sc__law_tree.nd rfl (by first | exact Or.inl rfl | exact Or.inr rfl) (pe_tup (pa_cons (pe_ix (show IxR _ (rIxY K) from ix_Y) (pv 5) pe_int (fun _ _ => rfl)) pa_nil)))
      (pss_cons (ps_for PassesOwn.never rfl (pi_seq (pe_ix (show IxR _ (rIxY K) from ix_Y) (pv 5) pe_int (fun _ _ => rfl))) (pg_name (i := 7) sc__law_tree.nd rfl (by first | exact Or.inl rfl | exact Or.inr rfl))
      (pss_one (ps_set (i := 6) sc__law_tree.nd rfl (by first | exact Or.inl rfl | exact Or.inr rfl) (pe_op op_catAY (pv 6) (C8.pe_c G__law_tree hr (Nat.le_refl _) (by rfl) (pa_cons (pv 0) (pa_cons (pv 1) (pa_cons (pv 7) (pa_cons (pe_op op_sub (pv 3) pe_int) pa_nil)))))))))
      (pss_one (ps_ret (pv 6)))))))), ?_⟩
    refine ⟨_, rfl, R.ix rv rfl (by decide) (e := .list (sy.map rowT)) rfl fun y ry => ?_⟩
    obtain ⟨a, xs, rfl, ha, ra⟩ := seq_of ry rfl
    obtain ⟨J, sJ, wk⟩ := seq_walk (K := K) ha ra
    refine ⟨a, J, rfl, sJ, fun D2 hD2 => lc_gen (N := N) (fun d => keepW s (e + 1) (rowAt d)) (fun d => d) wk hD2 nN (by show (sy.map rowT).length ≤ 100000; rw [List.length_map]; exact Nat.le_trans q4 (by decide)) (fun y dd H4 hm e4 nn ry Q' q => ?_) (fun y dd H4 hm hk e4 nn ry Q' q => ⟨_, rfl, q _ _ (Ex.refl _) ry⟩) fun H1 zs e1 hz rz => ?_⟩
    · obtain ⟨ρ, hρ, rfl⟩ := List.mem_map.mp hm
      rw [rowAt_T] at q
      have hok : ρ.args.all PyData.strOk = true := (Bool.and_eq_true_iff.mp (List.all_eq_true.mp q6 ρ hρ)).2
      refine ⟨_, rfl, R.ix ry rfl (by decide) (e := .str ρ.sort) rfl fun u ru => ⟨_, rfl, ?_⟩⟩
      rw [ru.strv]
      refine ⟨rfl, _, rfl, ?_⟩
      rw [dec_text]
      unfold keepW at q
      cases hb : decide (ρ.sort = s) with
      | false =>
        rw [hb] at q
        exact iteF (q _ (Ex.refl _))
      | true =>
        rw [hb] at q
        refine iteT ⟨_, rfl, _, _, rfl, rfl, _, rfl, ?_⟩
        rw [show decide ((1 : Int) < ((e + 1 : Nat) : Int)) = decide (1 < e + 1) from decide_eq_decide.mpr (by omega)]
        cases hb2 : decide (1 < e + 1) with
        | true =>
          rw [hb2] at q
          exact iteT (q _ (Ex.refl _))
        | false =>
          rw [hb2] at q
          refine iteF ⟨_, rfl, R.ix ry rfl (by decide) (e := .list (strsD ρ.args)) rfl fun u2 ru2 => ⟨Nat.zero_le _, fun p hp => ?_⟩⟩
          have e0 := Ex.new (o := HO.lst []) hp
          refine R.eqD (ru2.ex e0) (RAll.nil.lstR nn hp) (noDict_strs _) rfl (shaped_strs hok).2 rfl ⟨_, rfl, ?_⟩
          rw [eqv_empty]
          have hz : (strsD ρ.args).isEmpty = ρ.args.isEmpty := by cases ρ.args <;> rfl
          rw [hz]
          have := q _ e0
          simpa using this
    have hfm : (itemsOf (.list (sy.map rowT))).filter (fun d => keepW s (e + 1) (rowAt d)) = (sy.filter (keepW s (e + 1))).map rowT := by
      show (sy.map rowT).filter _ = _
      rw [List.filter_map]
      congr 1
      refine congrArg (fun p => sy.filter p) ?_
      funext r
      show keepW s (e + 1) (rowAt (rowT r)) = _
      rw [rowAt_T]
    rw [hfm, List.map_id'] at rz
    have hsub : ∀ r ∈ sy.filter (keepW s (e + 1)), r ∈ sy ∧ r.sort = s ∧ (1 < e + 1 ∨ r.args = []) := fun r hr => by
      obtain ⟨h1, h2⟩ := List.mem_filter.mp hr
      unfold keepW at h2
      simp only [Bool.and_eq_true, Bool.or_eq_true, decide_eq_true_eq, List.isEmpty_iff] at h2
      exact ⟨h1, h2.1, h2.2⟩
    have hsl : (sy.filter (keepW s (e + 1))).length ≤ 16 := Nat.le_trans (List.length_filter_le _ _) q4
    generalize sy.filter (keepW s (e + 1)) = sr at rz hsub hsl
    have n1 := nN.ex e1
    have rsome : R N H1 (.ref D2) (.list (sr.map rowT)) := .lst hz (fun z => nN _ z hD2) rz
    have hrok : sr.all rowOk = true := List.all_eq_true.mpr fun r hr => List.all_eq_true.mp q6 r (hsub r hr).1
    obtain ⟨sh, nd⟩ := shaped_rowT hrok
    refine ⟨_, rfl, Nat.zero_le _, fun p hp => ?_⟩
    have ep := Ex.new (o := HO.lst []) hp
    refine R.eqD (rsome.ex ep) (RAll.nil.lstR n1 hp) nd rfl sh rfl ⟨_, rfl, ?_⟩
    rw [eqv_empty]
    have e2 := e1.trans ep
    have n2 := nN.ex e2
    have pn2 := pn.ex e2
    cases sr with
    | nil =>
      refine iteT ?_
      refine ⟨_, rfl, _, rfl, N, n2, fun u3 H3 e3 r3 => ⟨N, P, C, ns, n + (1 + 3 * TT e), u3, .list [.str "k", .str "z"], rfl, hP, r3, rfl, by decide, by decide, (pn2.ex e3).le (by have hTT : TT (e + 1) = 2 + 3 * TT e := rfl; omega), fun i ev x H4 he pn4 xt4 rx => ?_⟩⟩
      obtain ⟨a, rfl, hna⟩ : ∃ a, ev = .str a ∧ nameOk a = true := by
        match i, he with
        | 0, he => cases he; exact ⟨_, rfl, by decide +kernel⟩
        | 1, he => cases he; exact ⟨_, rfl, by decide +kernel⟩
      rw [rx.strv]
      refine ⟨(by show 2 ≤ sizeLine; decide), fun p4 hp4 => ⟨(by show 1 ≤ sizeLine; decide), fun p5 hp5 => ?_⟩⟩
      have n4 : NOk N H4 := (n2.ex e3).xt xt4 pn4.some
      have rt : R N _ (.ref p4) (.tuple [.str s, .str a]) := RAll.tupR (.cons (.str s) (.cons (.str a) .nil)) n4 hp4
      have rt2 := RAll.tupR (.cons rt .nil) (n4.ex (Ex.new hp4)) hp5
      have e45 := (Ex.new (o := HO.tup [.str s, .str a]) hp4).trans (Ex.new (o := HO.tup [.ref p4]) hp5)
      exact k _ _ _ ((told_thing hs hnm hna).mono (by show 1 ≤ 1 + 3 * LL e; omega)) ((pn4.ex e45).le (by omega)) (((e2.xt.trans e3.xt).trans xt4).trans e45.xt) rt2
    | cons r0 sr' =>
      have hTT : TT (e + 1) = 2 + 3 * TT e := rfl
      refine iteF ⟨_, rfl, _, rfl, _, _, rfl, rfl, .inr ⟨_, rfl, _, _, rfl, rfl, .inl ⟨by decide, by decide⟩, _, _, rfl, rfl, P, C, ns, n + (1 + 3 * TT e), _, rfl, pn2.le (by omega), ?_, ?_, fun rd H9 rd0 rd1 pn9 xt3 => ?_⟩⟩
      · split <;> omega
      · split <;> omega
      · have n9 : NOk N H9 := n2.xt xt3 pn9.some
        have x9 : Xt P H H9 := e2.xt.trans xt3
        refine ⟨rfl, _, rfl, ?_⟩
        refine ite2 (fun _ => ?_) (fun _ => ?_)
        · skip
          refine ⟨_, rfl, _, rfl, N, n9, fun u3 H3 e3 r3 => ⟨N, P, C, ns, n + (3 * TT e), u3, .list [.str "k", .str "z"], rfl, hP, r3, rfl, by decide, by decide, (pn9.ex e3).le (by have hTT : TT (e + 1) = 2 + 3 * TT e := rfl; omega), fun i ev x H4 he pn4 xt4 rx => ?_⟩⟩
          obtain ⟨a, rfl, hna⟩ : ∃ a, ev = .str a ∧ nameOk a = true := by
            match i, he with
            | 0, he => cases he; exact ⟨_, rfl, by decide +kernel⟩
            | 1, he => cases he; exact ⟨_, rfl, by decide +kernel⟩
          rw [rx.strv]
          refine ⟨(by show 2 ≤ sizeLine; decide), fun p4 hp4 => ⟨(by show 1 ≤ sizeLine; decide), fun p5 hp5 => ?_⟩⟩
          have n4 : NOk N H4 := (n9.ex e3).xt xt4 pn4.some
          have rt : R N _ (.ref p4) (.tuple [.str s, .str a]) := RAll.tupR (.cons (.str s) (.cons (.str a) .nil)) n4 hp4
          have rt2 := RAll.tupR (.cons rt .nil) (n4.ex (Ex.new hp4)) hp5
          have e45 := (Ex.new (o := HO.tup [.str s, .str a]) hp4).trans (Ex.new (o := HO.tup [.ref p4]) hp5)
          exact k _ _ _ ((told_thing hs hnm hna).mono (by show 1 ≤ 1 + 3 * LL e; omega)) ((pn4.ex e45).le (by omega)) (((x9.trans e3.xt).trans xt4).trans e45.xt) rt2
        · have rs9 : R N H9 (.ref D2) (.list ((r0 :: sr').map rowT)) := (rsome.ex ep).mono (xt3.xn hP)
          refine ⟨_, rfl, _, rfl, ?_⟩
          obtain ⟨a2, xs2, ea2, ha2, ra2⟩ := seq_of rs9 rfl
          obtain ⟨J2, sJ2, wk2⟩ := seq_walk (K := K) ha2 ra2
          refine ⟨_, rfl, a2, J2, ea2, sJ2, fun D3 hD3 => lc_gen (N := N) (fun d => !(rowAt d).args.isEmpty) (fun d => d) wk2 hD3 n9 (by show ((r0 :: sr').map rowT).length ≤ 100000; rw [List.length_map]; omega) (fun y dd H4 hm e4 nn ry Q' q => ?_) (fun y dd H4 hm hk e4 nn ry Q' q => ⟨_, rfl, q _ _ (Ex.refl _) ry⟩) fun H10 zs2 e10 hz2 rz2 => ?_⟩
          · obtain ⟨ρ, hρ, rfl⟩ := List.mem_map.mp hm
            rw [rowAt_T] at q
            have hok : ρ.args.all PyData.strOk = true := (Bool.and_eq_true_iff.mp (List.all_eq_true.mp hrok ρ hρ)).2
            refine ⟨_, rfl, R.ix ry rfl (by decide) (e := .list (strsD ρ.args)) rfl fun u2 ru2 => ⟨Nat.zero_le _, fun p hp => ?_⟩⟩
            have e0 := Ex.new (o := HO.lst []) hp
            refine R.neD (ru2.ex e0) (RAll.nil.lstR nn hp) (noDict_strs _) rfl (shaped_strs hok).2 rfl ⟨_, rfl, ?_⟩
            rw [eqv_empty]
            have hz : (strsD ρ.args).isEmpty = ρ.args.isEmpty := by cases ρ.args <;> rfl
            rw [hz]
            exact q _ e0
          · rw [List.map_id'] at rz2
            have n10 := n9.ex e10
            have rl2 : R N H10 (.ref D3) (.list (((r0 :: sr').map rowT).filter fun d => !(rowAt d).args.isEmpty)) := .lst hz2 (fun z => n9 _ z hD3) rz2
            have hfl : (((r0 :: sr').map rowT).filter fun d => !(rowAt d).args.isEmpty).length ≤ 16 := Nat.le_trans (List.length_filter_le _ _) (by rw [List.length_map]; exact hsl)
            refine R.rep rl2 n10 (by decide) (by decide) (by omega) fun u11 H11 e11 r11 => ?_
            have e911 := e10.trans e11
            have hrl : (List.replicate (3 : Int).toNat (((r0 :: sr').map rowT).filter fun d => !(rowAt d).args.isEmpty)).flatten.length ≤ 48 := by
              show (List.replicate 3 _).flatten.length ≤ 48
              rw [List.length_flatten, List.map_replicate, List.sum_replicate_nat]
              omega
            refine R.cat (rs9.ex e911) r11 (n9.ex e911) (by rw [List.length_map]; omega) fun u12 H12 e12 r12 => ?_
            have e912 := e911.trans e12
            refine ⟨N, P, C, ns, n + 3 * TT e, u12, _, rfl, hP, r12, rfl, ?_, ?_, (pn9.ex e912).le (by omega), fun i ev x H13 he pn13 xt13 rx => ?_⟩
            · show 1 ≤ List.length (_ ++ _)
              rw [List.length_append, List.length_map, List.length_cons]
              omega
            · show List.length (_ ++ _) ≤ 100000
              rw [List.length_append, List.length_map]
              omega
            · obtain ⟨r, hr0, rfl⟩ : ∃ r, r ∈ r0 :: sr' ∧ ev = rowT r := by
                have hm := List.mem_of_getElem? he
                have hm : ev ∈ (r0 :: sr').map rowT ++ (List.replicate 3 (((r0 :: sr').map rowT).filter fun d => !(rowAt d).args.isEmpty)).flatten := hm
                have hm2 : ev ∈ (r0 :: sr').map rowT := by
                  rcases List.mem_append.mp hm with h | h
                  · exact h
                  · obtain ⟨l, hl, hev⟩ := List.mem_flatten.mp h
                    have := List.eq_of_mem_replicate hl
                    subst this
                    exact (List.mem_filter.mp hev).1
                obtain ⟨r, h1, h2⟩ := List.mem_map.mp hm2
                exact ⟨r, h1, h2.symm⟩
              obtain ⟨hry, hrs, hre⟩ := hsub r hr0
              have n13 : NOk N H13 := (n9.ex e912).xt xt13 pn13.some
              have x13 : Xt P H H13 := (x9.trans e912.xt).trans xt13
              refine ⟨_, rfl, R.ix rx rfl (by decide) (e := .str r.name) rfl fun u ru => ⟨(by show 1 ≤ sizeLine; decide), fun p14 hp14 => ?_⟩⟩
              have e14 := Ex.new (o := HO.tup [u]) hp14
              have r14 : R N _ (.ref p14) (.tuple [.str r.name]) := RAll.tupR (.cons ru .nil) n13 hp14
              have n14 := n13.ex e14
              refine ⟨_, rfl, R.ix (rx.ex e14) rfl (by decide) (e := .list (strsD r.args)) rfl fun y2 ry2 => ?_⟩
              obtain ⟨a3, J3, rfl, sJ3, wk3, _⟩ := seq_wkx (K := K) ry2 rfl
              have hA : r.args.length ≤ 3 := by
                obtain ⟨_, _, _, w4, _, _⟩ := w_bool _ hw
                exact of_decide_eq_true (List.all_eq_true.mp w4 r hry)
              have hAT : r.args.length * TT e ≤ 3 * TT e := Nat.mul_le_mul_right _ hA
              have hLL : LL e ≤ 364 := by
                have h : ∀ i, i ≤ 6 → LL i ≤ 364 := by decide
                exact h e (by omega)
              have hal : (strsD r.args).length = r.args.length := by unfold strsD; rw [List.length_map]
              refine ⟨a3, J3, rfl, sJ3, for_data (N := N) (fun j σ H' => ∃ (uu : V) (ws : List PyData) (x7 : Option V), σ = [some (.ref P), some wv, some (.str s), some (.int ((e + 1 : Nat) : Int)), some (.ref D2), some x, some uu, x7] ∧ Xt P (upd H13 p14 (.tup [u])) H' ∧ Xt P H H' ∧ NOk N H' ∧ Pen P C ns (n + (r.args.length - j) * TT e) H' ∧ R N H' uu (.tuple ws) ∧ (∀ more st, toldGo so sy isThing (ws ++ more) (.str s :: st) = toldGo so sy isThing more ((strsD r.args).drop j ++ st)) ∧ ws.all plainW = true ∧ ws.length ≤ 1 + j * LL e ∧ 0 < ws.length) wk3 ?_ ?_ ?_ ?_⟩
              · refine ⟨.ref p14, [.str r.name], none, ?_, Xt.refl P _, x13.trans e14.xt, n14, (pn13.ex e14).le (by rw [Nat.sub_zero]; omega), r14, fun more st => told_name (hrows r hry) hrs more st, rfl, by show 1 ≤ _; omega, by show 0 < 1; omega⟩
                rfl
              · rintro i σ H' ⟨u', ws, x7, rfl, xt', _⟩
                exact xt'.xn hP
              · rintro j xa d σ H' hj ⟨u', ws, x7, rfl, xt', xtH, nH, pnH, ru', htold, hpl, hwl, hpos⟩ rxa
                have hj' : j < r.args.length := by
                  have := (List.getElem?_eq_some_iff.mp hj).1
                  rw [show itemsOf (.list (strsD r.args)) = strsD r.args from rfl, hal] at this
                  exact this
                have hda : d = .str r.args[j] := by
                  have hj : (r.args.map PyData.str)[j]? = some d := hj
                  rw [List.getElem?_map, List.getElem?_eq_getElem hj'] at hj
                  exact (Option.some.inj hj).symm
                subst hda
                have exa := rxa.strv
                subst exa
                have he1 : 1 ≤ e := by
                  rcases hre with h | h
                  · omega
                  · rw [h] at hj'
                    cases hj'
                have hsplit : (r.args.length - j) * TT e = (r.args.length - (j + 1)) * TT e + TT e := by
                  rw [show r.args.length - j = (r.args.length - (j + 1)) + 1 by omega, Nat.succ_mul]
                have hdrop : (strsD r.args).drop j = .str r.args[j] :: (strsD r.args).drop (j + 1) := by
                  unfold strsD
                  rw [← List.map_drop, List.drop_eq_getElem_cons hj', List.map_cons, List.map_drop]
                rw [hsplit, ← Nat.add_assoc] at pnH
                refine ⟨_, rfl, _, rfl, _, rfl, _, rfl, _, rfl, _, _, rfl, rfl, N, P, C, ns, n + (r.args.length - (j + 1)) * TT e, wv, so, sy, r.args[j], ?_, he1, by omega, hP, nH, rv.mono (xtH.xn hP), hw, hargs r hry _ (List.getElem_mem hj'), pnH, fun ws2 u2 H2 g2 pn2' xt2 r2 => ?_⟩
                · show [V.ref P, wv, V.str r.args[j], V.int (((e + 1 : Nat) : Int) - 1)] = _
                  rw [show ((e + 1 : Nat) : Int) - 1 = (e : Int) by omega]
                have nH2 : NOk N H2 := nH.xt xt2 pn2'.some
                refine R.catT (ru'.mono (xt2.xn hP)) r2 nH2 ?_ fun x3 H3 e3 rx3 => ?_
                · have h1 : ws2.length ≤ LL e := g2.few
                  have h2 : j * LL e ≤ 3 * 364 := Nat.mul_le_mul (by omega) hLL
                  omega
                refine ⟨x3, ws ++ ws2, some (.str r.args[j]), rfl, (xt'.trans xt2).trans e3.xt, (xtH.trans xt2).trans e3.xt, nH2.ex e3, pn2'.ex e3, rx3, fun more st => ?_, ?_, ?_, ?_⟩
                · rw [List.append_assoc, htold, hdrop]
                  exact g2.told more _
                · rw [List.all_append, hpl, g2.plain]
                  rfl
                · have h1 : ws2.length ≤ LL e := g2.few
                  rw [List.length_append, Nat.succ_mul]
                  omega
                · rw [List.length_append]
                  omega
              · rintro σ H' ⟨u', ws, x7, rfl, xt', xtH, nH, pnH, ru', htold, hpl, hwl, hpos⟩
                have hdl : (itemsOf (.list (strsD r.args))).length = r.args.length := hal
                rw [hdl] at pnH htold hwl
                rw [List.drop_eq_nil_of_le (by rw [hal]; exact Nat.le_refl _)] at htold
                have hwl2 : ws.length ≤ LL (e + 1) := by
                  have : r.args.length * LL e ≤ 3 * LL e := Nat.mul_le_mul_right _ hA
                  show _ ≤ 1 + 3 * LL e
                  omega
                exact ⟨_, rfl, k ws _ H' ⟨fun more st => htold more st, hpl, hwl2, hpos⟩ (pnH.le (by omega)) xtH ru'⟩
/-- of any depth up to five -/
def spLTreeA : Sp := fun vs H Q E => ∃ e, 1 ≤ e ∧ e ≤ 5 ∧ spLTree e vs H Q E
theorem ok_ltree (D : C8.Def K mg "_law_tree" (topS 65) f fd) (b : Binds K fd ["pen", "world", "sort", "deep"] []) (T : TxtB K mg) (G__law_draw : C8.Cal P w K mg base 1 "_law_draw" spDraw []) (G__law_pick : C8.Cal P w K mg base 2 "_law_pick" spPick []) : C8.Cal P w K mg base 8 "_law_tree" spLTreeA [] :=
  ⟨f, fd, ["pen", "world", "sort", "deep"], [], ⟨fun vs H Q E ⟨e, _, _, h⟩ => (ok_ltreeF (P := P) (w := w) (base := base) D b T G__law_draw G__law_pick e).len vs H Q E h, fun A outer s H args us vs Q E hr e0 hb r ⟨e, h1, h2, h⟩ => (ok_ltreeF D b T G__law_draw G__law_pick e).run A outer s H args us vs Q E (hr.mono (by omega)) e0 hb r h⟩, D.mgf, D.kp, b, .nil⟩
end
end K1
end

section
set_option Elab.async false
set_option linter.all false
set_option maxRecDepth 100000
set_option maxHeartbeats 2000000
namespace Rp
open PySem L2
theorem cat_new {H : Hp} {Q : VK} {l b : Addr} {xs zs : List V} (h1 : H l = some (.lst xs)) (h2 : H b = some (.lst zs)) (hl : xs.length + zs.length ≤ 500000) (k : ∀ p, H p = none → Q (.ref p) (upd H p (.lst (xs ++ zs)))) : rCatY (.ref l) (.ref b) H Q := by
  unfold rCatY
  exact ⟨_, _, _, _, rfl, rfl, h1, h2, Nat.le_trans hl (by decide), k⟩
end Rp
namespace K1
open PySem L2 Rp
/-- a word that _law_is_tree may meet -/
def lawW (w : PyData) : Bool := isStr w || isThing w
def spLIsTree : Sp := fun vs H Q _ => ∃ (N : Addr → Prop) (wv v s : V) (so : List Str) (sy : List SRow) (ws : List PyData) (ds : PyData), vs = [wv, v, s] ∧ NOk N H ∧ R N H wv (worldD so sy) ∧ IsW so sy ∧ R N H v (.list ws) ∧ R N H s ds ∧ isSort ds = true ∧ ws.all lawW = true ∧ ws.length ≤ 10000 ∧
  ∀ H', Ex H H' → Q (.bl (toldB so sy isThing ws ds)) H'
section
variable {P : Program} {w : World} {K : PySem.W.Frag} {mg : Str → Option Value} {base : Heap} {f fL : Addr} {fd : FuncData} {C CB CT CN : Addr}
theorem sc__law_is_tree : FnScope ["world", "value", "sort", "wanted", "at", "word", "its", "own", "row"] ["world", "value", "sort"] (C8.fnScope (topS 66)) := C8.fnScope_by (by decide +kernel)
theorem ok_listree (D : C8.Def K mg "_law_is_tree" (topS 66) f fd) (b : Binds K fd ["world", "value", "sort"] []) (T : TxtB K mg) (m_enumerate : mg "enumerate" = none) (G__law_args : C8.Cal P w K mg base 1 "_law_args" spLArgs []) (G__law_sort : C8.Cal P w K mg base 1 "_law_sort" spLSort []) : C8.Cal P w K mg base 2 "_law_is_tree" spLIsTree [] :=
  C8.cal0 D b .nil sc__law_is_tree (fun vs H Q E h => by obtain ⟨N, wv, v, s, so, sy, ws, ds, rfl, _⟩ := h; rfl) fun cdv A outer s0 H vs Q E hr h => by
    obtain ⟨N, wv, v, s, so, sy, ws, ds, rfl, n, rw0, hw, rv, rs, hso, hok, hlen, q⟩ := h
    have hu := hr.units
    obtain ⟨_, _, _, q4, _⟩ := w_rows _ hw
    obtain ⟨_, _, _, w4, q6, _⟩ := w_bool _ hw
    have h3 : ∀ r ∈ sy, r.args.length ≤ 3 := fun r hr => of_decide_eq_true (List.all_eq_true.mp w4 r hr)
    refine ⟨_, (pss_cons (ps_set (i := 3) sc__law_is_tree.nd rfl (by first | exact Or.inl rfl | exact Or.inr rfl) (pe_lst (pa_cons (pv 2) pa_nil)))
      (pss_cons (ps_for PassesOwn.never rfl (pi_enum (by rfl) m_enumerate (pa_cons (pv 1) pa_nil)) (pg_tup rfl (pgs_cons (pg_name (i := 4) sc__law_is_tree.nd rfl (by first | exact Or.inl rfl | exact Or.inr rfl)) (pgs_cons (pg_name (i := 5) sc__law_is_tree.nd rfl (by first | exact Or.inl rfl | exact Or.inr rfl)) pgs_nil)))
      (pss_cons (ps_if (pt_cmpR (show OpR _ _ (rEqY K) from op_eqY (by exact hu)) (pv 3) (pe_lst pa_nil) (nomark _))
      (pss_one (ps_ret pe_bl))
      pss_nil)
      (pss_cons (ps_set (i := 6) sc__law_is_tree.nd rfl (by first | exact Or.inl rfl | exact Or.inr rfl) (pe_bm0 PySem.F.plainAttrs_list PySem.F.slot_list_pop PySem.F.type_list_pop mt_pop (pv 3)))
      (pss_cons (ps_if (pt_not (pt_val (pe_callB call_isY (by rfl) T.isinstance PyProof.Rows.Boot.«isinstance» (pa_cons (pv 5) (pa_cons (pe_bltn (v := .ty "str") rfl T.str PyProof.Rows.Boot.«str» rfl) pa_nil)))))
      (pss_cons (ps_set (i := 7) sc__law_is_tree.nd rfl (by first | exact Or.inl rfl | exact Or.inr rfl) (pe_ix (show IxR _ (rIxY K) from ix_Y) (pv 5) pe_int (fun _ _ => rfl)))
      (pss_one (ps_if (pt_cmpR (show OpR _ _ (rInY K true) from op_notInY) (pv 7) (pe_ix (show IxR _ (rIxY K) from ix_Y) (pv 0) pe_int (fun _ _ => rfl)) rfl)
      (pss_one (ps_ret pe_bl))
      pss_nil)))
      (pss_one (ps_if (pt_cmpR (show OpR _ _ (rEqY K) from op_eqY (by exact hu)) (pe_lc (own := [("row", 8)]) (g := gName 8) rfl sc__law_is_tree.nd (pi_seq (pe_ix (show IxR _ (rIxY K) from ix_Y) (pv 0) pe_int (fun _ _ => rfl))) (blkOk_by (N := ["world", "value", "sort", "wanted", "at", "word", "its", "own", "row"]) (sc := C8.fnScope (topS 66)) (by decide +kernel)) (fun _ _ _ _ _ => pg_name (i := 8) sc__law_is_tree.nd rfl (Or.inl rfl)) (fun _ _ _ _ _ => pts_one (pt_cmpR op_eq (pe_ix (show IxR _ (rIxY K) from ix_Y) (pv 8) pe_int (fun _ _ => rfl)) (pv 5) (nomark _))) (fun _ _ _ _ _ => (pv 8))) (pe_lst pa_nil) (nomark _))
      (pss_one (ps_ret pe_bl))
      (pss_cons (ps_set (i := 7) sc__law_is_tree.nd rfl (by first | exact Or.inl rfl | exact Or.inr rfl) (C8.pe_c G__law_sort hr (by decide) (by rfl) (pa_cons (pv 0) (pa_cons (pv 5) pa_nil))))
      (pss_one (ps_set (i := 3) sc__law_is_tree.nd rfl (by first | exact Or.inl rfl | exact Or.inr rfl) (pe_op op_catY (pv 3) (pe_revL (pe_callTy (show CallR _ _ (rLstOf K) from call_lstS) (by rfl) T.list PyProof.Rows.Boot.«list» (pa_cons (C8.pe_c G__law_args hr (by decide) (by rfl) (pa_cons (pv 0) (pa_cons (pv 5) pa_nil))) pa_nil))))))))))
      (pss_one (ps_if (PW.pt (pw_and (pt_cmpR op_notN (pv 6) pe_non (nomark _)) (pw_and1 (pt_cmpR op_ne (pv 6) (pv 7) (nomark _)))))
      (pss_one (ps_ret pe_bl))
      pss_nil))))))
      (pss_one (ps_ret (pe_and (pe_cmpR (show OpR _ _ (rEqY K) from op_eqY (by exact hu)) (pv 3) (pe_lst pa_nil) (nomark _)) (pe_one (pe_cmpR op_gt (pe_callB call_lenS (by rfl) T.len PyProof.Rows.Boot.«len» (pa_cons (pv 1) pa_nil)) pe_int (nomark _)))))))), ?_⟩
    have kend : ∀ (b : Bool) (H' : Hp), Ex H H' → b = toldB so sy isThing ws ds → Q (.bl b) H' := fun b H' e hb => by
      rw [hb]
      exact q H' e
    have kbad : ∀ i dw, ws[i]? = some dw → toldGo so sy isThing (ws.take (i + 1)) [ds] = none → toldB so sy isThing ws ds = false := fun i dw _ hn => by
      have h2 := told_none (es := ws.drop (i + 1)) hn
      rw [List.take_append_drop] at h2
      unfold toldB
      rw [h2]
      rfl
    refine ⟨_, rfl, (by show 1 ≤ sizeLine; decide), fun W0 hW0 => ?_⟩
    obtain ⟨a, xs, rfl, ha, ra⟩ := seq_of rv rfl
    have hal : H a = some (.lst xs) := by
      cases rv with
      | lst h _ _ => rw [h] at ha ⊢; rcases ha with z | z <;> cases z; rfl
    have e0 := Ex.new (o := HO.lst [s]) hW0
    refine ⟨_, rfl, a, xs, rfl, SqL.of (e0 _ _ hal), ?_⟩
    have hxl : xs.length = ws.length := ra.length
    refine for_it (walk_enum (xs := xs)) (fun i σ H' => ∃ (x4 x5 x6 x7 : Option V) (W : Addr) (st : List PyData) (ys : List V), σ = [some wv, some (.ref a), some s, some (.ref W), x4, x5, x6, x7, none] ∧ Ex H H' ∧ H W = none ∧ H' W = some (.lst ys) ∧ RAll N H' ys st.reverse ∧ st.all isSort = true ∧ st.length ≤ 3 * i + 1 ∧ toldGo so sy isThing (ws.take i) [ds] = some st) ?_ ?_ ?_ ?_
    · exact ⟨none, none, none, none, W0, [ds], [s], rfl, e0, hW0, upd_same, .cons (rs.ex e0) .nil, by rw [List.all_cons, hso]; rfl, by show 1 ≤ _; omega, rfl⟩
    · rintro i σ H' _ ⟨_, _, _, _, _, _, _, _, e, _⟩
      exact SqL.of (e _ _ hal)
    · rintro i x σ H1 H2 hi ⟨x4, x5, x6, x7, W, st, ys, rfl, e, hW, hw1, ry, hst, hl, hgo⟩ ⟨Tp, xi, y, rfl, hT, rfl, hxi, hyi⟩
      cases hxi
      obtain ⟨dw, hj, rx0⟩ := ra.get hyi
      have hj : ws[i]? = some dw := hj
      have hdw := List.all_eq_true.mp hok dw (List.mem_of_getElem? hj)
      have hsn : toldGo so sy isThing (ws.take (i + 1)) [ds] = (match some st with
        | some (t :: st') => if fitsB so sy isThing dw t = true then some (argsD sy dw ++ st') else none
        | _ => none) := by
        rw [take_snoc hj, told_snoc, hgo] <;> rfl
      have hrev : st.reverse.all isSort = true := by rw [List.all_reverse]; exact hst
      refine ⟨_, _, rfl, SqT.of upd_same, rfl, _, _, rfl, _, _, rfl, rfl, ?_⟩
      have eT := Ex.new (o := HO.tup [.int (i : Nat), y]) hT
      have e1 := e.trans eT
      have hw2 := eT _ _ hw1
      refine ⟨_, rfl, Nat.zero_le _, fun p hp => ?_⟩
      have ep := Ex.new (o := HO.lst []) hp
      have e2 := e1.trans ep
      have hw3 := ep _ _ hw2
      have rW : R (fun _ => False) _ (.ref W) (.list st.reverse) := .lst hw3 (fun z => z) (atoms_any ry hrev)
      have rp : R (fun _ => False) (upd (upd H1 Tp (.tup [.int (i : Nat), y])) p (.lst [])) (.ref p) (.list []) := .lst upd_same (fun z => z) .nil
      obtain ⟨sh1, sh2⟩ := shaped_stack hrev
      refine R.eqD rW rp sh2 rfl sh1 rfl ⟨_, rfl, ?_⟩
      rw [eqv_empty]
      cases st with
      | nil => exact iteT (kend _ _ e2 (kbad i dw hj hsn).symm)
      | cons t st' =>
        have hie : (t :: st').reverse.isEmpty = false := by
          rw [List.reverse_cons]
          cases st'.reverse <;> rfl
        rw [hie]
        have hyl : ys.length = st'.length + 1 := by rw [ry.length, List.length_reverse]; rfl
        obtain ⟨yv, hy, ryv⟩ := ry.getD (i := ys.length - 1) (d := t) (by rw [hyl, List.reverse_cons, List.getElem?_append_right (by rw [List.length_reverse]; omega), List.length_reverse]; simp)
        have rdl : RAll N H1 ys.dropLast st'.reverse := by
          have := ry.dropLast
          rw [List.reverse_cons, List.dropLast_concat] at this
          exact this
        rw [List.all_cons, Bool.and_eq_true] at hst
        have hsn : toldGo so sy isThing (ws.take (i + 1)) [ds] = if fitsB so sy isThing dw t = true then some (argsD sy dw ++ st') else none := hsn
        refine iteF ⟨_, rfl, .inl ⟨rfl, _, SqL.of hw3⟩, W, ys, yv, rfl, rfl, hw3, hy, ?_⟩
        have e4 := e2.mut (o := HO.lst ys.dropLast) hW
        have n4 := n.ex e4
        have rx4 := rx0.ex e4
        have rt4 : ∀ H', R N H' yv t := fun H' => atom_any ryv hst.1
        have hrev' : st'.reverse.all isSort = true := by rw [List.all_reverse]; exact hst.2
        refine ⟨_, rfl, R.isStrQ rx4 ⟨_, rfl, ?_⟩⟩
        have hl' : st'.length ≤ 3 * i := by
          have : st'.length + 1 ≤ 3 * i + 1 := hl
          omega
        cases hs : isStr dw with
        | false =>
          have hth : isThing dw = true := by
            have h : (isStr dw || isThing dw) = true := hdw
            rw [hs] at h
            exact h
          obtain ⟨hL, x0, hx0⟩ := thing_leaf.seq dw hth
          have hl2 : (itemsOf dw).length = 2 := by
            unfold isThing at hth
            simp only [Bool.and_eq_true, decide_eq_true_eq] at hth
            exact hth.1.1.2
          have hg : strOf ((itemsOf dw).getD 0 .none) = x0 := by
            rw [List.getD_eq_getElem?_getD, hx0]
            rfl
          have hfit : fitsB so sy isThing dw t = (decide (x0 ∈ so) && sortFits t x0) := by
            have e : fitsB so sy isThing dw t = (isThing dw && (decide ((itemsOf dw).length = 1) || (decide (strOf ((itemsOf dw).getD 0 .none) ∈ so) && sortFits t (strOf ((itemsOf dw).getD 0 .none))))) := by
              cases dw with
              | str x => cases hs
              | _ => rfl
            rw [e, hth, hl2, hg]
            rfl
          rw [hfit, args_not hs] at hsn
          refine iteT ⟨_, rfl, R.ix rx4 hL (by decide) hx0 fun yo ro => ?_⟩
          have eyo := ro.strv
          subst eyo
          refine ⟨_, rfl, _, rfl, R.ix (rw0.ex e4) rfl (by decide) (e := .list (strsD so)) rfl fun yz rz => R.notInStrs ro rz rfl (strs_all so).1 ⟨_, rfl, ?_⟩⟩
          rw [show (itemsOf (.list (strsD so))).map strOf = so from (strs_all so).2]
          cases hin : decide (x0 ∈ so) with
          | false =>
            rw [hin] at hsn
            exact iteT (kend _ _ e4 (kbad i _ hj hsn).symm)
          | true =>
            rw [hin] at hsn
            refine iteF ?_
            cases hfits : sortFits t x0 with
            | true =>
              rw [hfits] at hsn
              have hsn2 : toldGo so sy isThing (ws.take (i + 1)) [ds] = some st' := hsn
              refine ⟨_, rfl, rfl, _, rfl, ?_⟩
              cases t with
              | none =>
                cases ryv
                exact iteF ⟨_, _, _, _, W, st', ys.dropLast, rfl, e4, hW, upd_same, atoms_any rdl hrev', hst.2, (by omega), hsn2⟩
              | str tt =>
                cases ryv
                refine iteT ⟨_, rfl, _, rfl, rfl, _, rfl, ?_⟩
                have hne : (!decide (V.str tt = V.str x0)) = !decide (x0 = tt) := by
                  rw [dec_text]
                  congr 1
                  exact decide_eq_decide.mpr ⟨fun z => z.symm, fun z => z.symm⟩
                rw [hne]
                have hft : decide (x0 = tt) = true := hfits
                rw [hft]
                exact iteF ⟨_, _, _, _, W, st', ys.dropLast, rfl, e4, hW, upd_same, atoms_any rdl hrev', hst.2, (by omega), hsn2⟩
              | _ => cases hst.1
            | false =>
              rw [hfits] at hsn
              have hsn2 : toldGo so sy isThing (ws.take (i + 1)) [ds] = none := hsn
              refine ⟨_, rfl, rfl, _, rfl, ?_⟩
              cases t with
              | none => cases hfits
              | str tt =>
                cases ryv
                refine iteT ⟨_, rfl, _, rfl, rfl, _, rfl, ?_⟩
                have hne : (!decide (V.str tt = V.str x0)) = !decide (x0 = tt) := by
                  rw [dec_text]
                  congr 1
                  exact decide_eq_decide.mpr ⟨fun z => z.symm, fun z => z.symm⟩
                rw [hne]
                have hft : decide (x0 = tt) = false := hfits
                rw [hft]
                exact iteT (kend _ _ e4 (kbad i _ hj hsn2).symm)
              | _ => cases hst.1
        | true =>
          obtain ⟨x, rfl⟩ := str_is hs
          have ev := rx4.strv
          subst ev
          refine iteF ⟨_, rfl, R.ix (rw0.ex e4) rfl (by decide) (e := .list (sy.map rowT)) rfl fun y1 r1 => ?_⟩
          obtain ⟨a2, xs2, rfl, ha2, ra2⟩ := seq_of r1 rfl
          obtain ⟨J2, sJ2, wk2⟩ := seq_walk (K := K) ha2 ra2
          refine ⟨a2, J2, rfl, sJ2, fun D2 hD2 => lc_gen (N := N) (nameIs x) (fun d => d) wk2 hD2 n4 (by show (sy.map rowT).length ≤ 100000; rw [List.length_map]; exact Nat.le_trans q4 (by decide)) (fun y dd H4 hm e nn ry Q' q => ?_) (fun y dd H4 hm hk e nn ry Q' q => ⟨_, rfl, q _ _ (Ex.refl _) ry⟩) fun H5 zs e5 hz rz => ?_⟩
          · obtain ⟨ρ, _, rfl⟩ := List.mem_map.mp hm
            refine ⟨_, rfl, R.ix ry rfl (by decide) (e := .str ρ.name) rfl fun u2 ru2 => ⟨_, rfl, ?_⟩⟩
            rw [ru2.strv]
            refine ⟨rfl, _, rfl, ?_⟩
            rw [dec_text]
            exact q _ (Ex.refl _)
          · rw [List.map_id'] at rz
            have rl : R N H5 (.ref D2) (.list ((sy.map rowT).filter (nameIs x))) := .lst hz (fun z => n4 _ z hD2) rz
            have e05 := e4.trans e5
            refine ⟨Nat.zero_le _, fun p2 hp2 => ?_⟩
            have e6 := Ex.new (o := HO.lst []) hp2
            have hfm : (sy.map rowT).filter (nameIs x) = (sy.filter fun r => decide (r.name = x)).map rowT := by
              rw [List.filter_map]
              rfl
            have hfok : (sy.filter fun r => decide (r.name = x)).all rowOk = true := List.all_eq_true.mpr fun r hr => List.all_eq_true.mp q6 r (List.mem_filter.mp hr).1
            obtain ⟨sh, nd⟩ := shaped_rowT hfok
            rw [hfm] at rl
            refine R.eqD (rl.ex e6) (RAll.nil.lstR (n.ex e05) hp2) nd rfl sh rfl ⟨_, rfl, ?_⟩
            rw [eqv_empty]
            have e06 := e05.trans e6
            cases hrow : rowOf sy (.str x) with
            | none =>
              have hem := rows_none hrow
              rw [hfm] at hem
              rw [hem]
              rw [fits_none hrow] at hsn
              exact iteT (kend _ _ e06 (kbad i _ hj hsn).symm)
            | some r =>
              obtain ⟨tl, htl⟩ := rows_named hrow
              rw [hfm] at htl
              rw [htl]
              rw [fits_some hrow, args_row hrow] at hsn
              have n6 := n.ex e06
              refine iteF ⟨_, rfl, _, rfl, N, wv, .str x, so, sy, .str x, r.sort, rfl, n6, rw0.ex e06, q4, .str x, ?_, fun H7 e7 => ?_⟩
              · show (rowOf sy (.str x)).map (·.sort) = _
                rw [hrow]
                rfl
              have e07 := e06.trans e7
              have hkn : knownW sy (.str x) = true := by
                show (false || (rowOf sy (.str x)).isSome) = true
                rw [hrow]
                rfl
              refine ⟨_, rfl, _, rfl, _, rfl, N, wv, .str x, so, sy, .str x, rfl, n.ex e07, rw0.ex e07, q4, .str x, hkn, fun xa H8 e8 rxa => ?_⟩
              rw [args_row hrow] at rxa
              have e08 := e07.trans e8
              refine R.lstOf rxa (n.ex e08) rfl fun l ls H9 hl9 e9 ra9 nl hl0 => ⟨l, ls, rfl, SqL.of hl9, fun q2 hq2 => ?_⟩
              have e49 := (((e5.trans e6).trans e7).trans e8).trans e9
              have e10 := e49.trans (Ex.new (o := HO.lst ls.reverse) hq2)
              have hwq := e10 _ _ (show upd _ W (.lst ys.dropLast) W = some (.lst ys.dropLast) from upd_same)
              have hal3 : (strsD r.args).length ≤ 3 := by
                unfold strsD
                rw [List.length_map]
                exact h3 r (List.mem_of_find?_eq_some hrow)
              have hlsl : ls.length = (strsD r.args).length := ra9.length
              have hdl : ys.dropLast.length = st'.length := by rw [List.length_dropLast, hyl]; omega
              have hi' : i < ws.length := (List.getElem?_eq_some_iff.mp hj).1
              refine cat_new hwq upd_same (by rw [List.length_reverse, hlsl, hdl]; omega) fun Wn hWn => ?_
              have e11 := e4.trans (e10.trans (Ex.new (o := HO.lst (ys.dropLast ++ ls.reverse)) hWn))
              have hWn0 : H Wn = none := (e4.trans e10).free hWn
              have has : (strsD r.args).all isSort = true := by
                have := args_sorts q6 (.str x)
                rw [args_row hrow] at this
                exact this
              have hall2 : (strsD r.args ++ st').all isSort = true := by rw [List.all_append, has, hst.2]; rfl
              have rr : RAll N H1 (ys.dropLast ++ ls.reverse) ((strsD r.args ++ st').reverse) := by
                rw [List.reverse_append]
                exact rdl.append (atoms_any ra9.rev (by rw [List.all_reverse]; exact has))
              cases hfits : sortFits t r.sort with
              | true =>
                rw [hfits, if_pos rfl] at hsn
                have hsn2 := hsn
                refine ⟨_, rfl, rfl, _, rfl, ?_⟩
                cases t with
                | none =>
                  cases ryv
                  exact iteF ⟨_, _, _, _, Wn, (strsD r.args ++ st'), (ys.dropLast ++ ls.reverse), rfl, e11, hWn0, upd_same, atoms_any rr (by rw [List.all_reverse]; exact hall2), hall2, (by rw [List.length_append]; omega), hsn2⟩
                | str tt =>
                  cases ryv
                  refine iteT ⟨_, rfl, _, rfl, rfl, _, rfl, ?_⟩
                  have hne : (!decide (V.str tt = V.str r.sort)) = !decide (r.sort = tt) := by
                    rw [dec_text]
                    congr 1
                    exact decide_eq_decide.mpr ⟨fun z => z.symm, fun z => z.symm⟩
                  rw [hne]
                  have hft : decide (r.sort = tt) = true := hfits
                  rw [hft]
                  exact iteF ⟨_, _, _, _, Wn, (strsD r.args ++ st'), (ys.dropLast ++ ls.reverse), rfl, e11, hWn0, upd_same, atoms_any rr (by rw [List.all_reverse]; exact hall2), hall2, (by rw [List.length_append]; omega), hsn2⟩
                | _ => cases hst.1
              | false =>
                rw [hfits] at hsn
                have hsn2 : toldGo so sy isThing (ws.take (i + 1)) [ds] = none := hsn
                refine ⟨_, rfl, rfl, _, rfl, ?_⟩
                cases t with
                | none => cases hfits
                | str tt =>
                  cases ryv
                  refine iteT ⟨_, rfl, _, rfl, rfl, _, rfl, ?_⟩
                  have hne : (!decide (V.str tt = V.str r.sort)) = !decide (r.sort = tt) := by
                    rw [dec_text]
                    congr 1
                    exact decide_eq_decide.mpr ⟨fun z => z.symm, fun z => z.symm⟩
                  rw [hne]
                  have hft : decide (r.sort = tt) = false := hfits
                  rw [hft]
                  exact iteT (kend _ _ e11 (kbad i _ hj hsn2).symm)
                | _ => cases hst.1
    · rintro σ H' ⟨x4, x5, x6, x7, W, st, ys, rfl, e, hW, hw1, ry, hst, hl, hgo⟩
      rw [hxl, List.take_length] at hgo
      have hrev : st.reverse.all isSort = true := by rw [List.all_reverse]; exact hst
      refine ⟨_, rfl, Nat.zero_le _, fun p hp => ?_⟩
      have ep := Ex.new (o := HO.lst []) hp
      have rW : R (fun _ => False) (upd H' p (.lst [])) (.ref W) (.list st.reverse) := .lst (ep _ _ hw1) (fun z => z) (atoms_any ry hrev)
      have rp : R (fun _ => False) (upd H' p (.lst [])) (.ref p) (.list []) := .lst upd_same (fun z => z) .nil
      obtain ⟨sh1, sh2⟩ := shaped_stack hrev
      refine R.eqD rW rp sh2 rfl sh1 rfl ⟨_, rfl, ?_⟩
      rw [eqv_empty]
      have e13 := e.trans ep
      cases st with
      | nil =>
        refine iteT ⟨_, rfl, R.len (rv.ex e13) rfl ⟨_, _, rfl, rfl, kend _ _ e13 ?_⟩⟩
        unfold toldB
        rw [hgo]
        show decide _ = (true && _)
        rw [Bool.true_and]
        exact decide_eq_decide.mpr (by show (0 : Int) < ((ws.length : Nat) : Int) ↔ 0 < ws.length; omega)
      | cons t st' =>
        have hie : (t :: st').reverse.isEmpty = false := by
          rw [List.reverse_cons]
          cases st'.reverse <;> rfl
        rw [hie]
        refine iteF (kend _ _ e13 ?_)
        unfold toldB
        rw [hgo]
        rfl
end
end K1
end

section
set_option Elab.async false
set_option linter.all false
set_option maxRecDepth 100000
set_option maxHeartbeats 2000000
namespace K1
open PySem L2 Rp
def forB : Stmt → List Stmt
  | .For (body := b) .. => b
  | _ => []
def bT (i : Nat) : Stmt := (forB ((C8.fnBody (topS 67)).getD 1 (.Pass ⟨0, 0, 0, 0⟩))).getD i (.Pass ⟨0, 0, 0, 0⟩)
abbrev NL : List Str := ["script", "pen", "turn", "world", "signs", "sort", "tree", "after", "spot", "one", "bent", "lap", "at", "way", "word", "row", "told", "other", "due", "parts", "its", "odd", "asks", "long"]
theorem sc_law : FnScope NL ["script"] (C8.fnScope (topS 67)) := C8.fnScope_by (by decide +kernel)
abbrev LX (P : Program) (w : World) (K : PySem.W.Frag) (mg : Str → Option Value) (base : Heap) (f : Addr) (cdv : Value) (A : Around) (outer : List Env) (s : Shared) (H : Hp) (E : XK) : Cx := (cxOf C8.CX0 P w K mg base NL "law" (C8.fnScope (topS 67)) f cdv A outer s H E).nox
abbrev Sg (x0 x1 x2 x3 x4 x5 x6 x7 x8 x9 x10 x11 x12 x13 x14 x15 x16 x17 x18 x19 x20 x21 x22 x23 : Option V) : L2.St := [x0, x1, x2, x3, x4, x5, x6, x7, x8, x9, x10, x11, x12, x13, x14, x15, x16, x17, x18, x19, x20, x21, x22, x23]
def kwG {α : Type} (d : α) (us ws : List α) : List α := [us.getD 0 d, ws.getD 0 d, ws.getD 1 d]
/-- all that the law calls -/
structure LawC (P : Program) (w : World) (K : PySem.W.Frag) (mg : Str → Option Value) (base : Heap) (C CB CT CI CM CP : Addr) (Es : Nat → Addr) : Prop where
  T : TxtB K mg
  S : TxtS K mg C
  E : TxtE mg CP Es
  KD : KitD K C
  G__law_pen : C8.Cal P w K mg base 1 "_law_pen" (spPen K) []
  G__law_draw : C8.Cal P w K mg base 1 "_law_draw" spDraw []
  G__law_pick : C8.Cal P w K mg base 2 "_law_pick" spPick []
  G__law_world : C8.Cal P w K mg base 3 "_law_world" spWorld []
  G__law_signs : C8.Cal P w K mg base 8 "_law_signs" (spLSigns C) []
  TR : C8.Cal P w K mg base 8 "_law_tree" spLTreeA []
  G__law_behind : C8.Cal P w K mg base 2 "_law_behind" spLBehind []
  G__law_args : C8.Cal P w K mg base 1 "_law_args" spLArgs []
  G__law_sort : C8.Cal P w K mg base 1 "_law_sort" spLSort []
  G__law_is_tree : C8.Cal P w K mg base 2 "_law_is_tree" spLIsTree []
  G_is_tree : C8.Cal P w K mg base 7 "is_tree" (spTree C) [.non]
  G_is_tree3 : C8.Cal P w K mg base 7 "is_tree" (spTree C) []
  KW : ∃ (f : Addr) (fd : FuncData) (ps : List Str), FnOk P w K mg base C8.CX0 7 f fd ps (spTree C) ∧ mg "is_tree" = some (.ref f) ∧ PySem.W.keepIn K (.ref f) = true ∧ KBn K fd ps 1 ["value", "sort"] (kwG Value.none) (kwG V.non)
  G_tree_sort : CalX P w K mg base 9 "tree_sort" (spTreeSort C CB CT) []
  G_part_at : CalX P w K mg base 9 "part_at" (spPartAt C CB CT CI) []
  G_with_part : CalX P w K mg base 9 "with_part" (spWithPart C CB CT CI CM) []
  G_arguments_of : CalX P w K mg base 9 "arguments_of" (spArgsOf C CB CT) []
  G_many_inner : CalX P w K mg base 9 "many_inner" (spManyInner C CB CT) []
  HE : ∃ (g : Addr) (gd : FuncData), C8.Def K mg "_law_heard" (topS 59) g gd ∧ Binds K gd ["ask"] []
  PB : ∃ bit, KitP K Es CB "signs" bit
  PT : ∃ bit, KitP K Es CT "tree" bit
  PI : ∃ bit, KitP K Es CI "number" bit
  PM : ∃ bit, KitP K Es CM "misfit" bit
  EB : ErrC K CP CB
  ET : ErrC K CP CT
  EI : ErrC K CP CI
  EM : ErrC K CP CM
section
variable {P : Program} {w : World} {K : PySem.W.Frag} {mg : Str → Option Value} {base : Heap} {f : Addr} {cdv : Value} {A : Around} {outer : List Env} {s : Shared} {H0 : Hp} {E0 : XK} {C CB CT CI CM CP : Addr} {Es : Nat → Addr}
theorem w0 (L : LawC P w K mg base C CB CT CI CM CP Es) (hr : Room 11 (LX P w K mg base f cdv A outer s H0 E0).A) : ∃ t, PS (LX P w K mg base f cdv A outer s H0 E0) (bT 0) t ∧
    ∀ {D : Ends} {H : Hp} {Q C0 : Addr} {ns : List Int} {n : Nat} { x0 x2 x3 x4 x5 x6 x7 x8 x9 x10 x11 x12 x13 x14 x15 x16 x17 x18 x19 x20 x21 x22 x23 : Option V}, Pen Q C0 ns (n + 1) H →
      (∀ (so : List Str) (sy : List SRow) (wv : V) (H' : Hp), IsW so sy → Pen Q C0 ns n H' → Xt Q H H' → R (NP Q) H' wv (worldD so sy) → D.nx (Sg x0 (some (.ref Q)) x2 (some (wv)) x4 x5 x6 x7 x8 x9 x10 x11 x12 x13 x14 x15 x16 x17 x18 x19 x20 x21 x22 x23) H') → t D (Sg x0 (some (.ref Q)) x2 x3 x4 x5 x6 x7 x8 x9 x10 x11 x12 x13 x14 x15 x16 x17 x18 x19 x20 x21 x22 x23) H := by
  obtain ⟨T, S, E, KD, G__law_pen, G__law_draw, G__law_pick, G__law_world, G__law_signs, TR, G__law_behind, G__law_args, G__law_sort, G__law_is_tree, G_is_tree, G_is_tree3, KW, G_tree_sort, G_part_at, G_with_part, G_arguments_of, G_many_inner, HE, PB, PTr, PI, PM, EB, ET, EI, EM⟩ := L
  have hu := hr.units
  refine ⟨_, (ps_set (i := 3) sc_law.nd rfl (by first | exact Or.inl rfl | exact Or.inr rfl) (C8.pe_c G__law_world hr (by decide) (by rfl) (pa_cons (pv 1) pa_nil))), ?_⟩
  intro D H Q C0 ns n x0 x2 x3 x4 x5 x6 x7 x8 x9 x10 x11 x12 x13 x14 x15 x16 x17 x18 x19 x20 x21 x22 x23 pn k
  exact ⟨_, rfl, NP Q, Q, C0, ns, n, rfl, rfl, pn.nok, pn, fun so sy u H' hw p' xt ru => k so sy u H' hw p' xt ru⟩
theorem w1 (L : LawC P w K mg base C CB CT CI CM CP Es) (hr : Room 11 (LX P w K mg base f cdv A outer s H0 E0).A) : ∃ t, PS (LX P w K mg base f cdv A outer s H0 E0) (bT 1) t ∧
    ∀ {D : Ends} {H : Hp} {Q C0 : Addr} {ns : List Int} {n : Nat} {so : List Str} {sy : List SRow} {wv : V} { x0 x2 x4 x5 x6 x7 x8 x9 x10 x11 x12 x13 x14 x15 x16 x17 x18 x19 x20 x21 x22 x23 : Option V}, Pen Q C0 ns (n + 1) H → IsW so sy → R (NP Q) H wv (worldD so sy) →
      (∀ (z : V) (so1 : Str) (H' : Hp), so1 ∈ so → Pen Q C0 ns n H' → Xt Q H H' → SigAt C (NP Q) H' z so sy → D.nx (Sg x0 (some (.ref Q)) x2 (some (wv)) (some (z)) (some (.str so1)) x6 x7 x8 x9 x10 x11 x12 x13 x14 x15 x16 x17 x18 x19 x20 x21 x22 x23) H') → t D (Sg x0 (some (.ref Q)) x2 (some (wv)) x4 x5 x6 x7 x8 x9 x10 x11 x12 x13 x14 x15 x16 x17 x18 x19 x20 x21 x22 x23) H := by
  obtain ⟨T, S, E, KD, G__law_pen, G__law_draw, G__law_pick, G__law_world, G__law_signs, TR, G__law_behind, G__law_args, G__law_sort, G__law_is_tree, G_is_tree, G_is_tree3, KW, G_tree_sort, G_part_at, G_with_part, G_arguments_of, G_many_inner, HE, PB, PTr, PI, PM, EB, ET, EI, EM⟩ := L
  have hu := hr.units
  refine ⟨_, (ps_asg (pe_tup (pa_cons (C8.pe_c G__law_signs hr (by decide) (by rfl) (pa_cons (pv 3) pa_nil)) (pa_cons (C8.pe_c G__law_pick hr (by decide) (by rfl) (pa_cons (pv 1) (pa_cons (pe_ix (show IxR _ (rIxY K) from ix_Y) (pv 3) pe_int (fun _ _ => rfl)) pa_nil))) pa_nil))) (pg_tup rfl (pgs_cons (pg_name (i := 4) sc_law.nd rfl (by first | exact Or.inl rfl | exact Or.inr rfl)) (pgs_cons (pg_name (i := 5) sc_law.nd rfl (by first | exact Or.inl rfl | exact Or.inr rfl)) pgs_nil)))), ?_⟩
  intro D H Q C0 ns n so sy wv x0 x2 x4 x5 x6 x7 x8 x9 x10 x11 x12 x13 x14 x15 x16 x17 x18 x19 x20 x21 x22 x23 pn hw rw0 k
  obtain ⟨_, _, hnm, _, _⟩ := w_rows _ hw
  refine ⟨_, rfl, NP Q, wv, so, sy, rfl, pn.nok, rw0, hw, fun z H1 e1 sa => ?_⟩
  have hlen : ∀ p ∈ worlds, 1 ≤ p.1.length ∧ p.1.length ≤ 6 := by decide +kernel
  obtain ⟨l1, l2⟩ := hlen _ hw
  have l2 : so.length ≤ 6 := l2
  have hsl : (itemsOf (.list (strsD so))).length = so.length := by show (strsD so).length = _; unfold strsD; rw [List.length_map]
  refine ⟨_, rfl, _, rfl, R.ix (rw0.ex e1) rfl (by decide) (e := .list (strsD so)) rfl fun y ry => ⟨NP Q, Q, C0, ns, n, y, _, rfl, rfl, ry, rfl, by rw [hsl]; exact l1, by rw [hsl]; omega, pn.ex e1, fun i e x H2 he p2 xt rx => ?_⟩⟩
  obtain ⟨so1, hm, rfl⟩ := List.mem_map.mp (List.mem_of_getElem? (show (strsD so)[i]? = some e from he))
  rw [rx.strv]
  refine ⟨(by show 2 ≤ sizeLine; decide), fun p hp => ⟨p, _, rfl, SqT.of upd_same, rfl, _, _, rfl, _, _, rfl, rfl, ?_⟩⟩
  have ep := Ex.new (o := HO.tup [z, .str so1]) hp
  exact k z so1 _ hm (p2.ex ep) ((e1.xt.trans xt).trans ep.xt) ((sa.mono (xt.xn rfl)).ex' ep)
theorem w2 (L : LawC P w K mg base C CB CT CI CM CP Es) (hr : Room 11 (LX P w K mg base f cdv A outer s H0 E0).A) : ∃ t, PS (LX P w K mg base f cdv A outer s H0 E0) (bT 2) t ∧
    ∀ {D : Ends} {H : Hp} {Q C0 : Addr} {ns : List Int} {n : Nat} {so : List Str} {sy : List SRow} {wv : V} {so1 : Str} { x0 x2 x4 x6 x7 x8 x9 x10 x11 x12 x13 x14 x15 x16 x17 x18 x19 x20 x21 x22 x23 : Option V}, Pen Q C0 ns (n + 243) H → IsW so sy → R (NP Q) H wv (worldD so sy) → so1 ∈ so →
      (∀ (u : V) (ws : List PyData) (H' : Hp), Grown so sy so1 364 ws → Pen Q C0 ns n H' → Xt Q H H' → R (NP Q) H' u (.tuple ws) → D.nx (Sg x0 (some (.ref Q)) x2 (some (wv)) x4 (some (.str so1)) (some (u)) x7 x8 x9 x10 x11 x12 x13 x14 x15 x16 x17 x18 x19 x20 x21 x22 x23) H') → t D (Sg x0 (some (.ref Q)) x2 (some (wv)) x4 (some (.str so1)) x6 x7 x8 x9 x10 x11 x12 x13 x14 x15 x16 x17 x18 x19 x20 x21 x22 x23) H := by
  obtain ⟨T, S, E, KD, G__law_pen, G__law_draw, G__law_pick, G__law_world, G__law_signs, TR, G__law_behind, G__law_args, G__law_sort, G__law_is_tree, G_is_tree, G_is_tree3, KW, G_tree_sort, G_part_at, G_with_part, G_arguments_of, G_many_inner, HE, PB, PTr, PI, PM, EB, ET, EI, EM⟩ := L
  have hu := hr.units
  refine ⟨_, (ps_set (i := 6) sc_law.nd rfl (by first | exact Or.inl rfl | exact Or.inr rfl) (C8.pe_c TR hr (by decide) (by rfl) (pa_cons (pv 1) (pa_cons (pv 3) (pa_cons (pv 5) (pa_cons (pe_op op_add pe_int (C8.pe_c G__law_draw hr (by decide) (by rfl) (pa_cons (pv 1) (pa_cons pe_int pa_nil)))) pa_nil)))))), ?_⟩
  intro D H Q C0 ns n so sy wv so1 x0 x2 x4 x6 x7 x8 x9 x10 x11 x12 x13 x14 x15 x16 x17 x18 x19 x20 x21 x22 x23 pn hw rw0 hm k
  refine ⟨_, rfl, _, rfl, _, rfl, _, rfl, Q, C0, ns, n + 242, 5, rfl, pn, by decide, by decide, fun r H1 r0 r1 p1 x1 => ⟨_, _, rfl, rfl, (1 + r).toNat, by omega, by omega, NP Q, Q, C0, ns, n + 242 - TT (1 + r).toNat, wv, so, sy, so1, ?_, by omega, by omega, rfl, p1.nok, rw0.mono (x1.xn (N := NP Q) rfl), hw, hm, ?_, fun ws u H2 g p2 x2 ru => ?_⟩⟩
  · show [V.ref Q, wv, V.str so1, V.int (1 + r)] = _
    rw [Int.toNat_of_nonneg (by omega)]
  · have hTT : ∀ i, i ≤ 5 → TT i ≤ 242 := by decide
    have := hTT (1 + r).toNat (by omega)
    exact p1.le (by omega)
  · have hLL : ∀ i, i ≤ 5 → LL i ≤ 364 := by decide
    have hTT : ∀ i, i ≤ 5 → TT i ≤ 242 := by decide
    have := hTT (1 + r).toNat (by omega)
    exact k u ws H2 (g.mono (hLL _ (by omega))) (p2.le (by omega)) (x1.trans x2) ru
end
end K1
end

section
set_option Elab.async false
set_option linter.all false
set_option maxRecDepth 100000
set_option maxHeartbeats 2000000
namespace K1
open PySem L2 Rp
/-! ### plain: drawn trees -/
theorem plain_cases {w : PyData} (h : plainW w = true) : (∃ x, w = .str x) ∨ ∃ a b, w = .tuple [.str a, .str b] ∧ nameOk a = true ∧ nameOk b = true := by
  unfold plainW at h
  split at h
  · exact .inl ⟨_, rfl⟩
  · exact .inr ⟨_, _, rfl, (Bool.and_eq_true_iff.mp h).1, (Bool.and_eq_true_iff.mp h).2⟩
  · cases h
theorem plain_fix : ∀ {ws : List PyData}, ws.all plainW = true → ws.map fixD = ws
  | [], _ => rfl
  | w :: r, h => by
    rw [List.all_cons, Bool.and_eq_true] at h
    rw [List.map_cons, plain_fix h.2]
    rcases plain_cases h.1 with ⟨x, rfl⟩ | ⟨a, b, rfl, _, _⟩ <;> rfl
theorem plain_thing {ws : List PyData} (h : ws.all plainW = true) : ws.all okThing = true := List.all_eq_true.mpr fun w hw => by
  rcases plain_cases (List.all_eq_true.mp h w hw) with ⟨x, rfl⟩ | ⟨a, b, rfl, ha, hb⟩
  · rfl
  · show (short (.str a) && (short (.str b) && true)) = true
    rw [name_short (x := .str a) ha, name_short (x := .str b) hb]
    rfl
theorem plain_law {ws : List PyData} (h : ws.all plainW = true) : ws.all lawW = true := List.all_eq_true.mpr fun w hw => by
  rcases plain_cases (List.all_eq_true.mp h w hw) with ⟨x, rfl⟩ | ⟨a, b, rfl, ha, hb⟩
  · rfl
  · show (false || (true && decide (2 = 2) && nameOk a && nameOk b)) = true
    rw [ha, hb]
    rfl
/-- a text that may be compared -/
def okW (w : PyData) : Bool := match w with
  | .str x => PyData.strOk x
  | .tuple [.str a, .str b] => PyData.strOk a && PyData.strOk b
  | _ => false
theorem okW_cases {w : PyData} (h : okW w = true) : (∃ x, w = .str x ∧ PyData.strOk x = true) ∨ ∃ a b, w = .tuple [.str a, .str b] ∧ PyData.strOk a = true ∧ PyData.strOk b = true := by
  unfold okW at h
  split at h
  · exact .inl ⟨_, rfl, h⟩
  · exact .inr ⟨_, _, rfl, (Bool.and_eq_true_iff.mp h).1, (Bool.and_eq_true_iff.mp h).2⟩
  · cases h
structure OkDs (ws : List PyData) : Prop where
  nd : noDicts ws = true
  lay : PyData.canLayAll0 ws = true
  dep : PyData.depthAll ws ≤ 1
  eqT : PyData.eqv (.tuple ws) (.tuple ws) = true
  eqL : PyData.eqv (.list ws) (.list ws) = true
theorem okds : ∀ {ws : List PyData}, ws.all okW = true → OkDs ws
  | [], _ => ⟨rfl, rfl, Nat.zero_le _, rfl, rfl⟩
  | w :: r, h => by
    rw [List.all_cons, Bool.and_eq_true] at h
    have ih := okds h.2
    have hw : noDict w = true ∧ PyData.canLay0 w = true ∧ PyData.depth w ≤ 1 ∧ PyData.eqv w w = true := by
      rcases okW_cases h.1 with ⟨x, rfl, hx⟩ | ⟨a, b, rfl, ha, hb⟩
      · exact ⟨rfl, hx, Nat.zero_le _, by show (x == x) = true; exact beq_self_eq_true x⟩
      · refine ⟨rfl, ?_, by show max 0 (max 0 0) + 1 ≤ 1; decide, ?_⟩
        · show (PyData.strOk a && (PyData.strOk b && true)) = true
          rw [ha, hb]
          rfl
        · show ((a == a) && ((b == b) && true)) = true
          rw [beq_self_eq_true, beq_self_eq_true]
          rfl
    obtain ⟨h1, h2, h3, h4⟩ := hw
    refine ⟨?_, ?_, ?_, ?_, ?_⟩
    · show (noDict w && noDicts r) = true
      rw [h1, ih.nd]
      rfl
    · show (PyData.canLay0 w && PyData.canLayAll0 r) = true
      rw [h2, ih.lay]
      rfl
    · show max (PyData.depth w) (PyData.depthAll r) ≤ 1
      exact Nat.max_le.mpr ⟨h3, ih.dep⟩
    · have := ih.eqT
      show (PyData.eqv w w && PyData.eqv (.tuple r) (.tuple r)) = true
      rw [h4, this]
      rfl
    · have := ih.eqL
      show (PyData.eqv w w && PyData.eqv (.list r) (.list r)) = true
      rw [h4, this]
      rfl
theorem OkDs.shaped {ws : List PyData} (o : OkDs ws) : SeqAt.shaped (.tuple ws) = true ∧ SeqAt.shaped (.list ws) = true := by
  have h : (PyData.canLayAll0 ws && decide (PyData.depthAll ws + 1 ≤ 64)) = true := by
    rw [o.lay, decide_eq_true (by have := o.dep; omega)]
    rfl
  exact ⟨h, h⟩
/-- names are fit to be laid -/
theorem plain_okW {sy : List SRow} {ws : List PyData} (hn : ∀ r ∈ sy, PyData.strOk r.name = true) (hp : ws.all plainW = true) (hk : ws.all (knownW sy) = true) : ws.all okW = true := List.all_eq_true.mpr fun w hw => by
  rcases plain_cases (List.all_eq_true.mp hp w hw) with ⟨x, rfl⟩ | ⟨a, b, rfl, ha, hb⟩
  · obtain ⟨r, hr⟩ := known_row (List.all_eq_true.mp hk _ hw)
    have hm := List.mem_of_find?_eq_some hr
    have he := List.find?_some hr
    have he : r.name = x := of_decide_eq_true he
    rw [← he]
    exact hn r hm
  · show (PyData.strOk a && PyData.strOk b) = true
    rw [name_str ha, name_str hb]
    rfl
theorem fits_sort {so : List Str} {sy : List SRow} {w : PyData} {t : Str} (h : fitsB so sy isThing w (.str t) = true) : sortW sy w = some t ∧ fitsB so sy isThing w .none = true ∧ ∀ t', fitsB so sy isThing w (.str t') = decide (t = t') := by
  cases hs : isStr w with
  | true =>
    obtain ⟨x, rfl⟩ := str_is hs
    cases hr : rowOf sy (.str x) with
    | none => rw [fits_none hr] at h; cases h
    | some r =>
      rw [fits_some hr] at h
      have h : r.sort = t := of_decide_eq_true h
      subst h
      refine ⟨?_, ?_, fun t' => ?_⟩
      · show (rowOf sy (.str x)).map (·.sort) = _
        rw [hr]
        rfl
      · rw [fits_some hr]
        rfl
      · rw [fits_some hr]
        rfl
  | false =>
    have e : ∀ t, fitsB so sy isThing w t = (isThing w && (decide ((itemsOf w).length = 1) || (decide (strOf ((itemsOf w).getD 0 .none) ∈ so) && sortFits t (strOf ((itemsOf w).getD 0 .none))))) := fun t => by
      cases w with
      | str x => cases hs
      | _ => rfl
    rw [e] at h
    obtain ⟨h1, h2⟩ := Bool.and_eq_true_iff.mp h
    have hl2 : (itemsOf w).length = 2 := by
      unfold isThing at h1
      simp only [Bool.and_eq_true, decide_eq_true_eq] at h1
      exact h1.1.1.2
    rw [hl2] at h2
    obtain ⟨h3, h4⟩ := Bool.and_eq_true_iff.mp (show (false || (decide (strOf ((itemsOf w).getD 0 .none) ∈ so) && sortFits (.str t) (strOf ((itemsOf w).getD 0 .none)))) = true from h2)
    have h4 : strOf ((itemsOf w).getD 0 .none) = t := of_decide_eq_true h4
    refine ⟨?_, ?_, fun t' => ?_⟩
    · rw [sortW_not hs, if_pos h1, h4]
    · rw [e, h1, hl2, h3]
      rfl
    · rw [e, h1, hl2, h3, h4]
      rfl
theorem grown_head {so : List Str} {sy : List SRow} {s : Str} {m : Nat} {ws : List PyData} (g : Grown so sy s m ws) : ∃ w r, ws = w :: r ∧ fitsB so sy isThing w (.str s) = true ∧ toldGo so sy isThing r (argsD sy w) = some [] := by
  have h := g.told [] []
  rw [List.append_nil] at h
  have hpos := g.pos
  cases ws with
  | nil => cases hpos
  | cons w r =>
    refine ⟨w, r, rfl, ?_⟩
    have h : (if fitsB so sy isThing w (.str s) = true then toldGo so sy isThing r (argsD sy w ++ []) else none) = some [] := h
    by_cases c : fitsB so sy isThing w (.str s) = true
    · rw [if_pos c, List.append_nil] at h
      exact ⟨c, h⟩
    · rw [if_neg c] at h
      cases h
theorem grown_told {so : List Str} {sy : List SRow} {s : Str} {m : Nat} {ws : List PyData} (g : Grown so sy s m ws) : toldB so sy isThing ws .none = true ∧ ∀ t, toldB so sy isThing ws (.str t) = decide (s = t) := by
  obtain ⟨w, r, rfl, hf, hr⟩ := grown_head g
  obtain ⟨_, h2, h3⟩ := fits_sort hf
  have e : ∀ t, toldGo so sy isThing (w :: r) [t] = if fitsB so sy isThing w t = true then some [] else none := fun t => by
    show (if fitsB so sy isThing w t = true then toldGo so sy isThing r (argsD sy w ++ []) else none) = _
    rw [List.append_nil, hr]
  have hp : decide (0 < (w :: r).length) = true := decide_eq_true (by rw [List.length_cons]; omega)
  refine ⟨?_, fun t => ?_⟩
  · unfold toldB
    rw [e, if_pos h2, hp]
    rfl
  · unfold toldB
    rw [e, h3, hp]
    cases hb : decide (s = t) <;> rfl
theorem grown_tree {so : List Str} {sy : List SRow} {s : Str} {ws : List PyData} {d : PyData} (g : Grown so sy s 364 ws) (hL : isListed d = true) (hi : itemsOf d = ws) : treeB so sy d .none = true ∧ ∀ t, treeB so sy d (.str t) = decide (s = t) := by
  obtain ⟨h1, h2⟩ := grown_told g
  have hf := g.few
  unfold treeB
  rw [hL, hi, decide_eq_true (by omega : ws.length ≤ 400), h1]
  exact ⟨rfl, fun t => by rw [h2 t]; rfl⟩
theorem grown_w {so : List Str} {sy : List SRow} {s : Str} {ws : List PyData} (g : Grown so sy s 364 ws) : TreeW so sy ws := by
  have h := tree_w (grown_tree (d := .tuple ws) g rfl rfl).1
  rw [show itemsOf (.tuple ws) = ws from rfl, plain_fix g.plain] at h
  exact h
theorem grown_sort {so : List Str} {sy : List SRow} {s : Str} {ws : List PyData} (g : Grown so sy s 364 ws) : sortW sy (ws.getD 0 .none) = some s := by
  obtain ⟨w, r, rfl, hf, hr⟩ := grown_head g
  exact (fits_sort hf).1
def bools (l : List Bool) : List PyData := l.map PyData.bool
theorem okBools : ∀ l : List Bool, noDicts (bools l) = true ∧ PyData.canLayAll0 (bools l) = true ∧ PyData.depthAll (bools l) = 0 ∧ PyData.eqv (.list (bools l)) (.list (bools l)) = true
  | [] => ⟨rfl, rfl, rfl, rfl⟩
  | b :: r => by
    obtain ⟨h1, h2, h3, h4⟩ := okBools r
    refine ⟨h1, h2, ?_, ?_⟩
    · show max 0 (PyData.depthAll (bools r)) = 0
      rw [h3]
      rfl
    · show ((b == b) && PyData.eqv (.list (bools r)) (.list (bools r))) = true
      rw [h4, beq_self_eq_true]
      rfl
theorem shaped_bools (l : List Bool) : SeqAt.shaped (.list (bools l)) = true := by
  obtain ⟨h1, h2, h3, h4⟩ := okBools l
  show (PyData.canLayAll0 (bools l) && decide (PyData.depthAll (bools l) + 1 ≤ 64)) = true
  rw [h2, h3]
  rfl
end K1
end

section
set_option Elab.async false
set_option linter.all false
set_option maxRecDepth 100000
set_option maxHeartbeats 2000000
namespace K1
open PySem L2 Rp
structure WF (so : List Str) (sy : List SRow) : Prop where
  h3 : ∀ r ∈ sy, r.args.length ≤ 3
  nm : ∀ r ∈ sy, PyData.strOk r.name = true
  sok : so.all PyData.strOk = true
  h16 : sy.length ≤ 16
  h6 : so.length ≤ 6
  h1 : 1 ≤ so.length
  snm : so.all nameOk = true
theorem w_facts {so : List Str} {sy : List SRow} (h : IsW so sy) : WF so sy := by
  obtain ⟨_, _, hnm, h16, _⟩ := w_rows _ h
  obtain ⟨_, _, _, w4, q6, hs⟩ := w_bool _ h
  have hlen : ∀ p ∈ worlds, 1 ≤ p.1.length ∧ p.1.length ≤ 6 := by decide +kernel
  obtain ⟨l1, l2⟩ := hlen _ h
  exact ⟨fun r hr => of_decide_eq_true (List.all_eq_true.mp w4 r hr), fun r hr => (Bool.and_eq_true_iff.mp (Bool.and_eq_true_iff.mp (List.all_eq_true.mp q6 r hr)).1).1, hs, h16, l2, l1, hnm⟩
theorem sort_ok {so : List Str} {sy : List SRow} (h : WF so sy) {t : Str} (ht : t ∈ so) : isSort (.str t) = true := List.all_eq_true.mp h.sok t ht
section
variable {P : Program} {w : World} {K : PySem.W.Frag} {mg : Str → Option Value} {base : Heap} {f : Addr} {cdv : Value} {A : Around} {outer : List Env} {s : Shared} {H0 : Hp} {E0 : XK} {C CB CT CI CM CP : Addr} {Es : Nat → Addr}
theorem w3 (L : LawC P w K mg base C CB CT CI CM CP Es) (hr : Room 11 (LX P w K mg base f cdv A outer s H0 E0).A) : ∃ t, PS (LX P w K mg base f cdv A outer s H0 E0) (bT 3) t ∧
    ∀ {D : Ends} {H : Hp} {Q C0 : Addr} {ns : List Int} {n : Nat} {so : List Str} {sy : List SRow} {wv u : V} {so1 : Str} {ws : List PyData} { x0 x2 x4 x5 x7 x8 x9 x10 x11 x12 x13 x14 x15 x16 x17 x18 x19 x20 x21 x22 x23 : Option V}, Pen Q C0 ns (n + 1) H → IsW so sy → R (NP Q) H wv (worldD so sy) → R (NP Q) H u (.tuple ws) → Grown so sy so1 364 ws →
      (∀ (av : V) (k : Nat) (H' : Hp), k < ws.length → Pen Q C0 ns n H' → Xt Q H H' → R (NP Q) H' av (.list ((endsI sy ws).map PyData.int)) → D.nx (Sg x0 (some (.ref Q)) x2 (some (wv)) x4 x5 (some (u)) (some (av)) (some (.int (k : Int))) x9 x10 x11 x12 x13 x14 x15 x16 x17 x18 x19 x20 x21 x22 x23) H') → t D (Sg x0 (some (.ref Q)) x2 (some (wv)) x4 x5 (some (u)) x7 x8 x9 x10 x11 x12 x13 x14 x15 x16 x17 x18 x19 x20 x21 x22 x23) H := by
  obtain ⟨T, S, E, KD, G__law_pen, G__law_draw, G__law_pick, G__law_world, G__law_signs, TR, G__law_behind, G__law_args, G__law_sort, G__law_is_tree, G_is_tree, G_is_tree3, KW, G_tree_sort, G_part_at, G_with_part, G_arguments_of, G_many_inner, HE, PB, PTr, PI, PM, EB, ET, EI, EM⟩ := L
  have hu := hr.units
  refine ⟨_, (ps_asg (pe_tup (pa_cons (C8.pe_c G__law_behind hr (by decide) (by rfl) (pa_cons (pv 3) (pa_cons (pv 6) pa_nil))) (pa_cons (C8.pe_c G__law_draw hr (by decide) (by rfl) (pa_cons (pv 1) (pa_cons (pe_callB (show CallR _ _ (Rp.rLen K) from call_lenS) (by rfl) T.len PyProof.Rows.Boot.«len» (pa_cons (pv 6) pa_nil)) pa_nil))) pa_nil))) (pg_tup rfl (pgs_cons (pg_name (i := 7) sc_law.nd rfl (by first | exact Or.inl rfl | exact Or.inr rfl)) (pgs_cons (pg_name (i := 8) sc_law.nd rfl (by first | exact Or.inl rfl | exact Or.inr rfl)) pgs_nil)))), ?_⟩
  intro D H Q C0 ns n so sy wv u so1 ws x0 x2 x4 x5 x7 x8 x9 x10 x11 x12 x13 x14 x15 x16 x17 x18 x19 x20 x21 x22 x23 pn hw rw0 ru g k
  have wf := w_facts hw
  have tw := grown_w g
  refine ⟨_, rfl, _, rfl, NP Q, wv, u, so, sy, ws, rfl, pn.nok, rw0, wf.h16, ru, Nat.le_trans tw.few (by decide), tw.known, fun j hj => tw.part hj, fun x H1 e1 rx => ?_⟩
  have hpos := tw.pos
  have hfew := tw.few
  refine ⟨_, rfl, _, rfl, R.len (ru.ex e1) rfl ?_⟩
  rw [show (((itemsOf (.tuple ws)).length : Nat) : Int) = (ws.length : Int) from rfl]
  refine ⟨Q, C0, ns, n, _, rfl, pn.ex e1, by omega, by omega, fun r H2 r0 r1 p2 x2 => ⟨(by show 2 ≤ sizeLine; decide), fun p hp => ⟨p, _, rfl, SqT.of upd_same, rfl, _, _, rfl, _, _, rfl, rfl, ?_⟩⟩⟩
  have ep := Ex.new (o := HO.tup [x, .int r]) hp
  obtain ⟨j, rfl⟩ : ∃ j : Nat, r = (j : Int) := ⟨r.toNat, by omega⟩
  exact k x j _ (by omega) (p2.ex ep) ((e1.xt.trans x2).trans ep.xt) ((rx.mono (x2.xn (N := NP Q) rfl)).ex ep)
theorem w4 (L : LawC P w K mg base C CB CT CI CM CP Es) (hr : Room 11 (LX P w K mg base f cdv A outer s H0 E0).A) : ∃ t, PS (LX P w K mg base f cdv A outer s H0 E0) (bT 4) t ∧
    ∀ {D : Ends} {H : Hp} {Q : Addr} {so : List Str} {sy : List SRow} {wv z u : V} {so1 : Str} {ws : List PyData} { x0 x1 x2 x7 x8 x9 x10 x11 x12 x13 x14 x15 x16 x17 x18 x19 x20 x21 x22 x23 : Option V}, NOk (NP Q) H → IsW so sy → R (NP Q) H wv (worldD so sy) → SigAt C (NP Q) H z so sy → so1 ∈ so → R (NP Q) H u (.tuple ws) → Grown so sy so1 364 ws →
      (∀ (H' : Hp), Ex H H' → D.nx (Sg x0 x1 x2 (some (wv)) (some (z)) (some (.str so1)) (some (u)) x7 x8 x9 x10 x11 x12 x13 x14 x15 x16 x17 x18 x19 x20 x21 x22 x23) H') → t D (Sg x0 x1 x2 (some (wv)) (some (z)) (some (.str so1)) (some (u)) x7 x8 x9 x10 x11 x12 x13 x14 x15 x16 x17 x18 x19 x20 x21 x22 x23) H := by
  obtain ⟨T, S, E, KD, G__law_pen, G__law_draw, G__law_pick, G__law_world, G__law_signs, TR, G__law_behind, G__law_args, G__law_sort, G__law_is_tree, G_is_tree, G_is_tree3, KW, G_tree_sort, G_part_at, G_with_part, G_arguments_of, G_many_inner, HE, PB, PTr, PI, PM, EB, ET, EI, EM⟩ := L
  have hu := hr.units
  obtain ⟨fK, fdK, psK, KF, KM, KK, KB⟩ := KW
  refine ⟨_, (ps_if (PW.pt (pw_or (pt_not (pt_val (C8.pe_c G_is_tree hr (by decide) (by rfl) (pa_cons (pv 4) (pa_cons (pv 6) pa_nil))))) (pw_or (pt_not (pt_val (C8.pe_c G_is_tree3 hr (by decide) (by rfl) (pa_cons (pv 4) (pa_cons (pe_callTy (show CallR _ _ (rLstOf K) from call_lstS) (by rfl) T.list PyProof.Rows.Boot.«list» (pa_cons (pv 6) pa_nil)) (pa_cons (pv 5) pa_nil)))))) (pw_or1 (pt_cmpR (show OpR _ _ (rNeY K) from op_neY (by exact hu)) (pe_lc (own := [("one", 9)]) (g := gName 9) (tt := tYes) rfl sc_law.nd (pi_seq (pe_ix (show IxR _ (rIxY K) from ix_Y) (pv 3) pe_int (fun _ _ => rfl))) (blkOk_by (N := ["script", "pen", "turn", "world", "signs", "sort", "tree", "after", "spot", "one", "bent", "lap", "at", "way", "word", "row", "told", "other", "due", "parts", "its", "odd", "asks", "long"]) (sc := C8.fnScope (topS 67)) (by decide +kernel)) (fun _ _ _ _ _ => pg_name (i := 9) sc_law.nd rfl (Or.inl rfl)) (fun _ _ _ _ _ => pts_nil) (fun _ _ _ _ _ => (pe_callN KF (hr.mono (by decide)) (by rfl) KM KK KB pass0 (pa_cons (pv 4) pa_nil) (pk_cons (pv 6) (pk_cons (pv 9) pk_nil))))) (pe_lc (own := [("one", 9)]) (g := gName 9) (tt := tYes) rfl sc_law.nd (pi_seq (pe_ix (show IxR _ (rIxY K) from ix_Y) (pv 3) pe_int (fun _ _ => rfl))) (blkOk_by (N := ["script", "pen", "turn", "world", "signs", "sort", "tree", "after", "spot", "one", "bent", "lap", "at", "way", "word", "row", "told", "other", "due", "parts", "its", "odd", "asks", "long"]) (sc := C8.fnScope (topS 67)) (by decide +kernel)) (fun _ _ _ _ _ => pg_name (i := 9) sc_law.nd rfl (Or.inl rfl)) (fun _ _ _ _ _ => pts_nil) (fun _ _ _ _ _ => (pe_cmpR op_eq (pv 9) (pv 5) (nomark _)))) (nomark _))))))
      (pss_one (ps_ret pe_bl))
      pss_nil), ?_⟩
  intro D H Q so sy wv z u so1 ws x0 x1 x2 x7 x8 x9 x10 x11 x12 x13 x14 x15 x16 x17 x18 x19 x20 x21 x22 x23 n hw rw0 sa hm ru g k
  have wf := w_facts hw
  have hsm := sort_ok wf hm
  have hok : (itemsOf (.tuple ws)).all okThing = true := plain_thing g.plain
  obtain ⟨g1, g2⟩ := grown_tree (d := .tuple ws) g rfl rfl
  obtain ⟨_, g4⟩ := grown_tree (d := .list ws) g rfl rfl
  refine ⟨_, rfl, _, rfl, NP Q, z, u, .non, so, sy, .tuple ws, .none, rfl, n, sa, wf.h3, ru, .non, rfl, hok, fun H1 e1 => ⟨_, rfl, ?_⟩⟩
  rw [g1]
  refine iteF ⟨_, rfl, _, rfl, R.lstOf (ru.ex e1) (n.ex e1) rfl fun l xs H2 hl e2 ra nl hl0 => ⟨_, rfl, NP Q, z, .ref l, .str so1, so, sy, .list ws, .str so1, rfl, (n.ex e1).ex e2, (sa.ex' e1).ex' e2, wf.h3, .lst hl nl ra, .str _, hsm, hok, fun H3 e3 => ⟨_, rfl, ?_⟩⟩⟩
  rw [g4 so1, decide_eq_true rfl]
  have e03 := (e1.trans e2).trans e3
  have n3 := n.ex e03
  refine iteF ⟨_, rfl, R.ix (rw0.ex e03) rfl (by decide) (e := .list (strsD so)) rfl fun y ry => ?_⟩
  obtain ⟨a1, xs1, rfl, ha1, ra1⟩ := seq_of ry rfl
  obtain ⟨J1, sJ1, wk1⟩ := seq_walk (K := K) ha1 ra1
  have hsl : (strsD so).length ≤ 100000 := by unfold strsD; rw [List.length_map]; have := wf.h6; omega
  refine ⟨a1, J1, rfl, sJ1, fun D1 hD1 => lc_map (N := NP Q) (fun d => .bool (decide (so1 = strOf d))) wk1 hD1 n3 hsl (fun v d H4 hd e4 nn r Q' q => ?_) fun H4 ys e4 hy ry4 => ?_⟩
  · obtain ⟨t, ht, rfl⟩ := List.mem_map.mp (show d ∈ strsD so from hd)
    rw [r.strv]
    refine ⟨_, rfl, _, rfl, _, rfl, rfl, rfl, plus (NP Q) D1, z, u, .str t, so, sy, .tuple ws, .str t, rfl, nn, ((sa.ex' e03).plus hD1).ex' e4, wf.h3, ((ru.ex e03).plus hD1).ex e4, .str _, sort_ok wf ht, hok, fun H5 e5 => ?_⟩
    rw [g2 t]
    exact q _ _ e5 (.bl _)
  have n4 := n3.ex e4
  have e04 := e03.trans e4
  have rl4 : R (NP Q) H4 (.ref D1) (.list ((strsD so).map fun d => .bool (decide (so1 = strOf d)))) := .lst hy (fun z => n3 _ z hD1) ry4
  refine ⟨_, rfl, R.ix (rw0.ex e04) rfl (by decide) (e := .list (strsD so)) rfl fun y5 ry5 => ?_⟩
  obtain ⟨a2, xs2, rfl, ha2, ra2⟩ := seq_of ry5 rfl
  obtain ⟨J2, sJ2, wk2⟩ := seq_walk (K := K) ha2 ra2
  refine ⟨a2, J2, rfl, sJ2, fun D2 hD2 => lc_map (N := NP Q) (fun d => .bool (decide (so1 = strOf d))) wk2 hD2 n4 hsl (fun v d H5 hd e5 nn r Q' q => ?_) fun H5 ys2 e5 hy2 ry6 => ?_⟩
  · obtain ⟨t, ht, rfl⟩ := List.mem_map.mp (show d ∈ strsD so from hd)
    rw [r.strv]
    refine ⟨_, rfl, _, rfl, rfl, ?_⟩
    rw [dec_text]
    rw [show decide (t = so1) = decide (so1 = t) from decide_eq_decide.mpr ⟨fun h => h.symm, fun h => h.symm⟩]
    exact q _ _ (Ex.refl _) (.bl _)
  have rl5 : R (NP Q) H5 (.ref D2) (.list ((strsD so).map fun d => .bool (decide (so1 = strOf d)))) := .lst hy2 (fun z => n4 _ z hD2) ry6
  have hb : (strsD so).map (fun d => PyData.bool (decide (so1 = strOf d))) = bools ((strsD so).map fun d => decide (so1 = strOf d)) := by unfold bools; rw [List.map_map]; rfl
  rw [hb] at rl4 rl5
  obtain ⟨b1, _, _, b4⟩ := okBools ((strsD so).map fun d => decide (so1 = strOf d))
  refine R.neD (rl4.ex e5) rl5 b1 b1 (shaped_bools _) (shaped_bools _) ⟨_, rfl, ?_⟩
  rw [b4]
  exact iteF (k _ (e04.trans e5))
theorem ends_at {sy : List SRow} {ws : List PyData} {k : Nat} (hk : k < ws.length) : ((endsI sy ws).map PyData.int)[k]? = some (.int ((endOf sy ws k : Nat) : Int)) := by
  unfold endsI
  rw [List.getElem?_map, List.getElem?_map, List.getElem?_range hk]
  rfl
theorem w5 (L : LawC P w K mg base C CB CT CI CM CP Es) (hr : Room 11 (LX P w K mg base f cdv A outer s H0 E0).A) : ∃ t, PS (LX P w K mg base f cdv A outer s H0 E0) (bT 5) t ∧
    ∀ {D : Ends} {H : Hp} {Q : Addr} {so : List Str} {sy : List SRow} {z u av : V} {so1 : Str} {ws : List PyData} {j : Nat} { x0 x1 x2 x3 x9 x10 x11 x12 x13 x14 x15 x16 x17 x18 x19 x20 x21 x22 x23 : Option V}, NOk (NP Q) H → IsW so sy → SigAt C (NP Q) H z so sy → R (NP Q) H u (.tuple ws) → Grown so sy so1 364 ws → R (NP Q) H av (.list ((endsI sy ws).map PyData.int)) → j < ws.length →
      (∀ (H' : Hp), Ex H H' → D.nx (Sg x0 x1 x2 x3 (some (z)) (some (.str so1)) (some (u)) (some (av)) (some (.int (j : Int))) x9 x10 x11 x12 x13 x14 x15 x16 x17 x18 x19 x20 x21 x22 x23) H') → t D (Sg x0 x1 x2 x3 (some (z)) (some (.str so1)) (some (u)) (some (av)) (some (.int (j : Int))) x9 x10 x11 x12 x13 x14 x15 x16 x17 x18 x19 x20 x21 x22 x23) H := by
  obtain ⟨T, S, E, KD, G__law_pen, G__law_draw, G__law_pick, G__law_world, G__law_signs, TR, G__law_behind, G__law_args, G__law_sort, G__law_is_tree, G_is_tree, G_is_tree3, KW, G_tree_sort, G_part_at, G_with_part, G_arguments_of, G_many_inner, HE, PB, PTr, PI, PM, EB, ET, EI, EM⟩ := L
  have hu := hr.units
  refine ⟨_, (ps_if (PW.pt (pw_or (pt_cmpR op_ne (pe_cX G_tree_sort hr (by decide) p0 (by rfl) (pa_cons (pv 4) (pa_cons (pv 6) pa_nil))) (pv 5) (nomark _)) (pw_or1 (pt_cmpR (show OpR _ _ (rNeY K) from op_neY (by exact hu)) (pe_cX G_part_at hr (by decide) p0 (by rfl) (pa_cons (pv 4) (pa_cons (pe_callTy (show CallR _ _ (rLstOf K) from call_lstS) (by rfl) T.list PyProof.Rows.Boot.«list» (pa_cons (pv 6) pa_nil)) (pa_cons (pv 8) pa_nil)))) (pe_slice (show SlR _ (rSlTY K) from sl_tupY) (pv 6) (po_some (pv 8)) (po_some (pe_ix (show IxR _ (rIxY K) from ix_Y) (pv 7) (pv 8) (fun _ _ => rfl)))) (nomark _)))))
      (pss_one (ps_ret pe_bl))
      pss_nil), ?_⟩
  intro D H Q so sy z u av so1 ws j x0 x1 x2 x3 x9 x10 x11 x12 x13 x14 x15 x16 x17 x18 x19 x20 x21 x22 x23 n hw sa ru g ra hj k
  have wf := w_facts hw
  have tw := grown_w g
  have hok : (itemsOf (.tuple ws)).all okThing = true := plain_thing g.plain
  obtain ⟨g1, g2⟩ := grown_tree (d := .tuple ws) g rfl rfl
  obtain ⟨g3, g4⟩ := grown_tree (d := .list ws) g rfl rfl
  refine ⟨_, rfl, _, rfl, NP Q, z, u, rfl, n, .inr ⟨so, sy, .tuple ws, sa, wf.h3, ru, hok, fun h => (by rw [g1] at h; cases h), fun _ t H1 e1 hs => ?_⟩⟩
  rw [show (itemsOf (.tuple ws)).map fixD = ws from plain_fix g.plain, grown_sort g] at hs
  cases hs
  refine ⟨_, rfl, rfl, _, rfl, ?_⟩
  rw [decide_eq_true rfl]
  refine iteF ⟨_, rfl, _, rfl, R.lstOf (ru.ex e1) (n.ex e1) rfl fun l xs H2 hl e2 rl nl hl0 => ⟨_, rfl, NP Q, z, .ref l, .int (j : Int), rfl, (n.ex e1).ex e2, .inr ⟨so, sy, .list ws, (sa.ex' e1).ex' e2, wf.h3, .lst hl nl rl, hok, fun h => (by rw [g3] at h; cases h), fun _ => ⟨.int (j : Int), .int _, fun h => ?_, fun i hi hlt v H3 e3 rv => ?_⟩⟩⟩⟩
  · have h : (decide ((0 : Int) ≤ (j : Int)) && decide ((j : Int) ≤ ((((itemsOf (.list ws)).map fixD).length : Nat) : Int) - 1)) = false := h
    rw [show (itemsOf (.list ws)).map fixD = ws from plain_fix g.plain, decide_eq_true (by omega), decide_eq_true (by omega)] at h
    cases h
  · have hij : i = j := by
      have := PyData.int.inj hi
      omega
    subst hij
    rw [show (itemsOf (.list ws)).map fixD = ws from plain_fix g.plain] at rv
    have e13 := (e1.trans e2).trans e3
    obtain ⟨rest, hsk⟩ := tw.part hj
    obtain ⟨_, f2, f3, _⟩ := end_facts hj hsk
    refine ⟨_, rfl, _, rfl, _, rfl, _, rfl, _, rfl, R.ix (ra.ex e13) rfl (by omega) (e := .int ((endOf sy ws i : Nat) : Int)) (by show ((endsI sy ws).map PyData.int)[((i : Nat) : Int).toNat]? = _; rw [Int.toNat_natCast]; exact ends_at hj) fun y ry => ?_⟩
    rw [ry.intv]
    refine ⟨_, rfl, R.sliceT (ru.ex e13) (n.ex e13) fun x H4 e4 rx => ?_⟩
    rw [slice_mid (by omega) f3] at rx
    have hpart : ∀ q ∈ partW sy ws i, q ∈ ws := fun q hq => List.mem_of_mem_drop (List.mem_of_mem_take hq)
    have hokp : (partW sy ws i).all okW = true := List.all_eq_true.mpr fun q hq => List.all_eq_true.mp (plain_okW wf.nm g.plain tw.known) q (hpart q hq)
    have o := okds hokp
    refine R.neD (rv.ex e4) rx o.nd o.nd o.shaped.1 o.shaped.1 ⟨_, rfl, ?_⟩
    rw [show PyData.eqv (.tuple (partW sy ws i)) (.tuple ((ws.drop i).take (endOf sy ws i - i))) = true from o.eqT]
    exact iteF (k _ (e13.trans e4))
end
end K1
end

section
set_option Elab.async false
set_option linter.all false
set_option maxRecDepth 100000
set_option maxHeartbeats 2000000
namespace K1
open PySem L2 Rp
section
variable {P : Program} {w : World} {K : PySem.W.Frag} {mg : Str → Option Value} {base : Heap} {f : Addr} {cdv : Value} {A : Around} {outer : List Env} {s : Shared} {H0 : Hp} {E0 : XK} {C CB CT CI CM CP : Addr} {Es : Nat → Addr}
theorem w6 (L : LawC P w K mg base C CB CT CI CM CP Es) (hr : Room 11 (LX P w K mg base f cdv A outer s H0 E0).A) : ∃ t, PS (LX P w K mg base f cdv A outer s H0 E0) (bT 6) t ∧
    ∀ {D : Ends} {H : Hp} {Q : Addr} {u : V} {ws : List PyData} { x0 x1 x2 x3 x4 x5 x7 x8 x9 x10 x11 x12 x13 x14 x15 x16 x17 x18 x19 x20 x21 x22 x23 : Option V}, NOk (NP Q) H → R (NP Q) H u (.tuple ws) →
      (∀ (b : V) (H' : Hp), Ex H H' → R (NP Q) H' b (.list ws) → D.nx (Sg x0 x1 x2 x3 x4 x5 (some (u)) x7 x8 x9 (some (b)) x11 x12 x13 x14 x15 x16 x17 x18 x19 x20 x21 x22 x23) H') → t D (Sg x0 x1 x2 x3 x4 x5 (some (u)) x7 x8 x9 x10 x11 x12 x13 x14 x15 x16 x17 x18 x19 x20 x21 x22 x23) H := by
  obtain ⟨T, S, E, KD, G__law_pen, G__law_draw, G__law_pick, G__law_world, G__law_signs, TR, G__law_behind, G__law_args, G__law_sort, G__law_is_tree, G_is_tree, G_is_tree3, KW, G_tree_sort, G_part_at, G_with_part, G_arguments_of, G_many_inner, HE, PB, PTr, PI, PM, EB, ET, EI, EM⟩ := L
  have hu := hr.units
  refine ⟨_, (ps_set (i := 10) sc_law.nd rfl (by first | exact Or.inl rfl | exact Or.inr rfl) (pe_callTy (show CallR _ _ (rLstOf K) from call_lstS) (by rfl) T.list PyProof.Rows.Boot.«list» (pa_cons (pv 6) pa_nil))), ?_⟩
  intro D H Q u ws x0 x1 x2 x3 x4 x5 x7 x8 x9 x10 x11 x12 x13 x14 x15 x16 x17 x18 x19 x20 x21 x22 x23 n ru k
  exact ⟨_, rfl, R.lstOf ru n rfl fun l xs H1 hl e1 ra nl hl0 => k (.ref l) H1 e1 (.lst hl nl ra)⟩
theorem take_all {p : PyData → Bool} {ds : List PyData} {a b : Nat} (h : ds.all p = true) : ((ds.drop a).take b).all p = true := List.all_eq_true.mpr fun x hx => List.all_eq_true.mp h x (List.mem_of_mem_drop (List.mem_of_mem_take hx))
theorem tail_len {ds : List PyData} {i : Nat} : ((ds.drop (HT.sIx ds.length 0 (some (i : Int)))).take (HT.sIx ds.length ds.length none - HT.sIx ds.length 0 (some (i : Int)))).length ≤ ds.length - i := by
  rw [List.length_take, List.length_drop, HT.sIx_nat]
  omega
/-- the words that bend a tree -/
theorem bend_ok {so : List Str} {sy : List SRow} {s0 : Str} (h0 : nameOk s0 = true) : (sy.map fun r => PyData.str r.name).all lawW = true ∧ [PyData.tuple [.str s0, .str "q"], .tuple [.str "m", .str "q"], .str "Q"].all lawW = true := by
  constructor
  · refine List.all_eq_true.mpr fun d hd => ?_
    obtain ⟨r, _, rfl⟩ := List.mem_map.mp hd
    rfl
  · have h1 : lawW (.tuple [.str s0, .str "q"]) = true := by
      show (false || (true && decide (2 = 2) && nameOk s0 && nameOk "q")) = true
      have hq : nameOk "q" = true := by decide +kernel
      rw [h0, hq]
      rfl
    show (lawW (.tuple [.str s0, .str "q"]) && (lawW (.tuple [.str "m", .str "q"]) && (lawW (.str "Q") && true))) = true
    rw [h1]
    decide +kernel
theorem w7 (L : LawC P w K mg base C CB CT CI CM CP Es) (hr : Room 11 (LX P w K mg base f cdv A outer s H0 E0).A) : ∃ t, PS (LX P w K mg base f cdv A outer s H0 E0) (bT 7) t ∧
    ∀ {D : Ends} {H : Hp} {Q C0 : Addr} {ns : List Int} {n : Nat} {so : List Str} {sy : List SRow} {wv b : V} {bs : List PyData} { x0 x2 x4 x5 x6 x7 x8 x9 x11 x12 x13 x14 x15 x16 x17 x18 x19 x20 x21 x22 x23 : Option V}, Pen Q C0 ns (n + 7) H → IsW so sy → R (NP Q) H wv (worldD so sy) → R (NP Q) H b (.list bs) → bs.all lawW = true → bs.length ≤ 364 →
      (∀ (b' : V) (bs' : List PyData) (y11 y12 y13 y14 y15 : Option V) (H' : Hp), bs'.all lawW = true → bs'.length ≤ 366 → Pen Q C0 ns n H' → Xt Q H H' → R (NP Q) H' b' (.list bs') → D.nx (Sg x0 (some (.ref Q)) x2 (some (wv)) x4 x5 x6 x7 x8 x9 (some (b')) y11 y12 y13 y14 y15 x16 x17 x18 x19 x20 x21 x22 x23) H') → t D (Sg x0 (some (.ref Q)) x2 (some (wv)) x4 x5 x6 x7 x8 x9 (some (b)) x11 x12 x13 x14 x15 x16 x17 x18 x19 x20 x21 x22 x23) H := by
  obtain ⟨T, S, E, KD, G__law_pen, G__law_draw, G__law_pick, G__law_world, G__law_signs, TR, G__law_behind, G__law_args, G__law_sort, G__law_is_tree, G_is_tree, G_is_tree3, KW, G_tree_sort, G_part_at, G_with_part, G_arguments_of, G_many_inner, HE, PB, PTr, PI, PM, EB, ET, EI, EM⟩ := L
  have hu := hr.units
  refine ⟨_, (ps_for PassesOwn.never rfl (pi_range1 rfl T.range (pa_cons (pe_op op_add pe_int (C8.pe_c G__law_draw hr (by decide) (by rfl) (pa_cons (pv 1) (pa_cons pe_int pa_nil)))) pa_nil)) (pg_name (i := 11) sc_law.nd rfl (by first | exact Or.inl rfl | exact Or.inr rfl))
      (pss_cons (ps_par (i := 12) (j := 13) rfl sc_law.nd rfl rfl (by decide) rfl rfl (pa_cons (C8.pe_c G__law_draw hr (by decide) (by rfl) (pa_cons (pv 1) (pa_cons (pe_op op_add (pe_callB (show CallR _ _ (Rp.rLen K) from call_lenS) (by rfl) T.len PyProof.Rows.Boot.«len» (pa_cons (pv 10) pa_nil)) pe_int) pa_nil))) (pa_cons (C8.pe_c G__law_draw hr (by decide) (by rfl) (pa_cons (pv 1) (pa_cons pe_int pa_nil))) pa_nil)) rfl)
      (pss_cons (ps_set (i := 14) sc_law.nd rfl (by first | exact Or.inl rfl | exact Or.inr rfl) (C8.pe_c G__law_pick hr (by decide) (by rfl) (pa_cons (pv 1) (pa_cons (pe_op op_catY (pe_lc (own := [("row", 15)]) (g := gName 15) (tt := tYes) rfl sc_law.nd (pi_seq (pe_ix (show IxR _ (rIxY K) from ix_Y) (pv 3) pe_int (fun _ _ => rfl))) (blkOk_by (N := ["script", "pen", "turn", "world", "signs", "sort", "tree", "after", "spot", "one", "bent", "lap", "at", "way", "word", "row", "told", "other", "due", "parts", "its", "odd", "asks", "long"]) (sc := C8.fnScope (topS 67)) (by decide +kernel)) (fun _ _ _ _ _ => pg_name (i := 15) sc_law.nd rfl (Or.inl rfl)) (fun _ _ _ _ _ => pts_nil) (fun _ _ _ _ _ => (pe_ix (show IxR _ (rIxY K) from ix_Y) (pv 15) pe_int (fun _ _ => rfl)))) (pe_lst (pa_cons (pe_tup (pa_cons (pe_ix (show IxR _ (rIxY K) from ix_Y) (pe_ix (show IxR _ (rIxY K) from ix_Y) (pv 3) pe_int (fun _ _ => rfl)) pe_int (fun _ _ => rfl)) (pa_cons pe_str pa_nil))) (pa_cons (pe_tup (pa_cons pe_str (pa_cons pe_str pa_nil))) (pa_cons pe_str pa_nil))))) pa_nil))))
      (pss_one (ps_set (i := 10) sc_law.nd rfl (by first | exact Or.inl rfl | exact Or.inr rfl) (pe_ifExp (pt_cmpR op_lt (pv 13) pe_int (nomark _)) (pe_op op_catY (pe_op op_catY (pe_slice (show SlR _ (rSlY K) from sl_Y) (pv 10) po_none (po_some (pv 12))) (pe_lst (pa_cons (pv 14) pa_nil))) (pe_slice (show SlR _ (rSlY K) from sl_Y) (pv 10) (po_some (pe_op op_add (pv 12) (pe_callTy call_int1 (by rfl) T.int PyProof.Rows.Boot.«int» (pa_cons (pe_cmpR op_eq (pv 13) pe_int (nomark _)) pa_nil)))) po_none)) (pe_op op_catY (pe_slice (show SlR _ (rSlY K) from sl_Y) (pv 10) po_none (po_some (pv 12))) (pe_slice (show SlR _ (rSlY K) from sl_Y) (pv 10) (po_some (pe_op op_add (pv 12) pe_int)) po_none)))))))), ?_⟩
  intro D H Q C0 ns n so sy wv b bs x0 x2 x4 x5 x6 x7 x8 x9 x11 x12 x13 x14 x15 x16 x17 x18 x19 x20 x21 x22 x23 pn hw rw0 rb hlw hbl k
  have wf := w_facts hw
  refine ⟨_, rfl, Q, C0, ns, n + 6, 2, rfl, pn, by decide, by decide, fun r H1 r0 r1 p1 x1 => ⟨_, _, rfl, rfl, _, rfl, by omega, by omega, ?_⟩⟩
  have hrl : (rangeD 0 (1 + r).toNat).length ≤ 2 := by rw [rangeD_length]; omega
  refine for_data (N := NP Q) (ds := rangeD 0 (1 + r).toNat) (fun j σ H' => ∃ (b' : V) (bs' : List PyData) (y11 y12 y13 y14 y15 : Option V), σ = (Sg x0 (some (.ref Q)) x2 (some (wv)) x4 x5 x6 x7 x8 x9 (some (b')) y11 y12 y13 y14 y15 x16 x17 x18 x19 x20 x21 x22 x23) ∧ bs'.all lawW = true ∧ bs'.length ≤ 364 + j ∧ Pen Q C0 ns (n + 6 - 3 * j) H' ∧ Xt Q H H' ∧ Xt Q H1 H' ∧ R (NP Q) H' b' (.list bs')) wkx_range ?_ ?_ ?_ ?_
  · exact ⟨b, bs, _, _, _, _, _, rfl, hlw, by omega, p1, x1, Xt.refl Q H1, rb.mono (x1.xn (N := NP Q) rfl)⟩
  · rintro i σ H' ⟨_, _, _, _, _, _, _, _, _, _, _, _, x, _⟩
    exact x.xn rfl
  · rintro j x d σ H2 hj ⟨b', bs', y11, y12, y13, y14, y15, rfl, hlw2, hbl2, p2, z2, z12, rb2⟩ rx
    have hj2 : j < 2 := by
      have := (List.getElem?_eq_some_iff.mp hj).1
      omega
    have rw2 := rw0.mono (z2.xn (N := NP Q) rfl)
    refine ⟨_, rfl, _, rfl, R.len rb2 rfl ⟨_, _, rfl, rfl, Q, C0, ns, n + 6 - 3 * j - 1, _, rfl, p2.le (by omega), ?_, ?_, fun at_ H3 a0 a1 p3 z3 => ?_⟩⟩
    · rw [show (((itemsOf (.list bs')).length : Nat) : Int) = (bs'.length : Int) from rfl]; omega
    · rw [show (((itemsOf (.list bs')).length : Nat) : Int) = (bs'.length : Int) from rfl]; omega
    have a1 : at_ < (bs'.length : Int) + 1 := a1
    obtain ⟨ai, rfl⟩ : ∃ ai : Nat, at_ = (ai : Int) := ⟨at_.toNat, by omega⟩
    refine ⟨_, rfl, Q, C0, ns, n + 6 - 3 * j - 2, 3, rfl, p3.le (by omega), by decide, by decide, fun way H4 b0 b1 p4 z4 => ⟨_, _, rfl, ?_⟩⟩
    have z24 := z3.trans z4
    have rw4 := rw2.mono (z24.xn (N := NP Q) rfl)
    have n4 : NOk (NP Q) H4 := p4.nok
    obtain ⟨s0, hs0⟩ : ∃ s0, so[0]? = some s0 := ⟨_, List.getElem?_eq_getElem wf.h1⟩
    have hn0 : nameOk s0 = true := List.all_eq_true.mp wf.snm s0 (List.mem_of_getElem? hs0)
    obtain ⟨ok1, ok2⟩ := bend_ok (so := so) (sy := sy) hn0
    refine ⟨_, rfl, _, rfl, R.ix rw4 rfl (by decide) (e := .list (sy.map rowT)) rfl fun y1 r1 => ?_⟩
    obtain ⟨a1', xs1, rfl, ha1, ra1⟩ := seq_of r1 rfl
    obtain ⟨J1, sJ1, wk1⟩ := seq_walk (K := K) ha1 ra1
    refine ⟨a1', J1, rfl, sJ1, fun D1 hD1 => lc_map (N := NP Q) rowName wk1 hD1 n4 (by show (sy.map rowT).length ≤ 100000; rw [List.length_map]; have := wf.h16; omega) (fun v d H5 hd e5 nn r' Q' q => ?_) fun H5 ys e5 hy ry5 => ?_⟩
    · obtain ⟨ρ, _, rfl⟩ := List.mem_map.mp (show d ∈ sy.map rowT from hd)
      exact ⟨_, rfl, R.ix r' rfl (by decide) (e := .str ρ.name) rfl fun u2 ru2 => q _ _ (Ex.refl _) ru2⟩
    have rl5 : R (NP Q) H5 (.ref D1) (.list ((sy.map rowT).map rowName)) := .lst hy (fun z => n4 _ z hD1) ry5
    have n5 := n4.ex e5
    refine ⟨_, rfl, R.ix (rw4.ex e5) rfl (by decide) (e := .list (strsD so)) rfl fun y2 r2 => R.ix r2 rfl (by decide) (e := .str s0) (by show (so.map PyData.str)[0]? = _; rw [List.getElem?_map, hs0]; rfl) fun y3 r3 => ⟨(by show 2 ≤ sizeLine; decide), fun q1 h1 => ⟨(by show 2 ≤ sizeLine; decide), fun q2 h2 => ⟨(by show 3 ≤ sizeLine; decide), fun q3 h3 => ?_⟩⟩⟩⟩
    have f1 := Ex.new (o := HO.tup [y3, .str "q"]) h1
    have m1 := n5.ex f1
    have f2 := Ex.new (o := HO.tup [.str "m", .str "q"]) h2
    have m2 := m1.ex f2
    have t1 : R (NP Q) _ (.ref q1) (.tuple [.str s0, .str "q"]) := (RAll.tupR (.cons r3 (.cons (.str "q") .nil)) n5 h1).ex f2
    have t2 : R (NP Q) _ (.ref q2) (.tuple [.str "m", .str "q"]) := RAll.tupR (.cons (.str "m") (.cons (.str "q") .nil)) m1 h2
    have t3 := RAll.lstR (.cons t1 (.cons t2 (.cons (.str "Q") .nil))) m2 h3
    have f3 := Ex.new (o := HO.lst [.ref q1, .ref q2, .str "Q"]) h3
    have f13 := (f1.trans f2).trans f3
    have m3 := m2.ex f3
    refine R.cat (rl5.ex f13) t3 m3 (by rw [List.length_map, List.length_map]; show _ + 3 ≤ _; have := wf.h16; omega) fun u6 H6 e6 r6 => ?_
    have e46 := (e5.trans f13).trans e6
    have hall : ((sy.map rowT).map rowName ++ [PyData.tuple [.str s0, .str "q"], .tuple [.str "m", .str "q"], .str "Q"]).all lawW = true := by
      rw [List.all_append, ok2, List.map_map]
      rw [show (rowName ∘ rowT) = fun r => PyData.str r.name from rfl, ok1]
      rfl
    refine ⟨NP Q, Q, C0, ns, n + 6 - 3 * j - 3, u6, _, rfl, rfl, r6, rfl, ?_, ?_, (p4.ex e46).le (by omega), fun i ev xw H7 he p7 z7 rx7 => ?_⟩
    · show 1 ≤ List.length (_ ++ _)
      rw [List.length_append]
      show 1 ≤ _ + 3
      omega
    · show List.length (_ ++ _) ≤ 100000
      rw [List.length_append, List.length_map, List.length_map]
      show _ + 3 ≤ _
      have := wf.h16
      omega
    have hlev : lawW ev = true := List.all_eq_true.mp hall ev (List.mem_of_getElem? he)
    have z27 : Xt Q H2 H7 := (z24.trans e46.xt).trans z7
    have rb7 : R (NP Q) H7 b' (.list bs') := rb2.mono (z27.xn (N := NP Q) rfl)
    have n7 : NOk (NP Q) H7 := p7.nok
    have hfin : ∀ (z15 : Option V) (v8 : V) (bs8 : List PyData) (H8 : Hp), Ex H7 H8 → R (NP Q) H8 v8 (.list bs8) → bs8.all lawW = true → bs8.length ≤ bs'.length + 1 → ∃ (b'' : V) (bs'' : List PyData) (y11 y12 y13 y14 y15 : Option V), (Sg x0 (some (.ref Q)) x2 (some (wv)) x4 x5 x6 x7 x8 x9 (some (v8)) (some (x)) (some (.int (ai : Int))) (some (.int way)) (some (xw)) z15 x16 x17 x18 x19 x20 x21 x22 x23) = (Sg x0 (some (.ref Q)) x2 (some (wv)) x4 x5 x6 x7 x8 x9 (some (b'')) y11 y12 y13 y14 y15 x16 x17 x18 x19 x20 x21 x22 x23) ∧ bs''.all lawW = true ∧ bs''.length ≤ 364 + (j + 1) ∧ Pen Q C0 ns (n + 6 - 3 * (j + 1)) H8 ∧ Xt Q H H8 ∧ Xt Q H1 H8 ∧ R (NP Q) H8 b'' (.list bs'') := fun z15 v8 bs8 H8 e8 r8 h1 h2 =>
      ⟨v8, bs8, _, _, _, _, _, rfl, h1, by omega, (p7.ex e8).le (by omega), (z2.trans z27).trans e8.xt, (z12.trans z27).trans e8.xt, r8⟩
    refine ⟨_, rfl, _, _, rfl, rfl, _, rfl, ?_⟩
    refine ite2 (fun _ => ?_) (fun _ => ?_)
    · refine ⟨_, rfl, _, rfl, _, rfl, R.slice rb7 n7 fun x8 H8 e8 r8 => ⟨_, rfl, (by show 1 ≤ sizeLine; decide), fun p9 h9 => ?_⟩⟩
      rw [slice_front (by omega)] at r8
      have e9 := Ex.new (o := HO.lst [xw]) h9
      have n8 := n7.ex e8
      have r9 : R (NP Q) _ (.ref p9) (.list [ev]) := RAll.lstR (.cons (rx7.ex e8) .nil) n8 h9
      refine R.cat (r8.ex e9) r9 (n8.ex e9) (by rw [List.length_take]; show _ + 1 ≤ _; omega) fun x10 H10 e10 r10 => ?_
      have e710 := (e8.trans e9).trans e10
      refine ⟨_, rfl, _, rfl, _, rfl, rfl, .inr ⟨_, rfl, _, _, rfl, rfl, _, rfl, R.slice (rb7.ex e710) (n7.ex e710) fun x11 H11 e11 r11 => ?_⟩⟩
      have e711 := e710.trans e11
      obtain ⟨i2, hi2⟩ : ∃ i2 : Nat, (ai : Int) + (if decide (V.int way = V.int 1) = true then 1 else 0) = (i2 : Int) ∧ ai ≤ i2 := by
        by_cases c : decide (V.int way = V.int 1) = true
        · exact ⟨ai + 1, by rw [if_pos c]; omega, by omega⟩
        · exact ⟨ai, by rw [if_neg c]; omega, by omega⟩
      rw [hi2.1] at r11
      have hl11 := tail_len (ds := bs') (i := i2)
      refine R.cat (r10.ex e11) r11 (n7.ex e711) (by rw [List.length_append, List.length_take]; show _ + 1 + _ ≤ _; omega) fun z12' H12 e12 r12 => ?_
      refine hfin _ z12' _ H12 (e711.trans e12) r12 ?_ ?_
      · rw [List.all_append, List.all_append, take_all hlw2, show (bs'.take ai).all lawW = true from take_all (a := 0) hlw2]
        show (true && (lawW ev && true) && true) = true
        rw [hlev]
        rfl
      · rw [List.length_append, List.length_append, List.length_take]
        show min ai bs'.length + 1 + _ ≤ _
        omega
    · refine ⟨_, rfl, _, rfl, _, rfl, R.slice rb7 n7 fun x8 H8 e8 r8 => ⟨_, rfl, _, rfl, _, _, rfl, rfl, _, rfl, ?_⟩⟩
      rw [slice_front (by omega)] at r8
      refine R.slice (rb7.ex e8) (n7.ex e8) fun x11 H11 e11 r11 => ?_
      rw [show (ai : Int) + 1 = ((ai + 1 : Nat) : Int) by omega] at r11
      have hl11 := tail_len (ds := bs') (i := ai + 1)
      have e711 := e8.trans e11
      refine R.cat (r8.ex e11) r11 (n7.ex e711) (by rw [List.length_take]; omega) fun z12' H12 e12 r12 => ?_
      refine hfin _ z12' _ H12 (e711.trans e12) r12 ?_ ?_
      · rw [List.all_append, take_all hlw2, show (bs'.take ai).all lawW = true from take_all (a := 0) hlw2]
        rfl
      · rw [List.length_append, List.length_take]
        omega
  · rintro σ H' ⟨b', bs', y11, y12, y13, y14, y15, rfl, hlw2, hbl2, p2, x2, x12, rb2⟩
    exact k b' bs' _ _ _ _ _ H' hlw2 (by omega) (p2.le (by omega)) x2 rb2
end
end K1
end

section
set_option Elab.async false
set_option linter.all false
set_option maxRecDepth 100000
set_option maxHeartbeats 2000000
namespace K1
open PySem L2 Rp
theorem law_thing {ws : List PyData} (h : ws.all lawW = true) : ws.all okThing = true := List.all_eq_true.mpr fun w hw => by
  have h1 : (isStr w || isThing w) = true := List.all_eq_true.mp h w hw
  cases hs : isStr w with
  | true =>
    obtain ⟨x, rfl⟩ := str_is hs
    rfl
  | false =>
    rw [hs] at h1
    have h1 : isThing w = true := h1
    unfold isThing at h1
    simp only [Bool.and_eq_true, decide_eq_true_eq] at h1
    obtain ⟨⟨⟨_, h2⟩, h3⟩, h4⟩ := h1
    match hi : itemsOf w, h2 with
    | [a, b], _ =>
      rw [hi] at h3 h4
      unfold okThing
      rw [hi]
      show (short a && (short b && true)) = true
      rw [name_short (x := a) h3, name_short (x := b) h4]
      rfl
theorem fix_sort {sy : List SRow} (d : PyData) : sortW sy (fixD d) = sortW sy d := by
  cases hs : isStr d with
  | true =>
    obtain ⟨x, rfl⟩ := str_is hs
    rfl
  | false =>
    rw [sortW_not hs, sortW_not (by rw [fix_str]; exact hs), fix_thing]
    by_cases c : isThing d = true
    · rw [if_pos c, if_pos c, (thing_first c).1]
    · rw [if_neg c, if_neg c]
theorem tree_list {so : List Str} {sy : List SRow} {bs : List PyData} {s : PyData} (h : bs.length ≤ 400) : treeB so sy (.list bs) s = toldB so sy isThing bs s := by
  show (true && decide (bs.length ≤ 400) && toldB so sy isThing bs s) = _
  rw [decide_eq_true h]
  rfl
theorem sort_str {so : List Str} {sy : List SRow} (hw : IsW so sy) {w : PyData} {t : Str} (hl : lawW w = true) (hs : sortW sy w = some t) : PyData.strOk t = true := by
  cases hc : isStr w with
  | true =>
    obtain ⟨x, rfl⟩ := str_is hc
    have hs : (rowOf sy (.str x)).map (·.sort) = some t := hs
    obtain ⟨r, hrow, rfl⟩ := Option.map_eq_some_iff.mp hs
    obtain ⟨_, _, _, _, q6, _⟩ := w_bool _ hw
    exact (Bool.and_eq_true_iff.mp (Bool.and_eq_true_iff.mp (List.all_eq_true.mp q6 r (List.mem_of_find?_eq_some hrow))).1).2
  | false =>
    have h1 : (isStr w || isThing w) = true := hl
    rw [hc] at h1
    have h1 : isThing w = true := h1
    rw [sortW_not hc, if_pos h1] at hs
    cases hs
    obtain ⟨_, x, hx⟩ := thing_leaf.seq w h1
    have hg : (itemsOf w).getD 0 .none = .str x := by
      rw [List.getD_eq_getElem?_getD, hx]
      rfl
    unfold isThing at h1
    simp only [Bool.and_eq_true, decide_eq_true_eq] at h1
    have := h1.1.2
    rw [hg] at this ⊢
    exact name_str this
theorem dec_bools (a b : Bool) : decide (V.bl a = V.bl b) = decide (a = b) := by simp
section
variable {P : Program} {w : World} {K : PySem.W.Frag} {mg : Str → Option Value} {base : Heap} {f : Addr} {cdv : Value} {A : Around} {outer : List Env} {s : Shared} {H0 : Hp} {E0 : XK} {C CB CT CI CM CP : Addr} {Es : Nat → Addr} {cL Pt : Addr}
theorem w8 (L : LawC P w K mg base C CB CT CI CM CP Es) (hr : Room 11 (LX P w K mg base f cdv A outer s H0 E0).A) : ∃ t, PS (LX P w K mg base f cdv A outer s H0 E0) (bT 8) t ∧
    ∀ {D : Ends} {H : Hp} {Q : Addr} {so : List Str} {sy : List SRow} {wv b : V} {bs : List PyData} { x0 x1 x2 x4 x5 x6 x7 x8 x9 x11 x12 x13 x14 x15 x16 x17 x18 x19 x20 x21 x22 x23 : Option V}, NOk (NP Q) H → IsW so sy → R (NP Q) H wv (worldD so sy) → R (NP Q) H b (.list bs) → bs.all lawW = true → bs.length ≤ 366 →
      (∀ (H' : Hp), Ex H H' → D.nx (Sg x0 x1 x2 (some (wv)) x4 x5 x6 x7 x8 x9 (some (b)) x11 x12 x13 x14 x15 (some (.bl (toldB so sy isThing bs .none))) x17 x18 x19 x20 x21 x22 x23) H') → t D (Sg x0 x1 x2 (some (wv)) x4 x5 x6 x7 x8 x9 (some (b)) x11 x12 x13 x14 x15 x16 x17 x18 x19 x20 x21 x22 x23) H := by
  obtain ⟨T, S, E, KD, G__law_pen, G__law_draw, G__law_pick, G__law_world, G__law_signs, TR, G__law_behind, G__law_args, G__law_sort, G__law_is_tree, G_is_tree, G_is_tree3, KW, G_tree_sort, G_part_at, G_with_part, G_arguments_of, G_many_inner, HE, PB, PTr, PI, PM, EB, ET, EI, EM⟩ := L
  have hu := hr.units
  refine ⟨_, (ps_set (i := 16) sc_law.nd rfl (by first | exact Or.inl rfl | exact Or.inr rfl) (C8.pe_c G__law_is_tree hr (by decide) (by rfl) (pa_cons (pv 3) (pa_cons (pv 10) (pa_cons pe_non pa_nil))))), ?_⟩
  intro D H Q so sy wv b bs x0 x1 x2 x4 x5 x6 x7 x8 x9 x11 x12 x13 x14 x15 x16 x17 x18 x19 x20 x21 x22 x23 n hw rw0 rb hlw hbl k
  exact ⟨_, rfl, _, rfl, NP Q, wv, b, .non, so, sy, bs, .none, rfl, n, rw0, hw, rb, .non, rfl, hlw, by omega, fun H1 e1 => k H1 e1⟩
theorem w9 (L : LawC P w K mg base C CB CT CI CM CP Es) (hr : Room 11 (LX P w K mg base f cdv A outer s H0 E0).A) : ∃ t, PS (LX P w K mg base f cdv A outer s H0 E0) (bT 9) t ∧
    ∀ {D : Ends} {H : Hp} {Q : Addr} {so : List Str} {sy : List SRow} {wv z b : V} {so1 : Str} {bs : List PyData} { x0 x1 x2 x6 x7 x8 x9 x11 x12 x13 x14 x15 x17 x18 x19 x20 x21 x22 x23 : Option V}, NOk (NP Q) H → IsW so sy → R (NP Q) H wv (worldD so sy) → SigAt C (NP Q) H z so sy → so1 ∈ so → R (NP Q) H b (.list bs) → bs.all lawW = true → bs.length ≤ 366 →
      (∀ (H' : Hp), Ex H H' → D.nx (Sg x0 x1 x2 (some (wv)) (some (z)) (some (.str so1)) x6 x7 x8 x9 (some (b)) x11 x12 x13 x14 x15 (some (.bl (toldB so sy isThing bs .none))) x17 x18 x19 x20 x21 x22 x23) H') → t D (Sg x0 x1 x2 (some (wv)) (some (z)) (some (.str so1)) x6 x7 x8 x9 (some (b)) x11 x12 x13 x14 x15 (some (.bl (toldB so sy isThing bs .none))) x17 x18 x19 x20 x21 x22 x23) H := by
  obtain ⟨T, S, E, KD, G__law_pen, G__law_draw, G__law_pick, G__law_world, G__law_signs, TR, G__law_behind, G__law_args, G__law_sort, G__law_is_tree, G_is_tree, G_is_tree3, KW, G_tree_sort, G_part_at, G_with_part, G_arguments_of, G_many_inner, HE, PB, PTr, PI, PM, EB, ET, EI, EM⟩ := L
  have hu := hr.units
  refine ⟨_, (ps_if (PW.pt (pw_or (pt_cmpR op_ne (C8.pe_c G_is_tree hr (by decide) (by rfl) (pa_cons (pv 4) (pa_cons (pv 10) pa_nil))) (pv 16) (nomark _)) (pw_or1 (pt_cmpR op_ne (C8.pe_c G_is_tree3 hr (by decide) (by rfl) (pa_cons (pv 4) (pa_cons (pv 10) (pa_cons (pv 5) pa_nil)))) (C8.pe_c G__law_is_tree hr (by decide) (by rfl) (pa_cons (pv 3) (pa_cons (pv 10) (pa_cons (pv 5) pa_nil)))) (nomark _)))))
      (pss_one (ps_ret pe_bl))
      pss_nil), ?_⟩
  intro D H Q so sy wv z b so1 bs x0 x1 x2 x6 x7 x8 x9 x11 x12 x13 x14 x15 x17 x18 x19 x20 x21 x22 x23 n hw rw0 sa hm rb hlw hbl k
  have wf := w_facts hw
  have hok : (itemsOf (.list bs)).all okThing = true := law_thing hlw
  refine ⟨_, rfl, _, rfl, NP Q, z, b, .non, so, sy, .list bs, .none, rfl, n, sa, wf.h3, rb, .non, rfl, hok, fun H1 e1 => ⟨_, rfl, rfl, _, rfl, ?_⟩⟩
  rw [tree_list (by omega), dec_bools, decide_eq_true rfl]
  refine iteF ⟨_, rfl, _, rfl, _, rfl, NP Q, z, b, .str so1, so, sy, .list bs, .str so1, rfl, n.ex e1, sa.ex' e1, wf.h3, rb.ex e1, .str _, sort_ok wf hm, hok, fun H2 e2 => ?_⟩
  have e12 := e1.trans e2
  refine ⟨_, rfl, _, rfl, _, rfl, NP Q, wv, b, .str so1, so, sy, bs, .str so1, rfl, n.ex e12, rw0.ex e12, hw, rb.ex e12, .str _, sort_ok wf hm, hlw, by omega, fun H3 e3 => ⟨rfl, _, rfl, ?_⟩⟩
  rw [tree_list (by omega), dec_bools, decide_eq_true rfl]
  exact iteF (k _ (e12.trans e3))
theorem w10 (L : LawC P w K mg base C CB CT CI CM CP Es) (TB : LamX.TabB base mg cL Pt) (hr : Room 11 (LX P w K mg base f (.ref cL) A outer s H0 E0).A) : ∃ t, PS (LX P w K mg base f (.ref cL) A outer s H0 E0) (bT 10) t ∧
    ∀ {D : Ends} {H : Hp} {Q C0 : Addr} {ns : List Int} {n : Nat} {so : List Str} {sy : List SRow} {wv z b : V} {bs : List PyData} { x0 x1 x2 x5 x6 x7 x8 x9 x11 x12 x13 x14 x15 x17 x18 x19 x20 x21 x22 x23 : Option V}, Pen Q C0 ns n H → LamX.Tabs (tab0 Pt) H → IsW so sy → R (NP Q) H wv (worldD so sy) → SigAt C (NP Q) H z so sy → R (NP Q) H b (.list bs) → bs.all lawW = true → bs.length ≤ 366 →
      (∀ (H' : Hp), LamX.ExtN H H' → LamX.Tabs (tab0 Pt) H' → D.nx (Sg x0 x1 x2 (some (wv)) (some (z)) x5 x6 x7 x8 x9 (some (b)) x11 x12 x13 x14 x15 (some (.bl (toldB so sy isThing bs .none))) x17 x18 x19 x20 x21 x22 x23) H') → t D (Sg x0 x1 x2 (some (wv)) (some (z)) x5 x6 x7 x8 x9 (some (b)) x11 x12 x13 x14 x15 (some (.bl (toldB so sy isThing bs .none))) x17 x18 x19 x20 x21 x22 x23) H := by
  obtain ⟨T, S, E, KD, G__law_pen, G__law_draw, G__law_pick, G__law_world, G__law_signs, TR, G__law_behind, G__law_args, G__law_sort, G__law_is_tree, G_is_tree, G_is_tree3, KW, G_tree_sort, G_part_at, G_with_part, G_arguments_of, G_many_inner, HE, PB, PTr, PI, PM, EB, ET, EI, EM⟩ := L
  have hu := hr.units
  obtain ⟨g, gd, hH, bH⟩ := HE
  obtain ⟨ocH, odH, dVH, kVH, docH, pmH, anH, cdH, ctH, oslH, rfl, lkH, hcH⟩ := hH.fn.ex
  let TT0 := tab0 Pt
  have hmT : (Pt, (LX P w K mg base f (.ref cL) A outer s H0 E0).env.qual ++ "<lambda>") ∈ TT0 := by
    exact List.mem_cons_self
  have huT : ∀ p ∈ TT0, p.1 = Pt → p.2 = (LX P w K mg base f (.ref cL) A outer s H0 E0).env.qual ++ "<lambda>" := fun p hp _ => by
    cases List.mem_singleton.mp hp
    rfl
  refine ⟨_, (ps_if (pt_cmpR (show OpR _ _ (rNeY K) from op_neY (by exact hu)) (LamX.pe_lamcallN (T := TT0) (TT := TTheard K CP Es) (k := 9) rfl hH.mgf hH.kp lkH hcH bH sc__law_heard rfl (.inl rfl) (heard_gives T E) TB rfl hmT huT (hr.mono (by decide)) (LamX.lamS_by (by show LamX.lamSB (C8.fnScope (topS 67)) _ = true; decide +kernel)) rfl (fun _ _ _ _ _ => rfl) (fun A outer s H E f c' hr' => (pe_cX G_tree_sort hr' (by decide) (passes_call (takes_of rfl rfl rfl rfl) fun _ _ _ _ h => h) (by rfl) (pa_cons (pv 4) (pa_cons (pv 10) pa_nil))))) (pe_ifExp (pt_val (pv 16)) (pe_lst (pa_cons (C8.pe_c G__law_sort hr (by decide) (by rfl) (pa_cons (pv 3) (pa_cons (pe_ix (show IxR _ (rIxY K) from ix_Y) (pv 10) pe_int (fun _ _ => rfl)) pa_nil))) pa_nil)) (pe_tup (pa_cons pe_str (pa_cons pe_str pa_nil)))) (nomark _))
      (pss_one (ps_ret pe_bl))
      pss_nil), ?_⟩
  intro D H Q C0 ns n so sy wv z b bs x0 x1 x2 x5 x6 x7 x8 x9 x11 x12 x13 x14 x15 x17 x18 x19 x20 x21 x22 x23 pn hT hw rw0 sa rb hlw hbl k
  have wf := w_facts hw
  have hok : (itemsOf (.list bs)).all okThing = true := law_thing hlw
  obtain ⟨bit, KPs⟩ := PTr
  have htl : treeB so sy (.list bs) .none = toldB so sy isThing bs .none := tree_list (by omega)
  refine ⟨hT, fun H1 e1 t1 H2 E' Q' e2 hE hQ => ?_⟩
  have p1 := Pen_extN pn e1
  have n1 : NOk (NP Q) H1 := p1.nok
  have rb1 : R (NP Q) H1 b _ := rb.mono (extN_xn e1)
  have sa1 := sa.mono (extN_xn e1)
  refine ⟨_, rfl, _, rfl, NP Q, z, b, rfl, n1.ex e2, .inr ⟨so, sy, .list bs, sa1.ex' e2, wf.h3, rb1.ex e2, hok, fun hf => heard_part n1 KPs ET (fun u5 H5 e5 r5 => ?_) e2 hE, fun ht t H5 e5 hs => hQ _ _ fun p hp => ?_⟩⟩
  · rw [htl] at hf
    refine ⟨_, rfl, _, rfl, ?_⟩
    rw [hf]
    refine iteF ⟨(by show 2 ≤ sizeLine; decide), fun p6 hp6 => ?_⟩
    have e6 := Ex.new (o := HO.tup [.str "tree", .str "tree"]) hp6
    have r6 : R (NP Q) _ (.ref p6) (.tuple [.str "tree", .str "tree"]) := RAll.tupR (.cons (.str "tree") (.cons (.str "tree") .nil)) (n1.ex e5) hp6
    refine R.neD (r5.ex e6) r6 rfl rfl (by decide +kernel) (by decide +kernel) ⟨_, rfl, ?_⟩
    rw [show PyData.eqv (.tuple [.str "tree", .str "tree"]) (.tuple [.str "tree", .str "tree"]) = true by decide +kernel]
    have := k _ ((e1.trans (LamX.ExtN.of e5)).trans (LamX.ExtN.of e6)) ((t1.ext e5).ext e6)
    rw [hf] at this
    exact iteF this
  · rw [htl] at ht
    have tw := tree_w (so := so) (sy := sy) (d := .list bs) (s := .none) (by rw [htl]; exact ht)
    have hpos : 0 < bs.length := by
      have := tw.pos
      rw [show itemsOf (.list bs) = bs from rfl, List.length_map] at this
      exact this
    rw [show itemsOf (.list bs) = bs from rfl, getD_map, fix_sort] at hs
    have hx := head_at hpos
    have e25 := e2.trans e5
    have e6 := Ex.new (o := HO.lst [.str t]) hp
    have r6 : R (NP Q) _ (.ref p) (.list [.str t]) := RAll.lstR (.cons (.str t) .nil) (n1.ex e25) hp
    have e26 := e25.trans e6
    refine ⟨_, rfl, _, rfl, ?_⟩
    rw [ht]
    refine iteT ⟨_, rfl, _, rfl, R.ix (rb1.ex e26) rfl (by decide) hx fun y ry => ⟨NP Q, wv, y, so, sy, _, t, rfl, n1.ex e26, (rw0.mono (extN_xn e1)).ex e26, wf.h16, ry, hs, fun H7 e7 => ⟨(by show 1 ≤ sizeLine; decide), fun p8 hp8 => ?_⟩⟩⟩
    have e8 := Ex.new (o := HO.lst [.str t]) hp8
    have r8 : R (NP Q) _ (.ref p8) (.list [.str t]) := RAll.lstR (.cons (.str t) .nil) ((n1.ex e26).ex e7) hp8
    have hts : PyData.strOk t = true := sort_str hw (List.all_eq_true.mp hlw _ (List.mem_of_getElem? hx)) hs
    have hsh : SeqAt.shaped (.list [.str t]) = true := by
      show ((PyData.strOk t && true) && decide (max 0 0 + 1 ≤ 64)) = true
      rw [hts]
      rfl
    refine R.neD ((r6.ex e7).ex e8) r8 rfl rfl hsh hsh ⟨_, rfl, ?_⟩
    rw [show PyData.eqv (.list [.str t]) (.list [.str t]) = true by show ((t == t) && true) = true; rw [beq_self_eq_true]; rfl]
    have := k _ ((e1.trans (LamX.ExtN.of e26)).trans ((LamX.ExtN.of e7).trans (LamX.ExtN.of e8))) (((t1.ext e26).ext e7).ext e8)
    rw [ht] at this
    exact iteF this
end
end K1
end

section
set_option Elab.async false
set_option linter.all false
set_option maxRecDepth 100000
set_option maxHeartbeats 2000000
namespace K1
open PySem L2 Rp
def noTrees : List PyData := [.none, .int 5, .str "a", .list [], .tuple [], .list [.int 5], .list [.none], .list [.tuple [.str "n"]], .list [.tuple [.str "n", .str "k", .str "k"]], .list [.list [.str "n", .str "K"]], .dict []]
theorem one_bad {so : List Str} {sy : List SRow} {d : PyData} (h1 : isThing d = false) (h2 : isStr d = false) : treeB so sy (.list [d]) .none = false := by
  have hf : fitsB so sy isThing d .none = false := by
    have e : fitsB so sy isThing d .none = (isThing d && (decide ((itemsOf d).length = 1) || (decide (strOf ((itemsOf d).getD 0 .none) ∈ so) && sortFits .none (strOf ((itemsOf d).getD 0 .none))))) := by
      cases d with
      | str x => cases h2
      | _ => rfl
    rw [e, h1]
    rfl
  rw [tree_list (by show 1 ≤ 400; decide)]
  unfold toldB
  have hg : toldGo so sy isThing [d] [.none] = none := by
    show (if fitsB so sy isThing d .none = true then _ else none) = none
    rw [hf]
    rfl
  rw [hg]
  rfl
theorem no_trees {so : List Str} {sy : List SRow} : ∀ d ∈ noTrees, treeB so sy d .none = false ∧ (itemsOf d).all okThing = true := by
  intro d hd
  unfold noTrees at hd
  simp only [List.mem_cons, List.not_mem_nil, or_false] at hd
  rcases hd with rfl | rfl | rfl | rfl | rfl | rfl | rfl | rfl | rfl | rfl | rfl
  · exact ⟨rfl, rfl⟩
  · exact ⟨rfl, rfl⟩
  · exact ⟨rfl, rfl⟩
  · exact ⟨rfl, rfl⟩
  · exact ⟨rfl, rfl⟩
  · exact ⟨one_bad rfl rfl, rfl⟩
  · exact ⟨one_bad rfl rfl, rfl⟩
  · exact ⟨one_bad (by decide +kernel) rfl, by decide +kernel⟩
  · exact ⟨one_bad (by decide +kernel) rfl, by decide +kernel⟩
  · exact ⟨one_bad (by decide +kernel) rfl, by decide +kernel⟩
  · exact ⟨rfl, rfl⟩
section
variable {P : Program} {w : World} {K : PySem.W.Frag} {mg : Str → Option Value} {base : Heap} {f : Addr} {cdv : Value} {A : Around} {outer : List Env} {s : Shared} {H0 : Hp} {E0 : XK} {C CB CT CI CM CP : Addr} {Es : Nat → Addr} {cL Pt : Addr}
theorem w11 (L : LawC P w K mg base C CB CT CI CM CP Es) (hr : Room 11 (LX P w K mg base f cdv A outer s H0 E0).A) : ∃ t, PS (LX P w K mg base f cdv A outer s H0 E0) (bT 11) t ∧
    ∀ {D : Ends} {H : Hp} {Q : Addr} {so : List Str} {sy : List SRow} {z : V} { x0 x1 x2 x3 x5 x6 x7 x8 x9 x10 x11 x12 x13 x14 x15 x16 x17 x18 x19 x20 x21 x22 x23 : Option V}, NOk (NP Q) H → IsW so sy → SigAt C (NP Q) H z so sy →
      (∀ (H' : Hp), Ex H H' → D.nx (Sg x0 x1 x2 x3 (some (z)) x5 x6 x7 x8 x9 x10 x11 x12 x13 x14 x15 x16 x17 x18 x19 x20 x21 x22 x23) H') → t D (Sg x0 x1 x2 x3 (some (z)) x5 x6 x7 x8 x9 x10 x11 x12 x13 x14 x15 x16 x17 x18 x19 x20 x21 x22 x23) H := by
  obtain ⟨T, S, E, KD, G__law_pen, G__law_draw, G__law_pick, G__law_world, G__law_signs, TR, G__law_behind, G__law_args, G__law_sort, G__law_is_tree, G_is_tree, G_is_tree3, KW, G_tree_sort, G_part_at, G_with_part, G_arguments_of, G_many_inner, HE, PB, PTr, PI, PM, EB, ET, EI, EM⟩ := L
  have hu := hr.units
  refine ⟨_, (ps_if (pt_cmpR (show OpR _ _ (rNeY K) from op_neY (by exact hu)) (pe_lc (own := [("one", 9)]) (g := gName 9) rfl sc_law.nd (pi_seq (pe_lst (pa_cons pe_non (pa_cons pe_int (pa_cons pe_str (pa_cons (pe_lst pa_nil) (pa_cons (lit_tup lits_nil) (pa_cons (lit_lst (lits_cons lit_int lits_nil)) (pa_cons (lit_lst (lits_cons lit_non lits_nil)) (pa_cons (lit_lst (lits_cons (lit_tup (lits_cons lit_str lits_nil)) lits_nil)) (pa_cons (lit_lst (lits_cons (lit_tup (lits_cons lit_str (lits_cons lit_str (lits_cons lit_str lits_nil)))) lits_nil)) (pa_cons (lit_lst (lits_cons (lit_lst (lits_cons lit_str (lits_cons lit_str lits_nil))) lits_nil)) (pa_cons pe_dnewK pa_nil))))))))))))) (blkOk_by (N := ["script", "pen", "turn", "world", "signs", "sort", "tree", "after", "spot", "one", "bent", "lap", "at", "way", "word", "row", "told", "other", "due", "parts", "its", "odd", "asks", "long"]) (sc := C8.fnScope (topS 67)) (by decide +kernel)) (fun _ _ _ _ _ => pg_name (i := 9) sc_law.nd rfl (Or.inl rfl)) (fun _ _ _ _ _ => pts_one (pt_val (C8.pe_c G_is_tree hr (by decide) (by rfl) (pa_cons (pv 4) (pa_cons (pv 9) pa_nil))))) (fun _ _ _ _ _ => (pv 9))) (pe_lst pa_nil) (nomark _))
      (pss_one (ps_ret pe_bl))
      pss_nil), ?_⟩
  intro D H Q so sy z x0 x1 x2 x3 x5 x6 x7 x8 x9 x10 x11 x12 x13 x14 x15 x16 x17 x18 x19 x20 x21 x22 x23 n hw sa k
  have wf := w_facts hw
  refine ⟨Nat.zero_le _, fun p1 h1 => ?_⟩
  have e1 := Ex.new (o := HO.lst []) h1
  have n1 := n.ex e1
  refine ⟨NP Q, n1, fun u2 H2 e2 r2 => ⟨NP Q, n1.ex e2, fun u3 H3 e3 r3 => ⟨NP Q, (n1.ex e2).ex e3, fun u4 H4 e4 r4 => ⟨NP Q, ((n1.ex e2).ex e3).ex e4, fun u5 H5 e5 r5 => ⟨NP Q, (((n1.ex e2).ex e3).ex e4).ex e5, fun u6 H6 e6 r6 => ⟨NP Q, ((((n1.ex e2).ex e3).ex e4).ex e5).ex e6, fun u7 H7 e7 r7 p8 h8 => ⟨(by show 11 ≤ sizeLine; decide), fun p9 h9 => ?_⟩⟩⟩⟩⟩⟩⟩
  have e8 := Ex.new (o := HO.dK []) h8
  have e27 := ((((e2.trans e3).trans e4).trans e5).trans e6).trans e7
  have n7 := n1.ex e27
  have q1 : R (NP Q) (upd H7 p8 (.dK [])) (.ref p1) (.list []) := ((RAll.nil.lstR n h1).ex e27).ex e8
  have q8 : R (NP Q) (upd H7 p8 (.dK [])) (.ref p8) (.dict []) := .dic upd_same (n7.not h8)
  have qa : RAll (NP Q) (upd H7 p8 (.dK [])) [.non, .int 5, .str "a", .ref p1, u2, u3, u4, u5, u6, u7, .ref p8] noTrees :=
    .cons .non (.cons (.int 5) (.cons (.str "a") (.cons q1 (.cons (((((((r2.ex e3).ex e4).ex e5).ex e6).ex e7)).ex e8) (.cons ((((((r3.ex e4).ex e5).ex e6).ex e7)).ex e8) (.cons (((((r4.ex e5).ex e6).ex e7)).ex e8) (.cons ((((r5.ex e6).ex e7)).ex e8) (.cons ((r6.ex e7).ex e8) (.cons (r7.ex e8) (.cons q8 .nil))))))))))
  have rl := qa.lstR (n7.ex e8) h9
  have e09 := ((e1.trans e27).trans e8).trans (Ex.new (o := HO.lst [.non, .int 5, .str "a", .ref p1, u2, u3, u4, u5, u6, u7, .ref p8]) h9)
  have n9 := n.ex e09
  obtain ⟨a, xs, ea, ha, ra⟩ := seq_of rl rfl
  cases ea
  obtain ⟨J, sJ, wk⟩ := seq_walk (K := K) ha ra
  refine ⟨_, J, rfl, sJ, fun D2 hD2 => lc_gen (N := NP Q) (fun d => treeB so sy d .none) (fun d => d) wk hD2 n9 (by show 11 ≤ 100000; decide) (fun y dd H10 hm e10 nn ry Q' q => ?_) (fun y dd H10 hm hk e10 nn ry Q' q => ⟨_, rfl, q _ _ (Ex.refl _) ry⟩) fun H10 ys e10 hy ry => ?_⟩
  · refine ⟨_, rfl, _, rfl, plus (NP Q) D2, z, y, .non, so, sy, dd, .none, rfl, nn, ((sa.ex' e09).plus hD2).ex' e10, wf.h3, ry, .non, rfl, (no_trees (so := so) (sy := sy) dd hm).2, fun H11 e11 => ⟨_, rfl, q _ e11⟩⟩
  · have hf : (itemsOf (.list noTrees)).filter (fun d => treeB so sy d .none) = [] := by
      rw [List.filter_eq_nil_iff]
      intro d hd
      rw [(no_trees (so := so) (sy := sy) d hd).1]
      exact Bool.false_ne_true
    rw [hf] at ry
    have rl2 : R (NP Q) H10 (.ref D2) (.list []) := .lst hy (fun z => n9 _ z hD2) ry
    refine ⟨Nat.zero_le _, fun p hp => R.neD (rl2.ex (Ex.new hp)) (RAll.nil.lstR (n9.ex e10) hp) rfl rfl rfl rfl ⟨_, rfl, iteF (k _ ((e09.trans e10).trans (Ex.new hp)))⟩⟩
theorem w12 (L : LawC P w K mg base C CB CT CI CM CP Es) (hr : Room 11 (LX P w K mg base f cdv A outer s H0 E0).A) : ∃ t, PS (LX P w K mg base f cdv A outer s H0 E0) (bT 12) t ∧
    ∀ {D : Ends} {H : Hp} {Q C0 : Addr} {ns : List Int} {n : Nat} {so : List Str} {sy : List SRow} {wv : V} { x0 x2 x4 x5 x6 x7 x8 x9 x10 x11 x12 x13 x14 x15 x16 x17 x18 x19 x20 x21 x22 x23 : Option V}, Pen Q C0 ns (n + 1) H → IsW so sy → R (NP Q) H wv (worldD so sy) →
      (∀ (so2 : Str) (H' : Hp), so2 ∈ so → Pen Q C0 ns n H' → Xt Q H H' → D.nx (Sg x0 (some (.ref Q)) x2 (some (wv)) x4 x5 x6 x7 x8 (some (.str so2)) x10 x11 x12 x13 x14 x15 x16 x17 x18 x19 x20 x21 x22 x23) H') → t D (Sg x0 (some (.ref Q)) x2 (some (wv)) x4 x5 x6 x7 x8 x9 x10 x11 x12 x13 x14 x15 x16 x17 x18 x19 x20 x21 x22 x23) H := by
  obtain ⟨T, S, E, KD, G__law_pen, G__law_draw, G__law_pick, G__law_world, G__law_signs, TR, G__law_behind, G__law_args, G__law_sort, G__law_is_tree, G_is_tree, G_is_tree3, KW, G_tree_sort, G_part_at, G_with_part, G_arguments_of, G_many_inner, HE, PB, PTr, PI, PM, EB, ET, EI, EM⟩ := L
  have hu := hr.units
  refine ⟨_, (ps_set (i := 9) sc_law.nd rfl (by first | exact Or.inl rfl | exact Or.inr rfl) (C8.pe_c G__law_pick hr (by decide) (by rfl) (pa_cons (pv 1) (pa_cons (pe_ix (show IxR _ (rIxY K) from ix_Y) (pv 3) pe_int (fun _ _ => rfl)) pa_nil)))), ?_⟩
  intro D H Q C0 ns n so sy wv x0 x2 x4 x5 x6 x7 x8 x9 x10 x11 x12 x13 x14 x15 x16 x17 x18 x19 x20 x21 x22 x23 pn hw rw0 k
  have wf := w_facts hw
  have hsl : (itemsOf (.list (strsD so))).length = so.length := by show (strsD so).length = _; unfold strsD; rw [List.length_map]
  refine ⟨_, rfl, _, rfl, R.ix rw0 rfl (by decide) (e := .list (strsD so)) rfl fun y ry => ⟨NP Q, Q, C0, ns, n, y, _, rfl, rfl, ry, rfl, by rw [hsl]; exact wf.h1, by rw [hsl]; have := wf.h6; omega, pn, fun i e x H2 he p2 xt rx => ?_⟩⟩
  obtain ⟨so1, hm, rfl⟩ := List.mem_map.mp (List.mem_of_getElem? (show (strsD so)[i]? = some e from he))
  rw [rx.strv]
  exact k so1 H2 hm p2 xt
theorem w13 (L : LawC P w K mg base C CB CT CI CM CP Es) (hr : Room 11 (LX P w K mg base f cdv A outer s H0 E0).A) : ∃ t, PS (LX P w K mg base f cdv A outer s H0 E0) (bT 13) t ∧
    ∀ {D : Ends} {H : Hp} {Q C0 : Addr} {ns : List Int} {n : Nat} {so : List Str} {sy : List SRow} {wv : V} {so2 : Str} { x0 x2 x4 x5 x6 x7 x8 x10 x11 x12 x13 x14 x15 x16 x17 x18 x19 x20 x21 x22 x23 : Option V}, Pen Q C0 ns (n + 8) H → IsW so sy → R (NP Q) H wv (worldD so sy) → so2 ∈ so →
      (∀ (o : V) (os : List PyData) (H' : Hp), Grown so sy so2 364 os → os.length ≤ 4 → Pen Q C0 ns n H' → Xt Q H H' → R (NP Q) H' o (.tuple os) → D.nx (Sg x0 (some (.ref Q)) x2 (some (wv)) x4 x5 x6 x7 x8 (some (.str so2)) x10 x11 x12 x13 x14 x15 x16 (some (o)) x18 x19 x20 x21 x22 x23) H') → t D (Sg x0 (some (.ref Q)) x2 (some (wv)) x4 x5 x6 x7 x8 (some (.str so2)) x10 x11 x12 x13 x14 x15 x16 x17 x18 x19 x20 x21 x22 x23) H := by
  obtain ⟨T, S, E, KD, G__law_pen, G__law_draw, G__law_pick, G__law_world, G__law_signs, TR, G__law_behind, G__law_args, G__law_sort, G__law_is_tree, G_is_tree, G_is_tree3, KW, G_tree_sort, G_part_at, G_with_part, G_arguments_of, G_many_inner, HE, PB, PTr, PI, PM, EB, ET, EI, EM⟩ := L
  have hu := hr.units
  refine ⟨_, (ps_set (i := 17) sc_law.nd rfl (by first | exact Or.inl rfl | exact Or.inr rfl) (C8.pe_c TR hr (by decide) (by rfl) (pa_cons (pv 1) (pa_cons (pv 3) (pa_cons (pv 9) (pa_cons pe_int pa_nil)))))), ?_⟩
  intro D H Q C0 ns n so sy wv so2 x0 x2 x4 x5 x6 x7 x8 x10 x11 x12 x13 x14 x15 x16 x17 x18 x19 x20 x21 x22 x23 pn hw rw0 hm k
  exact ⟨_, rfl, _, rfl, _, rfl, 2, by decide, by decide, NP Q, Q, C0, ns, n, wv, so, sy, so2, rfl, by decide, by decide, rfl, pn.nok, rw0, hw, hm, pn, fun os o H2 g p2 x2 ro => k o os H2 (g.mono (by decide)) g.few p2 x2 ro⟩
/-- what is due of with_part -/
def dueD (sy : List SRow) (ws os : List PyData) (j : Nat) (so2 t : Str) : PyData := if so2 = t then .list [.tuple (ws.take j ++ os ++ ws.drop (endOf sy ws j))] else .tuple [.str "misfit", .str "sort"]
theorem w14 (L : LawC P w K mg base C CB CT CI CM CP Es) (hr : Room 11 (LX P w K mg base f cdv A outer s H0 E0).A) : ∃ t, PS (LX P w K mg base f cdv A outer s H0 E0) (bT 14) t ∧
    ∀ {D : Ends} {H : Hp} {Q : Addr} {so : List Str} {sy : List SRow} {wv u av o : V} {so1 so2 t1 : Str} {ws os : List PyData} {j : Nat} { x0 x1 x2 x4 x5 x10 x11 x12 x13 x14 x15 x16 x18 x19 x20 x21 x22 x23 : Option V}, NOk (NP Q) H → IsW so sy → R (NP Q) H wv (worldD so sy) → R (NP Q) H u (.tuple ws) → Grown so sy so1 364 ws → R (NP Q) H av (.list ((endsI sy ws).map PyData.int)) → j < ws.length → R (NP Q) H o (.tuple os) → os.length ≤ 4 → sortW sy (ws.getD j .none) = some t1 →
      (∀ (dv : V) (H' : Hp), Ex H H' → R (NP Q) H' dv (dueD sy ws os j so2 t1) → D.nx (Sg x0 x1 x2 (some (wv)) x4 x5 (some (u)) (some (av)) (some (.int (j : Int))) (some (.str so2)) x10 x11 x12 x13 x14 x15 x16 (some (o)) (some (dv)) x19 x20 x21 x22 x23) H') → t D (Sg x0 x1 x2 (some (wv)) x4 x5 (some (u)) (some (av)) (some (.int (j : Int))) (some (.str so2)) x10 x11 x12 x13 x14 x15 x16 (some (o)) x18 x19 x20 x21 x22 x23) H := by
  obtain ⟨T, S, E, KD, G__law_pen, G__law_draw, G__law_pick, G__law_world, G__law_signs, TR, G__law_behind, G__law_args, G__law_sort, G__law_is_tree, G_is_tree, G_is_tree3, KW, G_tree_sort, G_part_at, G_with_part, G_arguments_of, G_many_inner, HE, PB, PTr, PI, PM, EB, ET, EI, EM⟩ := L
  have hu := hr.units
  refine ⟨_, (ps_set (i := 18) sc_law.nd rfl (by first | exact Or.inl rfl | exact Or.inr rfl) (pe_ifExp (pt_cmpR op_eq (pv 9) (C8.pe_c G__law_sort hr (by decide) (by rfl) (pa_cons (pv 3) (pa_cons (pe_ix (show IxR _ (rIxY K) from ix_Y) (pv 6) (pv 8) (fun _ _ => rfl)) pa_nil))) (nomark _)) (pe_lst (pa_cons (pe_op (show OpR _ _ (rCatAY K) from op_catAY) (pe_op (show OpR _ _ (rCatAY K) from op_catAY) (pe_slice (show SlR _ (rSlTY K) from sl_tupY) (pv 6) po_none (po_some (pv 8))) (pv 17)) (pe_slice (show SlR _ (rSlTY K) from sl_tupY) (pv 6) (po_some (pe_ix (show IxR _ (rIxY K) from ix_Y) (pv 7) (pv 8) (fun _ _ => rfl))) po_none)) pa_nil)) (lit_tup (lits_cons lit_str (lits_cons lit_str lits_nil))))), ?_⟩
  intro D H Q so sy wv u av o so1 so2 t1 ws os j x0 x1 x2 x4 x5 x10 x11 x12 x13 x14 x15 x16 x18 x19 x20 x21 x22 x23 n hw rw0 ru g ra hj ro hos hs k
  have wf := w_facts hw
  have tw := grown_w g
  obtain ⟨rest, hsk⟩ := tw.part hj
  obtain ⟨_, f2, f3, _⟩ := end_facts hj hsk
  have hfew := tw.few
  refine ⟨_, rfl, _, rfl, _, rfl, _, rfl, R.ix ru rfl (by omega) (e := ws.getD j .none) (by show ws[((j : Nat) : Int).toNat]? = _; rw [Int.toNat_natCast]; exact head_at hj) fun y ry => ⟨NP Q, wv, y, so, sy, _, t1, rfl, n, rw0, wf.h16, ry, hs, fun H1 e1 => ⟨rfl, _, rfl, ?_⟩⟩⟩
  rw [dec_text]
  unfold dueD at k
  by_cases c : so2 = t1
  · rw [if_pos c] at k
    rw [decide_eq_true c]
    refine iteT ⟨_, rfl, _, rfl, _, rfl, R.sliceT (ru.ex e1) (n.ex e1) fun x2 H2 e2 r2 => ⟨_, rfl, ?_⟩⟩
    rw [slice_front (by omega)] at r2
    have e12 := e1.trans e2
    refine R.catT r2 (ro.ex e12) (n.ex e12) (by rw [List.length_take]; omega) fun x3 H3 e3 r3 => ?_
    have e13 := e12.trans e3
    refine ⟨_, rfl, _, rfl, _, rfl, R.ix (ra.ex e13) rfl (by omega) (e := .int ((endOf sy ws j : Nat) : Int)) (by show ((endsI sy ws).map PyData.int)[((j : Nat) : Int).toNat]? = _; rw [Int.toNat_natCast]; exact ends_at hj) fun y4 r4 => ?_⟩
    rw [r4.intv]
    refine ⟨_, rfl, R.sliceT (ru.ex e13) (n.ex e13) fun x5 H5 e5 r5 => ?_⟩
    rw [slice_back f3] at r5
    have e15 := e13.trans e5
    refine R.catT (r3.ex e5) r5 (n.ex e15) (by rw [List.length_append, List.length_take, List.length_drop]; omega) fun x6 H6 e6 r6 => ⟨(by show 1 ≤ sizeLine; decide), fun p7 h7 => ?_⟩
    exact k _ _ ((e15.trans e6).trans (Ex.new h7)) (RAll.lstR (.cons r6 .nil) ((n.ex e15).ex e6) h7)
  · rw [if_neg c] at k
    rw [decide_eq_false c]
    exact iteF ⟨NP Q, n.ex e1, fun u2 H2 e2 r2 => k u2 H2 (e1.trans e2) r2⟩
end
end K1
end

section
set_option Elab.async false
set_option linter.all false
set_option maxRecDepth 100000
set_option maxHeartbeats 2000000
namespace K1
open PySem L2 Rp
/-- rows of tuples of words -/
structure OkTs (ps : List PyData) : Prop where
  nd : noDicts ps = true
  lay : PyData.canLayAll0 ps = true
  dep : PyData.depthAll ps ≤ 2
  eqT : PyData.eqv (.tuple ps) (.tuple ps) = true
  eqL : PyData.eqv (.list ps) (.list ps) = true
theorem okts : ∀ {ps : List PyData}, (∀ p ∈ ps, ∃ X : List PyData, p = .tuple X ∧ X.all okW = true) → OkTs ps
  | [], _ => ⟨rfl, rfl, Nat.zero_le _, rfl, rfl⟩
  | p :: r, h => by
    have ih := okts (ps := r) fun q hq => h q (List.mem_cons_of_mem _ hq)
    obtain ⟨X, rfl, hX⟩ := h p List.mem_cons_self
    have o := okds hX
    refine ⟨?_, ?_, ?_, ?_, ?_⟩
    · show (noDicts X && noDicts r) = true
      rw [o.nd, ih.nd]
      rfl
    · show (PyData.canLayAll0 X && PyData.canLayAll0 r) = true
      rw [o.lay, ih.lay]
      rfl
    · show max (PyData.depthAll X + 1) (PyData.depthAll r) ≤ 2
      exact Nat.max_le.mpr ⟨by have := o.dep; omega, ih.dep⟩
    · have h1 := ih.eqT
      have h2 := o.eqT
      show (PyData.eqv (.tuple X) (.tuple X) && PyData.eqv (.tuple r) (.tuple r)) = true
      rw [h1, h2]
      rfl
    · have h1 := ih.eqL
      have h2 := o.eqT
      show (PyData.eqv (.tuple X) (.tuple X) && PyData.eqv (.list r) (.list r)) = true
      rw [h1, h2]
      rfl
theorem OkTs.shaped {ps : List PyData} (o : OkTs ps) : SeqAt.shaped (.tuple ps) = true ∧ SeqAt.shaped (.list ps) = true := by
  have h : (PyData.canLayAll0 ps && decide (PyData.depthAll ps + 1 ≤ 64)) = true := by
    rw [o.lay, decide_eq_true (by have := o.dep; omega)]
    rfl
  exact ⟨h, h⟩
theorem partsP_mem {sy : List SRow} {ws : List PyData} : ∀ (n a : Nat), ∀ p ∈ partsP sy ws a n, ∃ X : List PyData, p = .tuple X ∧ ∀ q ∈ X, q ∈ ws
  | 0, _, p, h => (List.not_mem_nil h).elim
  | n + 1, a, p, h => by
    rcases List.mem_cons.mp (show p ∈ PyData.tuple (partW sy ws a) :: partsP sy ws (endOf sy ws a) n from h) with rfl | h
    · exact ⟨_, rfl, fun q hq => List.mem_of_mem_drop (List.mem_of_mem_take hq)⟩
    · exact partsP_mem n _ p h
theorem args_isStr (sy : List SRow) (dw : PyData) : ∀ d ∈ argsD sy dw, isStr d = true := by
  unfold argsD
  cases dw with
  | str x =>
    show ∀ d ∈ (match rowOf sy (.str x) with | some r => strsD r.args | none => []), isStr d = true
    intro d h
    split at h
    · obtain ⟨y, _, rfl⟩ := List.mem_map.mp h
      rfl
    · exact (List.not_mem_nil h).elim
  | _ => exact fun d h => (List.not_mem_nil h).elim
theorem strs_plus {N : Addr → Prop} {H : Hp} {D : Addr} : ∀ {vs : List V} {ds : List PyData}, (∀ d ∈ ds, isStr d = true) → RAll N H vs ds → RAll (plus N D) H vs ds
  | [], [], _, _ => .nil
  | v :: vs, d :: ds, h, .cons r t => by
    refine .cons ?_ (strs_plus (fun d hd => h d (List.mem_cons_of_mem _ hd)) t)
    have := h d List.mem_cons_self
    cases r with
    | str x => exact .str x
    | _ => cases this
theorem rall_nil {N : Addr → Prop} {H : Hp} {ds : List PyData} (h : RAll N H [] ds) : ds = [] := by
  cases h
  rfl
section
variable {P : Program} {w : World} {K : PySem.W.Frag} {mg : Str → Option Value} {base : Heap} {f : Addr} {cdv : Value} {A : Around} {outer : List Env} {s : Shared} {H0 : Hp} {E0 : XK} {C CB CT CI CM CP : Addr} {Es : Nat → Addr} {cL Pt : Addr}
theorem w15 (L : LawC P w K mg base C CB CT CI CM CP Es) (TB : LamX.TabB base mg cL Pt) (hr : Room 11 (LX P w K mg base f (.ref cL) A outer s H0 E0).A) : ∃ t, PS (LX P w K mg base f (.ref cL) A outer s H0 E0) (bT 15) t ∧
    ∀ {D : Ends} {H : Hp} {Q C0 : Addr} {ns : List Int} {n : Nat} {so : List Str} {sy : List SRow} {z u o dv : V} {so1 so2 t1 : Str} {ws os : List PyData} {j : Nat} { x0 x1 x2 x3 x5 x7 x9 x10 x11 x12 x13 x14 x15 x16 x19 x20 x21 x22 x23 : Option V}, Pen Q C0 ns n H → LamX.Tabs (tab0 Pt) H → IsW so sy → SigAt C (NP Q) H z so sy → R (NP Q) H u (.tuple ws) → Grown so sy so1 364 ws → j < ws.length → R (NP Q) H o (.tuple os) → Grown so sy so2 364 os → sortW sy (ws.getD j .none) = some t1 → R (NP Q) H dv (dueD sy ws os j so2 t1) →
      (∀ (H' : Hp), LamX.ExtN H H' → LamX.Tabs (tab0 Pt) H' → D.nx (Sg x0 x1 x2 x3 (some (z)) x5 (some (u)) x7 (some (.int (j : Int))) x9 x10 x11 x12 x13 x14 x15 x16 (some (o)) (some (dv)) x19 x20 x21 x22 x23) H') → t D (Sg x0 x1 x2 x3 (some (z)) x5 (some (u)) x7 (some (.int (j : Int))) x9 x10 x11 x12 x13 x14 x15 x16 (some (o)) (some (dv)) x19 x20 x21 x22 x23) H := by
  obtain ⟨T, S, E, KD, G__law_pen, G__law_draw, G__law_pick, G__law_world, G__law_signs, TR, G__law_behind, G__law_args, G__law_sort, G__law_is_tree, G_is_tree, G_is_tree3, KW, G_tree_sort, G_part_at, G_with_part, G_arguments_of, G_many_inner, HE, PB, PTr, PI, PM, EB, ET, EI, EM⟩ := L
  have hu := hr.units
  obtain ⟨g, gd, hH, bH⟩ := HE
  obtain ⟨ocH, odH, dVH, kVH, docH, pmH, anH, cdH, ctH, oslH, rfl, lkH, hcH⟩ := hH.fn.ex
  let TT0 := tab0 Pt
  have hmT : (Pt, (LX P w K mg base f (.ref cL) A outer s H0 E0).env.qual ++ "<lambda>") ∈ TT0 := by
    exact List.mem_cons_self
  have huT : ∀ p ∈ TT0, p.1 = Pt → p.2 = (LX P w K mg base f (.ref cL) A outer s H0 E0).env.qual ++ "<lambda>" := fun p hp _ => by
    cases List.mem_singleton.mp hp
    rfl
  refine ⟨_, (ps_if (pt_cmpR (show OpR _ _ (rNeY K) from op_neY (by exact hu)) (LamX.pe_lamcallN (T := TT0) (TT := TTheard K CP Es) (k := 9) rfl hH.mgf hH.kp lkH hcH bH sc__law_heard rfl (.inl rfl) (heard_gives T E) TB rfl hmT huT (hr.mono (by decide)) (LamX.lamS_by (by show LamX.lamSB (C8.fnScope (topS 67)) _ = true; decide +kernel)) rfl (fun _ _ _ _ _ => rfl) (fun A outer s H E f c' hr' => (pe_cX G_with_part hr' (by decide) (passes_call (takes_of rfl rfl rfl rfl) fun _ _ _ _ h => h) (by rfl) (pa_cons (pv 4) (pa_cons (pv 6) (pa_cons (pv 8) (pa_cons (pe_callTy (show CallR _ _ (rLstOf K) from call_lstS) (by rfl) T.list PyProof.Rows.Boot.«list» (pa_cons (pv 17) pa_nil)) pa_nil))))))) (pv 18) (nomark _))
      (pss_one (ps_ret pe_bl))
      pss_nil), ?_⟩
  intro D H Q C0 ns n so sy z u o dv so1 so2 t1 ws os j x0 x1 x2 x3 x5 x7 x9 x10 x11 x12 x13 x14 x15 x16 x19 x20 x21 x22 x23 pn hT hw sa ru g hj ro g2 hs rdv k
  have wf := w_facts hw
  have tw := grown_w g
  have tw2 := grown_w g2
  have hok : (itemsOf (.tuple ws)).all okThing = true := plain_thing g.plain
  have hok2 : (itemsOf (.list os)).all okThing = true := plain_thing g2.plain
  obtain ⟨g1, _⟩ := grown_tree (d := .tuple ws) g rfl rfl
  obtain ⟨g3, _⟩ := grown_tree (d := .list os) g2 rfl rfl
  have hfw : (itemsOf (.tuple ws)).map fixD = ws := plain_fix g.plain
  have hfo : (itemsOf (.list os)).map fixD = os := plain_fix g2.plain
  obtain ⟨bit, KPs⟩ := PM
  refine ⟨hT, fun H1 e1 t1' H2 E' Q' e2 hE hQ => ?_⟩
  have p1 := Pen_extN pn e1
  have n1 : NOk (NP Q) H1 := p1.nok
  have ru1 : R (NP Q) H1 u _ := ru.mono (extN_xn e1)
  have ro1 : R (NP Q) H1 o _ := ro.mono (extN_xn e1)
  have rdv1 : R (NP Q) H1 dv _ := rdv.mono (extN_xn e1)
  have sa1 := sa.mono (extN_xn e1)
  refine ⟨_, rfl, _, rfl, _, rfl, _, rfl, R.lstOf (ro1.ex e2) (n1.ex e2) rfl fun l xs H3 hl e3 ra nl hl0 => ?_⟩
  have e23 := e2.trans e3
  refine ⟨NP Q, z, u, .int (j : Int), .ref l, rfl, n1.ex e23, .inr ⟨so, sy, .tuple ws, sa1.ex' e23, wf.h3, ru1.ex e23, hok, fun h => (by rw [g1] at h; cases h), fun _ => ⟨.int (j : Int), .list os, .int _, .lst hl nl ra, hok2, fun h => ?_, fun i hi hlt => ⟨fun h => (by rw [g3] at h; cases h), fun _ ta tb ha hb => ⟨fun hne => ?_, fun heq v H5 e5 rv => ?_⟩⟩⟩⟩⟩
  · have h : (decide ((0 : Int) ≤ (j : Int)) && decide ((j : Int) ≤ ((((itemsOf (.tuple ws)).map fixD).length : Nat) : Int) - 1)) = false := h
    rw [hfw, decide_eq_true (by omega), decide_eq_true (by omega)] at h
    cases h
  · have hij : i = j := by
      have := PyData.int.inj hi
      omega
    subst hij
    rw [hfw, hs] at ha
    rw [hfo, grown_sort g2] at hb
    cases ha
    cases hb
    have hd : dueD sy ws os i so2 t1 = .tuple [.str "misfit", .str "sort"] := if_neg fun z => hne z.symm
    rw [hd] at rdv1
    refine heard_part n1 KPs EM (fun u5 H5 e5 r5 => ?_) e23 hE
    refine ⟨_, rfl, R.neD r5 (rdv1.ex e5) rfl rfl (by decide +kernel) (by decide +kernel) ⟨_, rfl, ?_⟩⟩
    rw [show PyData.eqv (.tuple [.str "misfit", .str "sort"]) (.tuple [.str "misfit", .str "sort"]) = true by decide +kernel]
    exact iteF (k _ (e1.trans (LamX.ExtN.of e5)) (t1'.ext e5))
  · have hij : i = j := by
      have := PyData.int.inj hi
      omega
    subst hij
    rw [hfw, hs] at ha
    rw [hfo, grown_sort g2] at hb
    cases ha
    cases hb
    rw [hfw, hfo] at rv
    have hd : dueD sy ws os i so2 t1 = .list [.tuple (ws.take i ++ os ++ ws.drop (endOf sy ws i))] := if_pos heq.symm
    rw [hd] at rdv1
    have hX : (ws.take i ++ os ++ ws.drop (endOf sy ws i)).all okW = true := by
      have h1 := plain_okW wf.nm g.plain tw.known
      have h2 := plain_okW wf.nm g2.plain tw2.known
      refine List.all_eq_true.mpr fun q hq => ?_
      rcases List.mem_append.mp hq with hq | hq
      · rcases List.mem_append.mp hq with hq | hq
        · exact List.all_eq_true.mp h1 q (List.mem_of_mem_take hq)
        · exact List.all_eq_true.mp h2 q hq
      · exact List.all_eq_true.mp h1 q (List.mem_of_mem_drop hq)
    have ot := okts (ps := [.tuple (ws.take i ++ os ++ ws.drop (endOf sy ws i))]) fun p hp => ⟨_, List.mem_singleton.mp hp, hX⟩
    refine hQ _ _ fun p hp => ?_
    have e25 := e23.trans e5
    have e6 := Ex.new (o := HO.lst [v]) hp
    have r6 : R (NP Q) _ (.ref p) (.list [.tuple (ws.take i ++ os ++ ws.drop (endOf sy ws i))]) := RAll.lstR (.cons rv .nil) (n1.ex e25) hp
    have e26 := e25.trans e6
    refine ⟨_, rfl, R.neD r6 (rdv1.ex e26) ot.nd ot.nd ot.shaped.2 ot.shaped.2 ⟨_, rfl, ?_⟩⟩
    rw [ot.eqL]
    exact iteF (k _ (e1.trans (LamX.ExtN.of e26)) (t1'.ext e26))
theorem w16 (L : LawC P w K mg base C CB CT CI CM CP Es) (hr : Room 11 (LX P w K mg base f (.ref cL) A outer s H0 E0).A) : ∃ t, PS (LX P w K mg base f (.ref cL) A outer s H0 E0) (bT 16) t ∧
    ∀ {D : Ends} {H : Hp} { x0 x1 x2 x3 x4 x5 x6 x7 x8 x9 x10 x11 x12 x13 x14 x15 x16 x17 x18 x19 x20 x21 x22 x23 : Option V},
      (∀ (W : Addr), H W = none → D.nx (Sg x0 x1 x2 x3 x4 x5 x6 x7 x8 x9 x10 x11 (some (.int 1)) x13 x14 x15 x16 x17 x18 (some (.ref W)) x20 x21 x22 x23) (upd H W (.lst []))) → t D (Sg x0 x1 x2 x3 x4 x5 x6 x7 x8 x9 x10 x11 x12 x13 x14 x15 x16 x17 x18 x19 x20 x21 x22 x23) H := by
  obtain ⟨T, S, E, KD, G__law_pen, G__law_draw, G__law_pick, G__law_world, G__law_signs, TR, G__law_behind, G__law_args, G__law_sort, G__law_is_tree, G_is_tree, G_is_tree3, KW, G_tree_sort, G_part_at, G_with_part, G_arguments_of, G_many_inner, HE, PB, PTr, PI, PM, EB, ET, EI, EM⟩ := L
  have hu := hr.units
  refine ⟨_, (ps_par (i := 19) (j := 12) rfl sc_law.nd rfl rfl (by decide) rfl rfl (pa_cons (pe_lst pa_nil) (pa_cons pe_int pa_nil)) rfl), ?_⟩
  intro D H x0 x1 x2 x3 x4 x5 x6 x7 x8 x9 x10 x11 x12 x13 x14 x15 x16 x17 x18 x19 x20 x21 x22 x23 k
  exact ⟨Nat.zero_le _, fun W hW => ⟨_, _, rfl, k W hW⟩⟩
theorem w17 (L : LawC P w K mg base C CB CT CI CM CP Es) (hr : Room 11 (LX P w K mg base f (.ref cL) A outer s H0 E0).A) : ∃ t, PS (LX P w K mg base f (.ref cL) A outer s H0 E0) (bT 17) t ∧
    ∀ {D : Ends} {H : Hp} {Q : Addr} {so : List Str} {sy : List SRow} {wv u av : V} {so1 : Str} {ws : List PyData} {W : Addr} { x0 x1 x2 x4 x5 x8 x9 x10 x11 x13 x14 x15 x16 x17 x18 x20 x21 x22 x23 : Option V}, NOk (NP Q) H → H W = none → IsW so sy → R (NP Q) H wv (worldD so sy) → R (NP Q) H u (.tuple ws) → Grown so sy so1 364 ws → R (NP Q) H av (.list ((endsI sy ws).map PyData.int)) →
      (∀ (y12 y20 : Option V) (H' : Hp), Ex H H' → R (NP Q) H' (.ref W) (.list (partsP sy ws 1 (ar sy (ws.getD 0 .none)))) → D.nx (Sg x0 x1 x2 (some (wv)) x4 x5 (some (u)) (some (av)) x8 x9 x10 x11 y12 x13 x14 x15 x16 x17 x18 (some (.ref W)) y20 x21 x22 x23) H') → t D (Sg x0 x1 x2 (some (wv)) x4 x5 (some (u)) (some (av)) x8 x9 x10 x11 (some (.int 1)) x13 x14 x15 x16 x17 x18 (some (.ref W)) x20 x21 x22 x23) (upd H W (.lst [])) := by
  obtain ⟨T, S, E, KD, G__law_pen, G__law_draw, G__law_pick, G__law_world, G__law_signs, TR, G__law_behind, G__law_args, G__law_sort, G__law_is_tree, G_is_tree, G_is_tree3, KW, G_tree_sort, G_part_at, G_with_part, G_arguments_of, G_many_inner, HE, PB, PTr, PI, PM, EB, ET, EI, EM⟩ := L
  have hu := hr.units
  refine ⟨_, (ps_for PassesOwn.never rfl (pi_seq (C8.pe_c G__law_args hr (by decide) (by rfl) (pa_cons (pv 3) (pa_cons (pe_ix (show IxR _ (rIxY K) from ix_Y) (pv 6) pe_int (fun _ _ => rfl)) pa_nil)))) (pg_name (i := 20) sc_law.nd rfl (by first | exact Or.inl rfl | exact Or.inr rfl))
      (pss_cons (ps_expr (pe_bm PySem.F.plainAttrs_list PySem.F.slot_list_append PySem.F.type_list_append mt_append (pv 19) (pa_cons (pe_slice (show SlR _ (rSlTY K) from sl_tupY) (pv 6) (po_some (pv 12)) (po_some (pe_ix (show IxR _ (rIxY K) from ix_Y) (pv 7) (pv 12) (fun _ _ => rfl)))) pa_nil)))
      (pss_one (ps_set (i := 12) sc_law.nd rfl (by first | exact Or.inl rfl | exact Or.inr rfl) (pe_ix (show IxR _ (rIxY K) from ix_Y) (pv 7) (pv 12) (fun _ _ => rfl)))))), ?_⟩
  intro D H Q so sy wv u av so1 ws W x0 x1 x2 x4 x5 x8 x9 x10 x11 x13 x14 x15 x16 x17 x18 x20 x21 x22 x23 n hW hw rw0 ru g rav k
  have wf := w_facts hw
  have tw := grown_w g
  have hpos := tw.pos
  have hfew := tw.few
  have e1 := Ex.new (o := HO.lst []) hW
  have hx := head_at hpos
  refine ⟨_, rfl, _, rfl, R.ix (ru.ex e1) rfl (by decide) hx fun y ry => ⟨NP Q, wv, y, so, sy, _, rfl, n.ex e1, rw0.ex e1, wf.h16, ry, List.all_eq_true.mp tw.known _ (List.mem_of_getElem? hx), fun xa H2 e2 rxa => ?_⟩⟩
  have e12 := e1.trans e2
  have hw2 := e2 _ _ (show upd H W (.lst []) W = some (.lst []) from upd_same)
  obtain ⟨rest, hsk⟩ := tw.part hpos
  obtain ⟨hsk2, _⟩ := end_args hx hsk
  have hat := atP_skip (at_ := 1) (by omega) hsk2
  have har : ar sy (ws.getD 0 .none) ≤ 3 := args_len wf.h3 _
  by_cases hz : xa = .ref W
  · -- the parts themselves: then there are no arguments
    subst hz
    have hz0 : argsD sy (ws.getD 0 .none) = [] := by
      cases rxa with
      | lst e nl ra =>
        rw [hw2] at e
        cases e
        exact rall_nil ra
    obtain ⟨a, J, e, sJ, wk, _⟩ := seq_wkx (K := K) rxa rfl
    cases e
    have hp0 : ar sy (ws.getD 0 .none) = 0 := by unfold ar; rw [hz0]; rfl
    refine ⟨W, J, rfl, sJ, fun i m σ H => i = 0 ∧ m = 0 ∧ σ = (Sg x0 x1 x2 (some (wv)) x4 x5 (some (u)) (some (av)) x8 x9 x10 x11 (some (.int 1)) x13 x14 x15 x16 x17 x18 (some (.ref W)) x20 x21 x22 x23) ∧ H = H2, ⟨0, rfl, rfl, rfl, rfl⟩, ?_⟩
    rintro i m σ H' ⟨rfl, rfl, rfl, rfl⟩
    refine .inl ⟨wk.stop 0 _ (Xn.refl _ _) (by show (argsD sy (ws.getD 0 .none)).length ≤ 0; rw [hz0]; exact Nat.le_refl 0), ?_⟩
    refine k _ _ _ e12 ?_
    rw [hp0]
    exact .lst hw2 (fun z => n _ z hW) .nil
  obtain ⟨a, J, rfl, sJ, wk⟩ : ∃ a J, xa = .ref a ∧ SeqOf K a H2 J ∧ WalkX (plus (NP Q) W) J H2 (argsD sy (ws.getD 0 .none)) := by
    have rxa' : R (plus (NP Q) W) H2 xa (.list (argsD sy (ws.getD 0 .none))) := by
      cases rxa with
      | lst e nl ra => exact .lst e (fun z => z.elim nl fun z => hz (congrArg V.ref z)) (strs_plus (args_isStr _ _) ra)
    obtain ⟨a, J, e, sJ, wk, _⟩ := seq_wkx (K := K) rxa' rfl
    exact ⟨a, J, e, sJ, wk⟩
  refine ⟨a, J, rfl, sJ, for_data (N := plus (NP Q) W) (fun i σ H' => ∃ (y20 : Option V) (xs : List V), σ = (Sg x0 x1 x2 (some (wv)) x4 x5 (some (u)) (some (av)) x8 x9 x10 x11 (some (.int (atP sy ws 1 i : Int))) x13 x14 x15 x16 x17 x18 (some (.ref W)) y20 x21 x22 x23) ∧ Ex H H' ∧ Xt W H2 H' ∧ H' W = some (.lst xs) ∧ RAll (plus (NP Q) W) H' xs (partsP sy ws 1 i)) wk ?_ ?_ ?_ ?_⟩
  · exact ⟨_, [], rfl, e12, Xt.refl W H2, hw2, .nil⟩
  · rintro i σ H' ⟨_, _, _, _, x, _⟩
    exact x.xn (.inr rfl)
  · rintro i x d σ H3 hi ⟨y20, xs, rfl, e3, xt3, hw3, rxs⟩ rx
    have hi' : i < ar sy (ws.getD 0 .none) := (List.getElem?_eq_some_iff.mp hi).1
    obtain ⟨hlt, r1, hs1⟩ := hat i hi'
    obtain ⟨_, f2, f3, _⟩ := end_facts hlt hs1
    have np : NOk (plus (NP Q) W) H3 := (n.ex e3).plus (by rw [hw3]; exact fun z => by cases z)
    refine ⟨_, rfl, .inl ⟨rfl, _, SqL.of hw3⟩, _, rfl, _, rfl, _, rfl, _, rfl, _, rfl, R.ix (rav.ex e3) rfl (by omega) (e := .int ((endOf sy ws (atP sy ws 1 i) : Nat) : Int)) (by show ((endsI sy ws).map PyData.int)[((_ : Nat) : Int).toNat]? = _; rw [Int.toNat_natCast]; exact ends_at hlt) fun y4 r4 => ?_⟩
    rw [r4.intv]
    refine ⟨_, rfl, R.sliceT ((ru.plus hW).ex e3) np fun u5 H5 e5 r5 => ?_⟩
    rw [slice_mid (by omega) f3] at r5
    have hw5 := e5 _ _ hw3
    have hpl : ∀ (m a : Nat), (partsP sy ws a m).length = m := fun m => by
      induction m with
      | zero => exact fun _ => rfl
      | succ m ih => exact fun a => by show (partsP sy ws _ m).length + 1 = m + 1; rw [ih]
    have hxl : xs.length = i := by rw [rxs.length, hpl]
    refine ⟨_, _, _, rfl, rfl, hw5, by rw [hxl]; exact Nat.lt_of_le_of_lt (by omega : i ≤ 3) (by decide), ?_⟩
    have e06 := (e3.trans e5).mut (o := HO.lst (xs ++ [u5])) hW
    refine ⟨_, rfl, _, rfl, R.ix (rav.ex e06) rfl (by omega) (e := .int ((endOf sy ws (atP sy ws 1 i) : Nat) : Int)) (by show ((endsI sy ws).map PyData.int)[((_ : Nat) : Int).toNat]? = _; rw [Int.toNat_natCast]; exact ends_at hlt) fun y7 r7 => ?_⟩
    rw [r7.intv, ← atP_succ]
    have ext : Xn (plus (NP Q) W) H5 (upd H5 W (.lst (xs ++ [u5]))) := fun b o nb _ h => upd_at h fun z => nb (.inr z)
    refine ⟨_, xs ++ [u5], rfl, e06, (xt3.trans e5.xt).trans Xt.upd, upd_same, ?_⟩
    rw [partsP_snoc]
    exact ((rxs.ex e5).mono ext).append (.cons (r5.mono ext) .nil)
  · rintro σ H' ⟨y20, xs, rfl, e3, xt3, hw3, rxs⟩
    exact k _ _ H' e3 (.lst hw3 (fun z => n _ z hW) rxs.less)
end
end K1
end

section
set_option Elab.async false
set_option linter.all false
set_option maxRecDepth 100000
set_option maxHeartbeats 2000000
namespace K1
open PySem L2 Rp
theorem args_strs {sy : List SRow} (h : sy.all rowOk = true) (dw : PyData) : ∃ ss : List Str, argsD sy dw = strsD ss ∧ ss.all PyData.strOk = true := by
  unfold argsD
  cases dw with
  | str x =>
    show ∃ ss, (match rowOf sy (.str x) with | some r => strsD r.args | none => []) = strsD ss ∧ _
    cases hr : rowOf sy (.str x) with
    | none => exact ⟨[], rfl, rfl⟩
    | some r =>
      have hm := List.mem_of_find?_eq_some (show sy.find? _ = some r from hr)
      exact ⟨r.args, rfl, (Bool.and_eq_true_iff.mp (List.all_eq_true.mp h r hm)).2⟩
  | _ => exact ⟨[], rfl, rfl⟩
section
variable {P : Program} {w : World} {K : PySem.W.Frag} {mg : Str → Option Value} {base : Heap} {f : Addr} {cdv : Value} {A : Around} {outer : List Env} {s : Shared} {H0 : Hp} {E0 : XK} {C CB CT CI CM CP : Addr} {Es : Nat → Addr} {cL Pt : Addr}
theorem w18 (L : LawC P w K mg base C CB CT CI CM CP Es) (hr : Room 11 (LX P w K mg base f cdv A outer s H0 E0).A) : ∃ t, PS (LX P w K mg base f cdv A outer s H0 E0) (bT 18) t ∧
    ∀ {D : Ends} {H : Hp} {Q : Addr} {so : List Str} {sy : List SRow} {wv z u pv : V} {so1 : Str} {ws : List PyData} { x0 x1 x2 x5 x7 x8 x9 x10 x11 x12 x13 x14 x15 x16 x17 x18 x20 x21 x22 x23 : Option V}, NOk (NP Q) H → IsW so sy → R (NP Q) H wv (worldD so sy) → SigAt C (NP Q) H z so sy → R (NP Q) H u (.tuple ws) → Grown so sy so1 364 ws → R (NP Q) H pv (.list (partsP sy ws 1 (ar sy (ws.getD 0 .none)))) →
      (∀ (H' : Hp), Ex H H' → D.nx (Sg x0 x1 x2 (some (wv)) (some (z)) x5 (some (u)) x7 x8 x9 x10 x11 x12 x13 x14 x15 x16 x17 x18 (some (pv)) x20 x21 x22 x23) H') → t D (Sg x0 x1 x2 (some (wv)) (some (z)) x5 (some (u)) x7 x8 x9 x10 x11 x12 x13 x14 x15 x16 x17 x18 (some (pv)) x20 x21 x22 x23) H := by
  obtain ⟨T, S, E, KD, G__law_pen, G__law_draw, G__law_pick, G__law_world, G__law_signs, TR, G__law_behind, G__law_args, G__law_sort, G__law_is_tree, G_is_tree, G_is_tree3, KW, G_tree_sort, G_part_at, G_with_part, G_arguments_of, G_many_inner, HE, PB, PTr, PI, PM, EB, ET, EI, EM⟩ := L
  have hu := hr.units
  refine ⟨_, (ps_if (PW.pt (pw_or (pt_cmpR (show OpR _ _ (rNeY K) from op_neY (by exact hu)) (pe_cX G_arguments_of hr (by decide) p0 (by rfl) (pa_cons (pv 4) (pa_cons (pv 6) pa_nil))) (pe_callTy call_tupS (by rfl) T.tuple PyProof.Rows.Boot.«tuple» (pa_cons (pv 19) pa_nil)) (nomark _)) (pw_or1 (pt_cmpR op_ne (pe_cX G_many_inner hr (by decide) p0 (by rfl) (pa_cons (pv 4) (pa_cons (pv 6) pa_nil))) (pe_callB (show CallR _ _ (Rp.rLen K) from call_lenS) (by rfl) T.len PyProof.Rows.Boot.«len» (pa_cons (pe_lc (own := [("word", 14)]) (g := gName 14) rfl sc_law.nd (pi_seq (pv 6)) (blkOk_by (N := ["script", "pen", "turn", "world", "signs", "sort", "tree", "after", "spot", "one", "bent", "lap", "at", "way", "word", "row", "told", "other", "due", "parts", "its", "odd", "asks", "long"]) (sc := C8.fnScope (topS 67)) (by decide +kernel)) (fun _ _ _ _ _ => pg_name (i := 14) sc_law.nd rfl (Or.inl rfl)) (fun _ _ _ _ _ => pts_one (pt_cmpR (show OpR _ _ (rNeY K) from op_neY (by exact hu)) (C8.pe_c G__law_args hr (by decide) (by rfl) (pa_cons (pv 3) (pa_cons (pv 14) pa_nil))) (pe_lst pa_nil) (nomark _))) (fun _ _ _ _ _ => (pv 14))) pa_nil)) (nomark _)))))
      (pss_one (ps_ret pe_bl))
      pss_nil), ?_⟩
  intro D H Q so sy wv z u pv so1 ws x0 x1 x2 x5 x7 x8 x9 x10 x11 x12 x13 x14 x15 x16 x17 x18 x20 x21 x22 x23 n hw rw0 sa ru g rp k
  have wf := w_facts hw
  have tw := grown_w g
  obtain ⟨_, _, _, _, q6, _⟩ := w_bool _ hw
  have hok : (itemsOf (.tuple ws)).all okThing = true := plain_thing g.plain
  obtain ⟨g1, g2⟩ := grown_tree (d := .tuple ws) g rfl rfl
  have hfw : (itemsOf (.tuple ws)).map fixD = ws := plain_fix g.plain
  have hwk := plain_okW wf.nm g.plain tw.known
  have ot := okts (ps := partsP sy ws 1 (ar sy (ws.getD 0 .none))) fun p hp => by
    obtain ⟨X, rfl, hX⟩ := partsP_mem _ _ p hp
    exact ⟨X, rfl, List.all_eq_true.mpr fun q hq => List.all_eq_true.mp hwk q (hX q hq)⟩
  refine ⟨_, rfl, _, rfl, NP Q, z, u, rfl, n, .inr ⟨so, sy, .tuple ws, sa, wf.h3, ru, hok, fun h => (by rw [g1] at h; cases h), fun _ u1 H1 e1 r1 => ?_⟩⟩
  rw [hfw] at r1
  refine ⟨_, rfl, R.tupOf (rp.ex e1) (n.ex e1) rfl fun u2 H2 e2 r2 => ?_⟩
  refine R.neD (r1.ex e2) r2 ot.nd ot.nd ot.shaped.1 ot.shaped.1 ⟨_, rfl, ?_⟩
  rw [show PyData.eqv (.tuple (partsP sy ws 1 (ar sy (ws.getD 0 .none)))) (.tuple (itemsOf (.list (partsP sy ws 1 (ar sy (ws.getD 0 .none)))))) = true from ot.eqT]
  have e12 := e1.trans e2
  refine iteF ⟨_, rfl, _, rfl, NP Q, z, u, rfl, n.ex e12, .inr ⟨so, sy, .tuple ws, sa.ex' e12, wf.h3, ru.ex e12, hok, fun h => (by rw [g1] at h; cases h), fun _ H3 e3 => ?_⟩⟩
  rw [hfw]
  have e13 := e12.trans e3
  have n3 := n.ex e13
  obtain ⟨a, xs, rfl, ha, ra⟩ := seq_of (ru.ex e13) rfl
  obtain ⟨J, sJ, wk⟩ := seq_walk (K := K) ha ra
  refine ⟨_, rfl, a, J, rfl, sJ, fun D2 hD2 => lc_gen (N := NP Q) (fun d => decide (0 < ar sy d)) (fun d => d) wk hD2 n3 (by show ws.length ≤ 100000; exact Nat.le_trans tw.few (by decide)) (fun y dd H4 hm e4 nn ry Q' q => ?_) (fun y dd H4 hm hk e4 nn ry Q' q => ⟨_, rfl, q _ _ (Ex.refl _) ry⟩) fun H4 ys e4 hy ry => ?_⟩
  · have hkn : knownW sy dd = true := List.all_eq_true.mp tw.known dd hm
    refine ⟨_, rfl, _, rfl, plus (NP Q) D2, wv, y, so, sy, dd, rfl, nn, ((rw0.ex e13).plus hD2).ex e4, wf.h16, ry, hkn, fun xa H5 e5 rxa => ⟨Nat.zero_le _, fun p hp => ?_⟩⟩
    obtain ⟨ss, hss, hso⟩ := args_strs q6 dd
    rw [hss] at rxa
    have e6 := Ex.new (o := HO.lst []) hp
    refine R.neD (rxa.ex e6) (RAll.nil.lstR (nn.ex e5) hp) (noDict_strs _) rfl (shaped_strs hso).2 rfl ⟨_, rfl, ?_⟩
    rw [eqv_empty]
    have hb : (!(strsD ss).isEmpty) = decide (0 < ar sy dd) := by
      unfold ar
      rw [hss]
      cases ss <;> rfl
    rw [hb]
    exact q _ (e5.trans e6)
  · rw [show (itemsOf (.tuple ws)).filter (fun d => decide (0 < ar sy d)) = ws.filter (fun d => decide (0 < ar sy d)) from rfl, List.map_id'] at ry
    have rl : R (NP Q) H4 (.ref D2) (.list (ws.filter fun d => decide (0 < ar sy d))) := .lst hy (fun z => n3 _ z hD2) ry
    refine R.len rl rfl ⟨rfl, _, rfl, ?_⟩
    rw [show decide (V.int ((ws.filter fun d => decide (0 < ar sy d)).length : Int) = V.int ((itemsOf (.list (ws.filter fun d => decide (0 < ar sy d)))).length : Int)) = true from decide_eq_true rfl]
    exact iteF (k _ (e13.trans e4))
def oddsD : List PyData := [.none, .int 5, .str "a", .list []]
theorem odd_no {so : List Str} {sy : List SRow} : ∀ d ∈ oddsD, treeB so sy d .none = false ∧ (itemsOf d).all okThing = true := by
  intro d hd
  refine no_trees d ?_
  unfold oddsD at hd
  unfold noTrees
  simp only [List.mem_cons, List.not_mem_nil, or_false] at hd ⊢
  rcases hd with rfl | rfl | rfl | rfl <;> simp
theorem w19 (L : LawC P w K mg base C CB CT CI CM CP Es) (hr : Room 11 (LX P w K mg base f cdv A outer s H0 E0).A) : ∃ t, PS (LX P w K mg base f cdv A outer s H0 E0) (bT 19) t ∧
    ∀ {D : Ends} {H : Hp} {Q C0 : Addr} {ns : List Int} {n : Nat} { x0 x2 x3 x4 x5 x6 x7 x8 x9 x10 x11 x12 x13 x14 x15 x16 x17 x18 x19 x20 x21 x22 x23 : Option V}, Pen Q C0 ns (n + 1) H →
      (∀ (x : V) (d : PyData) (H' : Hp), d ∈ oddsD → Pen Q C0 ns n H' → Xt Q H H' → R (NP Q) H' x d → D.nx (Sg x0 (some (.ref Q)) x2 x3 x4 x5 x6 x7 x8 x9 x10 x11 x12 x13 x14 x15 x16 x17 x18 x19 x20 (some (x)) x22 x23) H') → t D (Sg x0 (some (.ref Q)) x2 x3 x4 x5 x6 x7 x8 x9 x10 x11 x12 x13 x14 x15 x16 x17 x18 x19 x20 x21 x22 x23) H := by
  obtain ⟨T, S, E, KD, G__law_pen, G__law_draw, G__law_pick, G__law_world, G__law_signs, TR, G__law_behind, G__law_args, G__law_sort, G__law_is_tree, G_is_tree, G_is_tree3, KW, G_tree_sort, G_part_at, G_with_part, G_arguments_of, G_many_inner, HE, PB, PTr, PI, PM, EB, ET, EI, EM⟩ := L
  have hu := hr.units
  refine ⟨_, (ps_set (i := 21) sc_law.nd rfl (by first | exact Or.inl rfl | exact Or.inr rfl) (C8.pe_c G__law_pick hr (by decide) (by rfl) (pa_cons (pv 1) (pa_cons (lit_lst (lits_cons lit_non (lits_cons lit_int (lits_cons lit_str (lits_cons (lit_lst lits_nil) lits_nil))))) pa_nil)))), ?_⟩
  intro D H Q C0 ns n x0 x2 x3 x4 x5 x6 x7 x8 x9 x10 x11 x12 x13 x14 x15 x16 x17 x18 x19 x20 x21 x22 x23 pn k
  refine ⟨_, rfl, NP Q, pn.nok, fun u1 H1 e1 r1 => ⟨NP Q, Q, C0, ns, n, u1, .list oddsD, rfl, rfl, r1, rfl, by decide, by decide, pn.ex e1, fun i e x H2 he p2 xt rx => ?_⟩⟩
  exact k x e H2 (List.mem_of_getElem? (show oddsD[i]? = some e from he)) p2 (e1.xt.trans xt) rx
end
end K1
end

section
set_option Elab.async false
set_option linter.all false
set_option maxRecDepth 100000
set_option maxHeartbeats 2000000
namespace K1
open PySem L2 Rp
def prD (a b : Str) : PyData := .tuple [.str a, .str b]
def asksA : List PyData := [prD "signs" "signs", prD "tree" "tree", prD "number" "spot"]
def asksB : List PyData := [prD "number" "spot", prD "number" "spot", prD "tree" "other"]
def asksC : List PyData := [prD "tree" "tree", prD "signs" "signs"]
section
variable {P : Program} {w : World} {K : PySem.W.Frag} {mg : Str → Option Value} {base : Heap} {f : Addr} {cdv : Value} {A : Around} {outer : List Env} {s : Shared} {H0 : Hp} {E0 : XK} {C CB CT CI CM CP : Addr} {Es : Nat → Addr} {cL Pt : Addr}
theorem w20 (L : LawC P w K mg base C CB CT CI CM CP Es) (TB : LamX.TabB base mg cL Pt) (hr : Room 11 (LX P w K mg base f (.ref cL) A outer s H0 E0).A) : ∃ t, PS (LX P w K mg base f (.ref cL) A outer s H0 E0) (bT 20) t ∧
    ∀ {D : Ends} {H : Hp} {Q C0 : Addr} {ns : List Int} {n : Nat} {so : List Str} {sy : List SRow} {z u ov : V} {od : PyData} {so1 : Str} {ws : List PyData} { x0 x1 x2 x3 x5 x7 x8 x9 x10 x11 x12 x13 x14 x15 x16 x17 x18 x19 x20 x22 x23 : Option V}, Pen Q C0 ns n H → LamX.Tabs (tab0 Pt) H → IsW so sy → SigAt C (NP Q) H z so sy → R (NP Q) H u (.tuple ws) → Grown so sy so1 364 ws → R (NP Q) H ov od → od ∈ oddsD →
      (∀ (v : V) (H' : Hp), LamX.ExtN H H' → LamX.Tabs (tab0 Pt) H' → R (NP Q) H' v (.list asksA) → D.nx (Sg x0 x1 x2 x3 (some (z)) x5 (some (u)) x7 x8 x9 x10 x11 x12 x13 x14 x15 x16 x17 x18 x19 x20 (some (ov)) (some (v)) x23) H') → t D (Sg x0 x1 x2 x3 (some (z)) x5 (some (u)) x7 x8 x9 x10 x11 x12 x13 x14 x15 x16 x17 x18 x19 x20 (some (ov)) x22 x23) H := by
  obtain ⟨T, S, E, KD, G__law_pen, G__law_draw, G__law_pick, G__law_world, G__law_signs, TR, G__law_behind, G__law_args, G__law_sort, G__law_is_tree, G_is_tree, G_is_tree3, KW, G_tree_sort, G_part_at, G_with_part, G_arguments_of, G_many_inner, HE, PB, PTr, PI, PM, EB, ET, EI, EM⟩ := L
  have hu := hr.units
  obtain ⟨g, gd, hH, bH⟩ := HE
  obtain ⟨ocH, odH, dVH, kVH, docH, pmH, anH, cdH, ctH, oslH, rfl, lkH, hcH⟩ := hH.fn.ex
  let TT0 := tab0 Pt
  have hmT : (Pt, (LX P w K mg base f (.ref cL) A outer s H0 E0).env.qual ++ "<lambda>") ∈ TT0 := by
    exact List.mem_cons_self
  have huT : ∀ p ∈ TT0, p.1 = Pt → p.2 = (LX P w K mg base f (.ref cL) A outer s H0 E0).env.qual ++ "<lambda>" := fun p hp _ => by
    cases List.mem_singleton.mp hp
    rfl
  refine ⟨_, (ps_set (i := 22) sc_law.nd rfl (by first | exact Or.inl rfl | exact Or.inr rfl) (pe_lst (pa_cons (LamX.pe_lamcallN (T := TT0) (TT := TTheard K CP Es) (k := 9) rfl hH.mgf hH.kp lkH hcH bH sc__law_heard rfl (.inl rfl) (heard_gives T E) TB rfl hmT huT (hr.mono (by decide)) (LamX.lamS_by (by show LamX.lamSB (C8.fnScope (topS 67)) _ = true; decide +kernel)) rfl (fun _ _ _ _ _ => rfl) (fun A outer s H E f c' hr' => (pe_cX G_tree_sort hr' (by decide) (passes_call (takes_of rfl rfl rfl rfl) fun _ _ _ _ h => h) (by rfl) (pa_cons (pv 21) (pa_cons pe_non pa_nil))))) (pa_cons (LamX.pe_lamcallD (nm := "a1") (T := TT0) (TT := TTheard K CP Es) (k := 9) rfl hH.mgf hH.kp lkH hcH bH sc__law_heard rfl (.inl rfl) (heard_gives T E) TB rfl hmT huT (hr.mono (by decide)) (LamX.lamD_by (by show LamX.lamDB NL (C8.fnScope (topS 67)) _ = true; decide +kernel)) ⟨_, _, rfl⟩ rfl rfl (fun _ _ _ _ _ _ _ => ⟨_, rfl, rfl⟩) (fun A outer s H E f c' hr' => (pe_cX G_part_at hr' (by decide) (passes_call (takes_of rfl rfl rfl rfl) fun _ _ _ _ h => h) (by rfl) (pa_cons (pv 4) (pa_cons (pv 21) (pa_cons pe_non pa_nil)))))) (pa_cons (LamX.pe_lamcallD (nm := "a2") (T := TT0) (TT := TTheard K CP Es) (k := 9) rfl hH.mgf hH.kp lkH hcH bH sc__law_heard rfl (.inl rfl) (heard_gives T E) TB rfl hmT huT (hr.mono (by decide)) (LamX.lamD_by (by show LamX.lamDB NL (C8.fnScope (topS 67)) _ = true; decide +kernel)) ⟨_, _, rfl⟩ rfl rfl (fun _ _ _ _ _ _ _ => ⟨_, rfl, rfl⟩) (fun A outer s H E f c' hr' => (pe_cX G_part_at hr' (by decide) (passes_call (takes_of rfl rfl rfl rfl) fun _ _ _ _ h => h) (by rfl) (pa_cons (pv 4) (pa_cons (pv 6) (pa_cons (pe_callB (show CallR _ _ (Rp.rLen K) from call_lenS) (by rfl) T.len PyProof.Rows.Boot.«len» (pa_cons (pv 6) pa_nil)) pa_nil)))))) pa_nil))))), ?_⟩
  intro D H Q C0 ns n so sy z u ov od so1 ws x0 x1 x2 x3 x5 x7 x8 x9 x10 x11 x12 x13 x14 x15 x16 x17 x18 x19 x20 x22 x23 pn hT hw sa ru g ro hod k
  have wf := w_facts hw
  have hok : (itemsOf (.tuple ws)).all okThing = true := plain_thing g.plain
  obtain ⟨g1, _⟩ := grown_tree (d := .tuple ws) g rfl rfl
  have hfw : (itemsOf (.tuple ws)).map fixD = ws := plain_fix g.plain
  obtain ⟨o1, o2⟩ := odd_no (so := so) (sy := sy) od hod
  obtain ⟨b1, KB⟩ := PB
  obtain ⟨b2, KT⟩ := PTr
  obtain ⟨b3, KI⟩ := PI
  refine ⟨hT, fun H1 e1 t1 H2 E' Q' e2 hE hQ => ?_⟩
  have p1 := Pen_extN pn e1
  have n1 : NOk (NP Q) H1 := p1.nok
  have ro1 : R (NP Q) H1 ov od := ro.mono (extN_xn e1)
  refine ⟨_, rfl, NP Q, ov, .non, rfl, n1.ex e2, .inl ⟨od, ro1.ex e2, heard_part n1 KB EB (fun u3 H3 e3 r3 => ?_) e2 hE⟩⟩
  have f3 := e1.trans (LamX.ExtN.of e3)
  refine ⟨t1.ext e3, fun H4 e4 t4 H5 E' Q' e5 hE hQ => ?_⟩
  have f4 := f3.trans e4
  have n4 : NOk (NP Q) H4 := (Pen_extN pn f4).nok
  refine ⟨_, rfl, _, rfl, NP Q, z, ov, .non, rfl, n4.ex e5, .inr ⟨so, sy, od, (sa.mono (extN_xn f4)).ex' e5, wf.h3, (ro.mono (extN_xn f4)).ex e5, o2, fun _ => heard_part n4 KT ET (fun u6 H6 e6 r6 => ?_) e5 hE, fun h => (by rw [o1] at h; cases h)⟩⟩
  have f6 := f4.trans (LamX.ExtN.of e6)
  refine ⟨t4.ext e6, fun H7 e7 t7 H8 E' Q' e8 hE hQ => ?_⟩
  have f7 := f6.trans e7
  have n7 : NOk (NP Q) H7 := (Pen_extN pn f7).nok
  have ru8 : R (NP Q) H8 u (.tuple ws) := (ru.mono (extN_xn f7)).ex e8
  refine ⟨_, rfl, _, rfl, _, rfl, R.len ru8 rfl ⟨NP Q, z, u, _, rfl, n7.ex e8, .inr ⟨so, sy, .tuple ws, (sa.mono (extN_xn f7)).ex' e8, wf.h3, ru8, hok, fun h => (by rw [g1] at h; cases h), fun _ => ⟨_, .int _, fun _ => heard_part n7 KI EI (fun u9 H9 e9 r9 => ?_) e8 hE, fun i hi hlt => ?_⟩⟩⟩⟩
  · have f9 := f7.trans (LamX.ExtN.of e9)
    refine ⟨(by show 3 ≤ sizeLine; decide), fun p hp => ?_⟩
    have e10 := Ex.new (o := HO.lst [u3, u6, u9]) hp
    have n9 := n7.ex e9
    have q6 : R (NP Q) H9 u6 _ := (r6.mono (extN_xn e7)).ex e9
    have q3 : R (NP Q) H9 u3 _ := (((r3.mono (extN_xn e4)).ex e6).mono (extN_xn e7)).ex e9
    exact k _ _ (f9.trans (LamX.ExtN.of e10)) ((t7.ext e9).ext e10) (RAll.lstR (.cons q3 (.cons q6 (.cons r9 .nil))) n9 hp)
  · rw [hfw] at hlt
    have h := PyData.int.inj hi
    rw [show (((itemsOf (.tuple ws)).length : Nat) : Int) = (ws.length : Int) from rfl] at h
    omega
theorem w21 (L : LawC P w K mg base C CB CT CI CM CP Es) (TB : LamX.TabB base mg cL Pt) (hr : Room 11 (LX P w K mg base f (.ref cL) A outer s H0 E0).A) : ∃ t, PS (LX P w K mg base f (.ref cL) A outer s H0 E0) (bT 21) t ∧
    ∀ {D : Ends} {H : Hp} {Q C0 : Addr} {ns : List Int} {n : Nat} {so : List Str} {sy : List SRow} {z u ov v : V} {od : PyData} {so1 : Str} {ws : List PyData} {j : Nat} { x0 x1 x2 x3 x5 x7 x9 x10 x11 x12 x13 x14 x15 x16 x17 x18 x19 x20 x23 : Option V}, Pen Q C0 ns n H → LamX.Tabs (tab0 Pt) H → IsW so sy → SigAt C (NP Q) H z so sy → R (NP Q) H u (.tuple ws) → Grown so sy so1 364 ws → j < ws.length → R (NP Q) H ov od → od ∈ oddsD → R (NP Q) H v (.list asksA) →
      (∀ (v : V) (H' : Hp), LamX.ExtN H H' → LamX.Tabs (tab0 Pt) H' → R (NP Q) H' v (.list (asksA ++ asksB)) → D.nx (Sg x0 x1 x2 x3 (some (z)) x5 (some (u)) x7 (some (.int (j : Int))) x9 x10 x11 x12 x13 x14 x15 x16 x17 x18 x19 x20 (some (ov)) (some (v)) x23) H') → t D (Sg x0 x1 x2 x3 (some (z)) x5 (some (u)) x7 (some (.int (j : Int))) x9 x10 x11 x12 x13 x14 x15 x16 x17 x18 x19 x20 (some (ov)) (some (v)) x23) H := by
  obtain ⟨T, S, E, KD, G__law_pen, G__law_draw, G__law_pick, G__law_world, G__law_signs, TR, G__law_behind, G__law_args, G__law_sort, G__law_is_tree, G_is_tree, G_is_tree3, KW, G_tree_sort, G_part_at, G_with_part, G_arguments_of, G_many_inner, HE, PB, PTr, PI, PM, EB, ET, EI, EM⟩ := L
  have hu := hr.units
  obtain ⟨g, gd, hH, bH⟩ := HE
  obtain ⟨ocH, odH, dVH, kVH, docH, pmH, anH, cdH, ctH, oslH, rfl, lkH, hcH⟩ := hH.fn.ex
  let TT0 := tab0 Pt
  have hmT : (Pt, (LX P w K mg base f (.ref cL) A outer s H0 E0).env.qual ++ "<lambda>") ∈ TT0 := by
    exact List.mem_cons_self
  have huT : ∀ p ∈ TT0, p.1 = Pt → p.2 = (LX P w K mg base f (.ref cL) A outer s H0 E0).env.qual ++ "<lambda>" := fun p hp _ => by
    cases List.mem_singleton.mp hp
    rfl
  refine ⟨_, (ps_set (i := 22) sc_law.nd rfl (by first | exact Or.inl rfl | exact Or.inr rfl) (pe_op op_catY (pv 22) (pe_lst (pa_cons (LamX.pe_lamcallN (T := TT0) (TT := TTheard K CP Es) (k := 9) rfl hH.mgf hH.kp lkH hcH bH sc__law_heard rfl (.inl rfl) (heard_gives T E) TB rfl hmT huT (hr.mono (by decide)) (LamX.lamS_by (by show LamX.lamSB (C8.fnScope (topS 67)) _ = true; decide +kernel)) rfl (fun _ _ _ _ _ => rfl) (fun A outer s H E f c' hr' => (pe_cX G_part_at hr' (by decide) (passes_call (takes_of rfl rfl rfl rfl) fun _ _ _ _ h => h) (by rfl) (pa_cons (pv 4) (pa_cons (pv 6) (pa_cons (pe_un un_neg pe_int) pa_nil)))))) (pa_cons (LamX.pe_lamcallD (nm := "a1") (T := TT0) (TT := TTheard K CP Es) (k := 9) rfl hH.mgf hH.kp lkH hcH bH sc__law_heard rfl (.inl rfl) (heard_gives T E) TB rfl hmT huT (hr.mono (by decide)) (LamX.lamD_by (by show LamX.lamDB NL (C8.fnScope (topS 67)) _ = true; decide +kernel)) ⟨_, _, rfl⟩ rfl rfl (fun _ _ _ _ _ _ _ => ⟨_, rfl, rfl⟩) (fun A outer s H E f c' hr' => (pe_cX G_with_part hr' (by decide) (passes_call (takes_of rfl rfl rfl rfl) fun _ _ _ _ h => h) (by rfl) (pa_cons (pv 4) (pa_cons (pv 6) (pa_cons pe_bl (pa_cons (pv 21) pa_nil))))))) (pa_cons (LamX.pe_lamcallD (nm := "a2") (T := TT0) (TT := TTheard K CP Es) (k := 9) rfl hH.mgf hH.kp lkH hcH bH sc__law_heard rfl (.inl rfl) (heard_gives T E) TB rfl hmT huT (hr.mono (by decide)) (LamX.lamD_by (by show LamX.lamDB NL (C8.fnScope (topS 67)) _ = true; decide +kernel)) ⟨_, _, rfl⟩ rfl rfl (fun _ _ _ _ _ _ _ => ⟨_, rfl, rfl⟩) (fun A outer s H E f c' hr' => (pe_cX G_with_part hr' (by decide) (passes_call (takes_of rfl rfl rfl rfl) fun _ _ _ _ h => h) (by rfl) (pa_cons (pv 4) (pa_cons (pv 6) (pa_cons (pv 8) (pa_cons (pv 21) pa_nil))))))) pa_nil)))))), ?_⟩
  intro D H Q C0 ns n so sy z u ov v od so1 ws j x0 x1 x2 x3 x5 x7 x9 x10 x11 x12 x13 x14 x15 x16 x17 x18 x19 x20 x23 pn hT hw sa ru g hj ro hod rv k
  have wf := w_facts hw
  have hok : (itemsOf (.tuple ws)).all okThing = true := plain_thing g.plain
  obtain ⟨g1, _⟩ := grown_tree (d := .tuple ws) g rfl rfl
  have hfw : (itemsOf (.tuple ws)).map fixD = ws := plain_fix g.plain
  obtain ⟨o1, o2⟩ := odd_no (so := so) (sy := sy) od hod
  obtain ⟨b1, KB⟩ := PB
  obtain ⟨b2, KT⟩ := PTr
  obtain ⟨b3, KI⟩ := PI
  refine ⟨_, rfl, hT, fun H1 e1 t1 H2 E' Q' e2 hE hQ => ?_⟩
  have p1 := Pen_extN pn e1
  have n1 : NOk (NP Q) H1 := p1.nok
  have ru2 : R (NP Q) H2 u (.tuple ws) := (ru.mono (extN_xn e1)).ex e2
  refine ⟨_, rfl, _, rfl, _, rfl, NP Q, z, u, _, rfl, n1.ex e2, .inr ⟨so, sy, .tuple ws, (sa.mono (extN_xn e1)).ex' e2, wf.h3, ru2, hok, fun h => (by rw [g1] at h; cases h), fun _ => ⟨_, .int (-1), fun _ => heard_part n1 KI EI (fun u3 H3 e3 r3 => ?_) e2 hE, fun i hi hlt => (by have h := PyData.int.inj hi; omega)⟩⟩⟩
  have f3 := e1.trans (LamX.ExtN.of e3)
  refine ⟨t1.ext e3, fun H4 e4 t4 H5 E' Q' e5 hE hQ => ?_⟩
  have f4 := f3.trans e4
  have n4 : NOk (NP Q) H4 := (Pen_extN pn f4).nok
  have ru5 : R (NP Q) H5 u (.tuple ws) := (ru.mono (extN_xn f4)).ex e5
  refine ⟨_, rfl, _, rfl, _, rfl, NP Q, z, u, _, ov, rfl, n4.ex e5, .inr ⟨so, sy, .tuple ws, (sa.mono (extN_xn f4)).ex' e5, wf.h3, ru5, hok, fun h => (by rw [g1] at h; cases h), fun _ => ⟨_, od, .bl true, (ro.mono (extN_xn f4)).ex e5, o2, fun _ => heard_part n4 KI EI (fun u6 H6 e6 r6 => ?_) e5 hE, fun i hi hlt => (by cases hi)⟩⟩⟩
  have f6 := f4.trans (LamX.ExtN.of e6)
  refine ⟨t4.ext e6, fun H7 e7 t7 H8 E' Q' e8 hE hQ => ?_⟩
  have f7 := f6.trans e7
  have n7 : NOk (NP Q) H7 := (Pen_extN pn f7).nok
  have ru8 : R (NP Q) H8 u (.tuple ws) := (ru.mono (extN_xn f7)).ex e8
  refine ⟨_, rfl, _, rfl, _, rfl, _, rfl, NP Q, z, u, _, ov, rfl, n7.ex e8, .inr ⟨so, sy, .tuple ws, (sa.mono (extN_xn f7)).ex' e8, wf.h3, ru8, hok, fun h => (by rw [g1] at h; cases h), fun _ => ⟨_, od, .int (j : Int), (ro.mono (extN_xn f7)).ex e8, o2, fun h => ?_, fun i hi hlt => ⟨fun _ => heard_part n7 KT ET (fun u9 H9 e9 r9 => ?_) e8 hE, fun h => (by rw [o1] at h; cases h)⟩⟩⟩⟩
  · have h : (decide ((0 : Int) ≤ (j : Int)) && decide ((j : Int) ≤ ((((itemsOf (.tuple ws)).map fixD).length : Nat) : Int) - 1)) = false := h
    rw [hfw, decide_eq_true (by omega), decide_eq_true (by omega)] at h
    cases h
  · have f9 := f7.trans (LamX.ExtN.of e9)
    refine ⟨(by show 3 ≤ sizeLine; decide), fun p hp => ?_⟩
    have e10 := Ex.new (o := HO.lst [u3, u6, u9]) hp
    have n9 := n7.ex e9
    have q6 : R (NP Q) H9 u6 _ := (r6.mono (extN_xn e7)).ex e9
    have q3 : R (NP Q) H9 u3 _ := (((r3.mono (extN_xn e4)).ex e6).mono (extN_xn e7)).ex e9
    have rl := RAll.lstR (.cons q3 (.cons q6 (.cons r9 .nil))) n9 hp
    have f10 := f9.trans (LamX.ExtN.of e10)
    refine R.cat (rv.mono (extN_xn f10)) rl (n9.ex e10) (by decide) fun u11 H11 e11 r11 => ?_
    exact k _ _ (f10.trans (LamX.ExtN.of e11)) (((t7.ext e9).ext e10).ext e11) r11
theorem w22 (L : LawC P w K mg base C CB CT CI CM CP Es) (TB : LamX.TabB base mg cL Pt) (hr : Room 11 (LX P w K mg base f (.ref cL) A outer s H0 E0).A) : ∃ t, PS (LX P w K mg base f (.ref cL) A outer s H0 E0) (bT 22) t ∧
    ∀ {D : Ends} {H : Hp} {Q C0 : Addr} {ns : List Int} {n : Nat} {so : List Str} {sy : List SRow} {z ov v : V} {od : PyData} { x0 x1 x2 x3 x5 x6 x7 x8 x9 x10 x11 x12 x13 x14 x15 x16 x17 x18 x19 x20 x23 : Option V}, Pen Q C0 ns n H → LamX.Tabs (tab0 Pt) H → IsW so sy → SigAt C (NP Q) H z so sy → R (NP Q) H ov od → od ∈ oddsD → R (NP Q) H v (.list (asksA ++ asksB)) →
      (∀ (v : V) (H' : Hp), LamX.ExtN H H' → LamX.Tabs (tab0 Pt) H' → R (NP Q) H' v (.list (asksA ++ asksB ++ asksC)) → D.nx (Sg x0 x1 x2 x3 (some (z)) x5 x6 x7 x8 x9 x10 x11 x12 x13 x14 x15 x16 x17 x18 x19 x20 (some (ov)) (some (v)) x23) H') → t D (Sg x0 x1 x2 x3 (some (z)) x5 x6 x7 x8 x9 x10 x11 x12 x13 x14 x15 x16 x17 x18 x19 x20 (some (ov)) (some (v)) x23) H := by
  obtain ⟨T, S, E, KD, G__law_pen, G__law_draw, G__law_pick, G__law_world, G__law_signs, TR, G__law_behind, G__law_args, G__law_sort, G__law_is_tree, G_is_tree, G_is_tree3, KW, G_tree_sort, G_part_at, G_with_part, G_arguments_of, G_many_inner, HE, PB, PTr, PI, PM, EB, ET, EI, EM⟩ := L
  have hu := hr.units
  obtain ⟨g, gd, hH, bH⟩ := HE
  obtain ⟨ocH, odH, dVH, kVH, docH, pmH, anH, cdH, ctH, oslH, rfl, lkH, hcH⟩ := hH.fn.ex
  let TT0 := tab0 Pt
  have hmT : (Pt, (LX P w K mg base f (.ref cL) A outer s H0 E0).env.qual ++ "<lambda>") ∈ TT0 := by
    exact List.mem_cons_self
  have huT : ∀ p ∈ TT0, p.1 = Pt → p.2 = (LX P w K mg base f (.ref cL) A outer s H0 E0).env.qual ++ "<lambda>" := fun p hp _ => by
    cases List.mem_singleton.mp hp
    rfl
  refine ⟨_, (ps_set (i := 22) sc_law.nd rfl (by first | exact Or.inl rfl | exact Or.inr rfl) (pe_op op_catY (pv 22) (pe_lst (pa_cons (LamX.pe_lamcallN (T := TT0) (TT := TTheard K CP Es) (k := 9) rfl hH.mgf hH.kp lkH hcH bH sc__law_heard rfl (.inl rfl) (heard_gives T E) TB rfl hmT huT (hr.mono (by decide)) (LamX.lamS_by (by show LamX.lamSB (C8.fnScope (topS 67)) _ = true; decide +kernel)) rfl (fun _ _ _ _ _ => rfl) (fun A outer s H E f c' hr' => (pe_cX G_arguments_of hr' (by decide) (passes_call (takes_of rfl rfl rfl rfl) fun _ _ _ _ h => h) (by rfl) (pa_cons (pv 4) (pa_cons (pv 21) pa_nil))))) (pa_cons (LamX.pe_lamcallD (nm := "a1") (T := TT0) (TT := TTheard K CP Es) (k := 9) rfl hH.mgf hH.kp lkH hcH bH sc__law_heard rfl (.inl rfl) (heard_gives T E) TB rfl hmT huT (hr.mono (by decide)) (LamX.lamD_by (by show LamX.lamDB NL (C8.fnScope (topS 67)) _ = true; decide +kernel)) ⟨_, _, rfl⟩ rfl rfl (fun _ _ _ _ _ _ _ => ⟨_, rfl, rfl⟩) (fun A outer s H E f c' hr' => (pe_cX G_many_inner hr' (by decide) (passes_call (takes_of rfl rfl rfl rfl) fun _ _ _ _ h => h) (by rfl) (pa_cons (pv 21) (pa_cons (pv 21) pa_nil))))) pa_nil))))), ?_⟩
  intro D H Q C0 ns n so sy z ov v od x0 x1 x2 x3 x5 x6 x7 x8 x9 x10 x11 x12 x13 x14 x15 x16 x17 x18 x19 x20 x23 pn hT hw sa ro hod rv k
  have wf := w_facts hw
  obtain ⟨o1, o2⟩ := odd_no (so := so) (sy := sy) od hod
  obtain ⟨b1, KB⟩ := PB
  obtain ⟨b2, KT⟩ := PTr
  refine ⟨_, rfl, hT, fun H4 f4 t4 H5 E' Q' e5 hE hQ => ?_⟩
  have n4 : NOk (NP Q) H4 := (Pen_extN pn f4).nok
  refine ⟨_, rfl, _, rfl, NP Q, z, ov, rfl, n4.ex e5, .inr ⟨so, sy, od, (sa.mono (extN_xn f4)).ex' e5, wf.h3, (ro.mono (extN_xn f4)).ex e5, o2, fun _ => heard_part n4 KT ET (fun u6 H6 e6 r6 => ?_) e5 hE, fun h => (by rw [o1] at h; cases h)⟩⟩
  have f6 := f4.trans (LamX.ExtN.of e6)
  refine ⟨t4.ext e6, fun H7 e7 t7 H8 E' Q' e8 hE hQ => ?_⟩
  have f7 := f6.trans e7
  have n7 : NOk (NP Q) H7 := (Pen_extN pn f7).nok
  refine ⟨_, rfl, _, rfl, NP Q, ov, ov, rfl, n7.ex e8, .inl ⟨od, (ro.mono (extN_xn f7)).ex e8, heard_part n7 KB EB (fun u9 H9 e9 r9 => ?_) e8 hE⟩⟩
  have f9 := f7.trans (LamX.ExtN.of e9)
  refine ⟨(by show 2 ≤ sizeLine; decide), fun p hp => ?_⟩
  have e10 := Ex.new (o := HO.lst [u6, u9]) hp
  have n9 := n7.ex e9
  have q6 : R (NP Q) H9 u6 _ := (r6.mono (extN_xn e7)).ex e9
  have rl := RAll.lstR (.cons q6 (.cons r9 .nil)) n9 hp
  have f10 := f9.trans (LamX.ExtN.of e10)
  refine R.cat (rv.mono (extN_xn f10)) rl (n9.ex e10) (by decide) fun u11 H11 e11 r11 => ?_
  exact k _ _ (f10.trans (LamX.ExtN.of e11)) (((t7.ext e9).ext e10).ext e11) r11
theorem w23 (L : LawC P w K mg base C CB CT CI CM CP Es) (hr : Room 11 (LX P w K mg base f cdv A outer s H0 E0).A) : ∃ t, PS (LX P w K mg base f cdv A outer s H0 E0) (bT 23) t ∧
    ∀ {D : Ends} {H : Hp} {Q : Addr} {v : V} { x0 x1 x2 x3 x4 x5 x6 x7 x8 x9 x10 x11 x12 x13 x14 x15 x16 x17 x18 x19 x20 x21 x23 : Option V}, NOk (NP Q) H → R (NP Q) H v (.list (asksA ++ asksB ++ asksC)) →
      (∀ (H' : Hp), Ex H H' → D.nx (Sg x0 x1 x2 x3 x4 x5 x6 x7 x8 x9 x10 x11 x12 x13 x14 x15 x16 x17 x18 x19 x20 x21 (some (v)) x23) H') → t D (Sg x0 x1 x2 x3 x4 x5 x6 x7 x8 x9 x10 x11 x12 x13 x14 x15 x16 x17 x18 x19 x20 x21 (some (v)) x23) H := by
  obtain ⟨T, S, E, KD, G__law_pen, G__law_draw, G__law_pick, G__law_world, G__law_signs, TR, G__law_behind, G__law_args, G__law_sort, G__law_is_tree, G_is_tree, G_is_tree3, KW, G_tree_sort, G_part_at, G_with_part, G_arguments_of, G_many_inner, HE, PB, PTr, PI, PM, EB, ET, EI, EM⟩ := L
  have hu := hr.units
  refine ⟨_, (ps_if (pt_cmpR (show OpR _ _ (rNeY K) from op_neY (by exact hu)) (pv 22) (lit_lst (lits_cons (lit_tup (lits_cons lit_str (lits_cons lit_str lits_nil))) (lits_cons (lit_tup (lits_cons lit_str (lits_cons lit_str lits_nil))) (lits_cons (lit_tup (lits_cons lit_str (lits_cons lit_str lits_nil))) (lits_cons (lit_tup (lits_cons lit_str (lits_cons lit_str lits_nil))) (lits_cons (lit_tup (lits_cons lit_str (lits_cons lit_str lits_nil))) (lits_cons (lit_tup (lits_cons lit_str (lits_cons lit_str lits_nil))) (lits_cons (lit_tup (lits_cons lit_str (lits_cons lit_str lits_nil))) (lits_cons (lit_tup (lits_cons lit_str (lits_cons lit_str lits_nil))) lits_nil))))))))) (nomark _))
      (pss_one (ps_ret pe_bl))
      pss_nil), ?_⟩
  intro D H Q v x0 x1 x2 x3 x4 x5 x6 x7 x8 x9 x10 x11 x12 x13 x14 x15 x16 x17 x18 x19 x20 x21 x23 n rv k
  refine ⟨_, rfl, NP Q, n, fun u1 H1 e1 r1 => ?_⟩
  have a1 : noDict (.list (asksA ++ asksB ++ asksC)) = true := by decide +kernel
  have a2 : SeqAt.shaped (.list (asksA ++ asksB ++ asksC)) = true := by decide +kernel
  refine R.neD (rv.ex e1) r1 a1 a1 a2 a2 ⟨_, rfl, ?_⟩
  rw [show PyData.eqv (.list (asksA ++ asksB ++ asksC)) (.list [.tuple [.str "signs", .str "signs"], .tuple [.str "tree", .str "tree"], .tuple [.str "number", .str "spot"], .tuple [.str "number", .str "spot"], .tuple [.str "number", .str "spot"], .tuple [.str "tree", .str "other"], .tuple [.str "tree", .str "tree"], .tuple [.str "signs", .str "signs"]]) = true by decide +kernel]
  exact iteF (k _ e1)
end
end K1
end

section
set_option Elab.async false
set_option linter.all false
set_option maxRecDepth 100000
set_option maxHeartbeats 2000000
namespace K1
open PySem L2 Rp
/-! ### as long as may be -/
def ringB (d : PyData) : Bool := PyData.eqv ((itemsOf d).getD 1 .none) (.list [(itemsOf d).getD 2 .none])
def endB (t : Str) (d : PyData) : Bool := PyData.eqv ((itemsOf d).getD 1 .none) (.list []) && decide (strOf ((itemsOf d).getD 2 .none) = t)
def ringR (sy : List SRow) : SRow := rowAt (((sy.map rowT).filter ringB).getD 0 .none)
def endR (sy : List SRow) : SRow := rowAt (((sy.map rowT).filter (endB (ringR sy).sort)).getD 0 .none)
theorem w_ring : ∀ p ∈ worlds, 0 < ((p.2.map rowT).filter ringB).length ∧ 0 < ((p.2.map rowT).filter (endB (ringR p.2).sort)).length ∧ rowOf p.2 (.str (ringR p.2).name) = some (ringR p.2) ∧ (ringR p.2).args = [(ringR p.2).sort] ∧ rowOf p.2 (.str (endR p.2).name) = some (endR p.2) ∧ (endR p.2).args = [] ∧ (endR p.2).sort = (ringR p.2).sort := by decide +kernel
theorem first_name {sy : List SRow} {keep : PyData → Bool} (h : 0 < ((sy.map rowT).filter keep).length) : (((sy.map rowT).filter keep).map rowName)[0]? = some (.str (rowAt (((sy.map rowT).filter keep).getD 0 .none)).name) := by
  rw [List.getElem?_map, head_at h]
  obtain ⟨r, _, hr⟩ := List.mem_map.mp (List.mem_filter.mp (List.mem_of_getElem? (head_at h))).1
  rw [← hr, rowAt_T]
  rfl
theorem ring_told {so : List Str} {sy : List SRow} {r c : SRow} (hr : rowOf sy (.str r.name) = some r) (ha : r.args = [r.sort]) (hc : rowOf sy (.str c.name) = some c) (hca : c.args = []) (hcs : c.sort = r.sort) : ∀ (k : Nat) (t : PyData), t = .none ∨ t = .str r.sort → toldGo so sy isThing (List.replicate k (.str r.name) ++ [.str c.name]) [t] = some []
  | 0, t, ht => by
    have hf : fitsB so sy isThing (.str c.name) t = true := by
      rw [fits_some hc, hcs]
      rcases ht with rfl | rfl
      · rfl
      · exact decide_eq_true rfl
    show (if fitsB so sy isThing (.str c.name) t = true then toldGo so sy isThing [] (argsD sy (.str c.name) ++ []) else none) = some []
    rw [if_pos hf, args_row hc, hca]
    rfl
  | k + 1, t, ht => by
    have hf : fitsB so sy isThing (.str r.name) t = true := by
      rw [fits_some hr]
      rcases ht with rfl | rfl
      · rfl
      · exact decide_eq_true rfl
    show (if fitsB so sy isThing (.str r.name) t = true then toldGo so sy isThing (List.replicate k (.str r.name) ++ [.str c.name]) (argsD sy (.str r.name) ++ []) else none) = some []
    rw [if_pos hf, args_row hr, ha]
    exact ring_told hr ha hc hca hcs k (.str r.sort) (.inr rfl)
def longD (sy : List SRow) : List PyData := List.replicate 399 (.str (ringR sy).name) ++ [.str (endR sy).name]
theorem rep_flat {α : Type} (x : α) : ∀ k : Nat, (List.replicate k [x]).flatten = List.replicate k x
  | 0 => rfl
  | k + 1 => by
    rw [List.replicate_succ, List.replicate_succ, List.flatten_cons, rep_flat x k]
    rfl
theorem long_len (sy : List SRow) : (longD sy).length = 400 := by
  unfold longD
  rw [List.length_append, List.length_replicate]
  rfl
theorem long_tree {so : List Str} {sy : List SRow} (hw : IsW so sy) : treeB so sy (.list (longD sy)) .none = true ∧ treeB so sy (.list ([.str (ringR sy).name] ++ longD sy)) .none = false ∧ (longD sy).all okThing = true := by
  obtain ⟨_, _, h3, h4, h5, h6, h7⟩ := w_ring _ hw
  refine ⟨?_, ?_, ?_⟩
  · rw [tree_list (by rw [long_len]; exact Nat.le_refl _)]
    unfold toldB
    rw [show toldGo so sy isThing (longD sy) [.none] = some [] from ring_told h3 h4 h5 h6 h7 399 .none (.inl rfl), long_len]
    rfl
  · show (true && decide (([PyData.str (ringR sy).name] ++ longD sy).length ≤ 400) && _) = false
    rw [List.length_append, long_len]
    rfl
  · unfold longD
    rw [List.all_append, List.all_replicate]
    rfl
theorem row_strs {so : List Str} {sy : List SRow} (hw : IsW so sy) {ρ : SRow} (h : ρ ∈ sy) : ρ.args.all PyData.strOk = true ∧ PyData.strOk ρ.sort = true := by
  obtain ⟨_, _, _, _, q6, _⟩ := w_bool _ hw
  have := Bool.and_eq_true_iff.mp (List.all_eq_true.mp q6 ρ h)
  exact ⟨this.2, (Bool.and_eq_true_iff.mp this.1).2⟩
section
variable {P : Program} {w : World} {K : PySem.W.Frag} {mg : Str → Option Value} {base : Heap} {f : Addr} {cdv : Value} {A : Around} {outer : List Env} {s : Shared} {H0 : Hp} {E0 : XK} {C CB CT CI CM CP : Addr} {Es : Nat → Addr} {cL Pt : Addr}
theorem w24 (L : LawC P w K mg base C CB CT CI CM CP Es) (hr : Room 11 (LX P w K mg base f cdv A outer s H0 E0).A) : ∃ t, PS (LX P w K mg base f cdv A outer s H0 E0) (bT 24) t ∧
    ∀ {D : Ends} {H : Hp} {Q : Addr} {so : List Str} {sy : List SRow} {wv : V} { x0 x1 x2 x4 x5 x6 x7 x8 x9 x10 x11 x12 x13 x14 x15 x16 x17 x18 x19 x20 x21 x22 x23 : Option V}, NOk (NP Q) H → IsW so sy → R (NP Q) H wv (worldD so sy) →
      (∀ (H' : Hp), Ex H H' → D.nx (Sg x0 x1 x2 (some (wv)) x4 x5 x6 x7 x8 x9 x10 x11 x12 x13 (some (.str (ringR sy).name)) x15 x16 x17 x18 x19 x20 x21 x22 x23) H') → t D (Sg x0 x1 x2 (some (wv)) x4 x5 x6 x7 x8 x9 x10 x11 x12 x13 x14 x15 x16 x17 x18 x19 x20 x21 x22 x23) H := by
  obtain ⟨T, S, E, KD, G__law_pen, G__law_draw, G__law_pick, G__law_world, G__law_signs, TR, G__law_behind, G__law_args, G__law_sort, G__law_is_tree, G_is_tree, G_is_tree3, KW, G_tree_sort, G_part_at, G_with_part, G_arguments_of, G_many_inner, HE, PB, PTr, PI, PM, EB, ET, EI, EM⟩ := L
  have hu := hr.units
  refine ⟨_, (ps_set (i := 14) sc_law.nd rfl (by first | exact Or.inl rfl | exact Or.inr rfl) (pe_ix (show IxR _ (rIxY K) from ix_Y) (pe_lc (own := [("row", 15)]) (g := gName 15) rfl sc_law.nd (pi_seq (pe_ix (show IxR _ (rIxY K) from ix_Y) (pv 3) pe_int (fun _ _ => rfl))) (blkOk_by (N := ["script", "pen", "turn", "world", "signs", "sort", "tree", "after", "spot", "one", "bent", "lap", "at", "way", "word", "row", "told", "other", "due", "parts", "its", "odd", "asks", "long"]) (sc := C8.fnScope (topS 67)) (by decide +kernel)) (fun _ _ _ _ _ => pg_name (i := 15) sc_law.nd rfl (Or.inl rfl)) (fun _ _ _ _ _ => pts_one (pt_cmpR (show OpR _ _ (rEqY K) from op_eqY (by exact hu)) (pe_ix (show IxR _ (rIxY K) from ix_Y) (pv 15) pe_int (fun _ _ => rfl)) (pe_lst (pa_cons (pe_ix (show IxR _ (rIxY K) from ix_Y) (pv 15) pe_int (fun _ _ => rfl)) pa_nil)) (nomark _))) (fun _ _ _ _ _ => (pe_ix (show IxR _ (rIxY K) from ix_Y) (pv 15) pe_int (fun _ _ => rfl)))) pe_int (fun _ _ => rfl))), ?_⟩
  intro D H Q so sy wv x0 x1 x2 x4 x5 x6 x7 x8 x9 x10 x11 x12 x13 x14 x15 x16 x17 x18 x19 x20 x21 x22 x23 n hw rw0 k
  have wf := w_facts hw
  obtain ⟨h1, _⟩ := w_ring _ hw
  refine ⟨_, rfl, R.ix rw0 rfl (by decide) (e := .list (sy.map rowT)) rfl fun y ry => ?_⟩
  obtain ⟨a, xs, rfl, ha, ra⟩ := seq_of ry rfl
  obtain ⟨J, sJ, wk⟩ := seq_walk (K := K) ha ra
  refine ⟨a, J, rfl, sJ, fun D2 hD2 => lc_gen (N := NP Q) ringB rowName wk hD2 n (by show (sy.map rowT).length ≤ 100000; rw [List.length_map]; have := wf.h16; omega) (fun y dd H4 hm e4 nn ry Q' q => ?_) (fun y dd H4 hm hk e4 nn ry Q' q => ?_) fun H4 ys e4 hy ry4 => ?_⟩
  · obtain ⟨ρ, hρ, rfl⟩ := List.mem_map.mp (show dd ∈ sy.map rowT from hm)
    obtain ⟨c1, c2⟩ := row_strs hw hρ
    refine ⟨_, rfl, R.ix ry rfl (by decide) (e := .list (strsD ρ.args)) rfl fun u ru => ⟨_, rfl, R.ix ry rfl (by decide) (e := .str ρ.sort) rfl fun u2 ru2 => ⟨(by show 1 ≤ sizeLine; decide), fun p hp => ?_⟩⟩⟩
    have e0 := Ex.new (o := HO.lst [u2]) hp
    have hsh : SeqAt.shaped (.list [.str ρ.sort]) = true := (shaped_strs (ss := [ρ.sort]) (by show (PyData.strOk ρ.sort && true) = true; rw [c2]; rfl)).2
    refine R.eqD (ru.ex e0) (RAll.lstR (.cons ru2 .nil) nn hp) (noDict_strs _) rfl (shaped_strs c1).2 hsh ⟨_, rfl, ?_⟩
    exact q _ e0
  · obtain ⟨ρ, _, rfl⟩ := List.mem_map.mp (show dd ∈ sy.map rowT from hm)
    exact ⟨_, rfl, R.ix ry rfl (by decide) (e := .str ρ.name) rfl fun u2 ru2 => q _ _ (Ex.refl _) ru2⟩
  · have rl : R (NP Q) H4 (.ref D2) (.list (((sy.map rowT).filter ringB).map rowName)) := .lst hy (fun z => n _ z hD2) ry4
    refine R.ix rl rfl (by decide) (first_name h1) fun v rv => ?_
    rw [rv.strv]
    exact k _ e4
theorem w25 (L : LawC P w K mg base C CB CT CI CM CP Es) (hr : Room 11 (LX P w K mg base f cdv A outer s H0 E0).A) : ∃ t, PS (LX P w K mg base f cdv A outer s H0 E0) (bT 25) t ∧
    ∀ {D : Ends} {H : Hp} {Q : Addr} {so : List Str} {sy : List SRow} {wv : V} { x0 x1 x2 x4 x5 x6 x7 x8 x9 x10 x11 x12 x13 x15 x16 x17 x18 x19 x20 x21 x22 x23 : Option V}, NOk (NP Q) H → IsW so sy → R (NP Q) H wv (worldD so sy) →
      (∀ (lv : V) (H' : Hp), Ex H H' → R (NP Q) H' lv (.list (longD sy)) → D.nx (Sg x0 x1 x2 (some (wv)) x4 x5 x6 x7 x8 x9 x10 x11 x12 x13 (some (.str (ringR sy).name)) x15 x16 x17 x18 x19 x20 x21 x22 (some (lv))) H') → t D (Sg x0 x1 x2 (some (wv)) x4 x5 x6 x7 x8 x9 x10 x11 x12 x13 (some (.str (ringR sy).name)) x15 x16 x17 x18 x19 x20 x21 x22 x23) H := by
  obtain ⟨T, S, E, KD, G__law_pen, G__law_draw, G__law_pick, G__law_world, G__law_signs, TR, G__law_behind, G__law_args, G__law_sort, G__law_is_tree, G_is_tree, G_is_tree3, KW, G_tree_sort, G_part_at, G_with_part, G_arguments_of, G_many_inner, HE, PB, PTr, PI, PM, EB, ET, EI, EM⟩ := L
  have hu := hr.units
  refine ⟨_, (ps_set (i := 23) sc_law.nd rfl (by first | exact Or.inl rfl | exact Or.inr rfl) (pe_op op_catY (pe_op op_repY (pe_lst (pa_cons (pv 14) pa_nil)) pe_int) (pe_lst (pa_cons (pe_ix (show IxR _ (rIxY K) from ix_Y) (pe_lc (own := [("row", 15)]) (g := gName 15) rfl sc_law.nd (pi_seq (pe_ix (show IxR _ (rIxY K) from ix_Y) (pv 3) pe_int (fun _ _ => rfl))) (blkOk_by (N := ["script", "pen", "turn", "world", "signs", "sort", "tree", "after", "spot", "one", "bent", "lap", "at", "way", "word", "row", "told", "other", "due", "parts", "its", "odd", "asks", "long"]) (sc := C8.fnScope (topS 67)) (by decide +kernel)) (fun _ _ _ _ _ => pg_name (i := 15) sc_law.nd rfl (Or.inl rfl)) (fun _ _ _ _ _ => pts_one (PW.pt (pw_and (pt_cmpR (show OpR _ _ (rEqY K) from op_eqY (by exact hu)) (pe_ix (show IxR _ (rIxY K) from ix_Y) (pv 15) pe_int (fun _ _ => rfl)) (pe_lst pa_nil) (nomark _)) (pw_and1 (pt_cmpR op_eq (pe_ix (show IxR _ (rIxY K) from ix_Y) (pv 15) pe_int (fun _ _ => rfl)) (C8.pe_c G__law_sort hr (by decide) (by rfl) (pa_cons (pv 3) (pa_cons (pv 14) pa_nil))) (nomark _)))))) (fun _ _ _ _ _ => (pe_ix (show IxR _ (rIxY K) from ix_Y) (pv 15) pe_int (fun _ _ => rfl)))) pe_int (fun _ _ => rfl)) pa_nil)))), ?_⟩
  intro D H Q so sy wv x0 x1 x2 x4 x5 x6 x7 x8 x9 x10 x11 x12 x13 x15 x16 x17 x18 x19 x20 x21 x22 x23 n hw rw0 k
  have wf := w_facts hw
  obtain ⟨_, h2, h3, _⟩ := w_ring _ hw
  refine ⟨_, rfl, (by show 1 ≤ sizeLine; decide), fun p1 hp1 => ?_⟩
  have e1 := Ex.new (o := HO.lst [.str (ringR sy).name]) hp1
  refine R.rep (RAll.lstR (.cons (.str _) .nil) n hp1) (n.ex e1) (by decide) (by decide) (by show 1 ≤ 100; decide) fun u2 H2 e2 r2 => ?_
  have e12 := e1.trans e2
  refine ⟨_, rfl, R.ix (rw0.ex e12) rfl (by decide) (e := .list (sy.map rowT)) rfl fun y ry => ?_⟩
  obtain ⟨a, xs, rfl, ha, ra⟩ := seq_of ry rfl
  obtain ⟨J, sJ, wk⟩ := seq_walk (K := K) ha ra
  have n2 := n.ex e12
  refine ⟨a, J, rfl, sJ, fun D2 hD2 => lc_gen (N := NP Q) (endB (ringR sy).sort) rowName wk hD2 n2 (by show (sy.map rowT).length ≤ 100000; rw [List.length_map]; have := wf.h16; omega) (fun y dd H4 hm e4 nn ry Q' q => ?_) (fun y dd H4 hm hk e4 nn ry Q' q => ?_) fun H4 ys e4 hy ry4 => ?_⟩
  · obtain ⟨ρ, hρ, rfl⟩ := List.mem_map.mp (show dd ∈ sy.map rowT from hm)
    obtain ⟨c1, c2⟩ := row_strs hw hρ
    refine ⟨_, rfl, R.ix ry rfl (by decide) (e := .list (strsD ρ.args)) rfl fun u ru => ⟨Nat.zero_le _, fun p hp => ?_⟩⟩
    have e0 := Ex.new (o := HO.lst []) hp
    refine R.eqD (ru.ex e0) (RAll.nil.lstR nn hp) (noDict_strs _) rfl (shaped_strs c1).2 rfl ⟨_, rfl, ?_⟩
    have hE : endB (ringR sy).sort (rowT ρ) = (PyData.eqv (.list (strsD ρ.args)) (.list []) && decide (ρ.sort = (ringR sy).sort)) := rfl
    rw [hE] at q
    cases hb : PyData.eqv (.list (strsD ρ.args)) (.list []) with
    | false =>
      rw [hb] at q
      exact iteF (q _ e0)
    | true =>
      rw [hb] at q
      refine iteT ⟨_, rfl, R.ix (ry.ex e0) rfl (by decide) (e := .str ρ.sort) rfl fun u3 ru3 => ⟨_, rfl, _, rfl, plus (NP Q) D2, wv, .str (ringR sy).name, so, sy, .str (ringR sy).name, (ringR sy).sort, rfl, nn.ex e0, (((rw0.ex e12).plus hD2).ex e4).ex e0, wf.h16, .str _, (by show (rowOf sy (.str (ringR sy).name)).map (·.sort) = _; rw [h3]; rfl), fun H5 e5 => ?_⟩⟩
      rw [ru3.strv]
      refine ⟨rfl, _, rfl, ?_⟩
      rw [dec_text]
      exact q _ (e0.trans e5)
  · obtain ⟨ρ, _, rfl⟩ := List.mem_map.mp (show dd ∈ sy.map rowT from hm)
    exact ⟨_, rfl, R.ix ry rfl (by decide) (e := .str ρ.name) rfl fun u2 ru2 => q _ _ (Ex.refl _) ru2⟩
  · have rl : R (NP Q) H4 (.ref D2) (.list (((sy.map rowT).filter (endB (ringR sy).sort)).map rowName)) := .lst hy (fun z => n2 _ z hD2) ry4
    refine R.ix rl rfl (by decide) (first_name h2) fun v rv => ⟨(by show 1 ≤ sizeLine; decide), fun p hp => ?_⟩
    have n4 := n2.ex e4
    have e5 := Ex.new (o := HO.lst [v]) hp
    refine R.cat ((r2.ex e4).ex e5) (RAll.lstR (.cons rv .nil) n4 hp) (n4.ex e5) (by rw [rep_flat, List.length_replicate]; show 399 + 1 ≤ 100000; decide) fun u6 H6 e6 r6 => ?_
    rw [rep_flat] at r6
    exact k _ _ (((e12.trans e4).trans e5).trans e6) r6
theorem w26 (L : LawC P w K mg base C CB CT CI CM CP Es) (hr : Room 11 (LX P w K mg base f cdv A outer s H0 E0).A) : ∃ t, PS (LX P w K mg base f cdv A outer s H0 E0) (bT 26) t ∧
    ∀ {D : Ends} {H : Hp} {Q : Addr} {so : List Str} {sy : List SRow} {z lv : V} { x0 x1 x2 x3 x5 x6 x7 x8 x9 x10 x11 x12 x13 x15 x16 x17 x18 x19 x20 x21 x22 : Option V}, NOk (NP Q) H → IsW so sy → SigAt C (NP Q) H z so sy → R (NP Q) H lv (.list (longD sy)) →
      (∀ (H' : Hp), Ex H H' → D.nx (Sg x0 x1 x2 x3 (some (z)) x5 x6 x7 x8 x9 x10 x11 x12 x13 (some (.str (ringR sy).name)) x15 x16 x17 x18 x19 x20 x21 x22 (some (lv))) H') → t D (Sg x0 x1 x2 x3 (some (z)) x5 x6 x7 x8 x9 x10 x11 x12 x13 (some (.str (ringR sy).name)) x15 x16 x17 x18 x19 x20 x21 x22 (some (lv))) H := by
  obtain ⟨T, S, E, KD, G__law_pen, G__law_draw, G__law_pick, G__law_world, G__law_signs, TR, G__law_behind, G__law_args, G__law_sort, G__law_is_tree, G_is_tree, G_is_tree3, KW, G_tree_sort, G_part_at, G_with_part, G_arguments_of, G_many_inner, HE, PB, PTr, PI, PM, EB, ET, EI, EM⟩ := L
  have hu := hr.units
  refine ⟨_, (ps_if (PW.pt (pw_or (pt_not (pt_val (C8.pe_c G_is_tree hr (by decide) (by rfl) (pa_cons (pv 4) (pa_cons (pv 23) pa_nil))))) (pw_or1 (pt_val (C8.pe_c G_is_tree hr (by decide) (by rfl) (pa_cons (pv 4) (pa_cons (pe_op op_catY (pe_lst (pa_cons (pv 14) pa_nil)) (pv 23)) pa_nil)))))))
      (pss_one (ps_ret pe_bl))
      pss_nil), ?_⟩
  intro D H Q so sy z lv x0 x1 x2 x3 x5 x6 x7 x8 x9 x10 x11 x12 x13 x15 x16 x17 x18 x19 x20 x21 x22 n hw sa rl k
  have wf := w_facts hw
  obtain ⟨t1, t2, t3⟩ := long_tree hw
  refine ⟨_, rfl, _, rfl, NP Q, z, lv, .non, so, sy, .list (longD sy), .none, rfl, n, sa, wf.h3, rl, .non, rfl, t3, fun H1 e1 => ⟨_, rfl, ?_⟩⟩
  rw [t1]
  refine iteF ⟨_, rfl, _, rfl, (by show 1 ≤ sizeLine; decide), fun p hp => ?_⟩
  have n1 := n.ex e1
  have e2 := Ex.new (o := HO.lst [.str (ringR sy).name]) hp
  refine ⟨_, rfl, R.cat (RAll.lstR (.cons (.str _) .nil) n1 hp) ((rl.ex e1).ex e2) (n1.ex e2) (by rw [long_len]; show 1 + 400 ≤ 100000; decide) fun u3 H3 e3 r3 => ?_⟩
  have e13 := (e1.trans e2).trans e3
  refine ⟨NP Q, z, u3, .non, so, sy, _, .none, rfl, n.ex e13, sa.ex' e13, wf.h3, r3, .non, rfl, ?_, fun H4 e4 => ⟨_, rfl, ?_⟩⟩
  · show ([PyData.str (ringR sy).name] ++ longD sy).all okThing = true
    rw [List.all_append, t3]
    rfl
  · rw [t2]
    exact iteF (k _ (e13.trans e4))
end
end K1
end

section
set_option Elab.async false
set_option linter.all false
set_option maxRecDepth 100000
set_option maxHeartbeats 2000000
namespace K1
open PySem L2 Rp
/-- what a turn keeps -/
structure TF (C Q : Addr) (so : List Str) (sy : List SRow) (wv z u av : V) (ws : List PyData) (H : Hp) : Prop where
  rw0 : R (NP Q) H wv (worldD so sy)
  sa : SigAt C (NP Q) H z so sy
  ru : R (NP Q) H u (.tuple ws)
  ra : R (NP Q) H av (.list ((endsI sy ws).map PyData.int))
theorem TF.mono {C Q : Addr} {so : List Str} {sy : List SRow} {wv z u av : V} {ws : List PyData} {H H' : Hp} (t : TF C Q so sy wv z u av ws H) (e : Xn (NP Q) H H') : TF C Q so sy wv z u av ws H' := ⟨t.rw0.mono e, t.sa.mono e, t.ru.mono e, t.ra.mono e⟩
section
variable {P : Program} {w : World} {K : PySem.W.Frag} {mg : Str → Option Value} {base : Heap} {f : Addr} {A : Around} {outer : List Env} {s : Shared} {H0 : Hp} {E0 : XK} {C CB CT CI CM CP : Addr} {Es : Nat → Addr} {cL Pt : Addr}
/-- the statements of a turn -/
def bAll : List Stmt := forB ((C8.fnBody (topS 67)).getD 1 (.Pass ⟨0, 0, 0, 0⟩))
theorem body_is : bAll = [bT 0, bT 1, bT 2, bT 3, bT 4, bT 5, bT 6, bT 7, bT 8, bT 9, bT 10, bT 11, bT 12, bT 13, bT 14, bT 15, bT 16, bT 17, bT 18, bT 19, bT 20, bT 21, bT 22, bT 23, bT 24, bT 25, bT 26] := rfl
theorem turn (L : LawC P w K mg base C CB CT CI CM CP Es) (TB : LamX.TabB base mg cL Pt) (hr : Room 11 (LX P w K mg base f (.ref cL) A outer s H0 E0).A) : ∃ t, PSs (LX P w K mg base f (.ref cL) A outer s H0 E0) bAll t ∧
    ∀ {D : Ends} {H : Hp} {Q C0 : Addr} {ns : List Int} {n : Nat} { x0 x2 x3 x4 x5 x6 x7 x8 x9 x10 x11 x12 x13 x14 x15 x16 x17 x18 x19 x20 x21 x22 x23 : Option V}, Pen Q C0 ns (n + 263) H → LamX.Tabs (tab0 Pt) H →
      (∀ (y3 y4 y5 y6 y7 y8 y9 y10 y11 y12 y13 y14 y15 y16 y17 y18 y19 y20 y21 y22 y23 : Option V) (H' : Hp), Pen Q C0 ns n H' → LamX.Tabs (tab0 Pt) H' → Xn (NP Q) H H' → D.nx (Sg x0 (some (.ref Q)) x2 y3 y4 y5 y6 y7 y8 y9 y10 y11 y12 y13 y14 y15 y16 y17 y18 y19 y20 y21 y22 y23) H') →
      t D (Sg x0 (some (.ref Q)) x2 x3 x4 x5 x6 x7 x8 x9 x10 x11 x12 x13 x14 x15 x16 x17 x18 x19 x20 x21 x22 x23) H := by
  rw [body_is]
  obtain ⟨t0, h0, k0⟩ := w0 L hr
  obtain ⟨t1, h1, k1⟩ := w1 L hr
  obtain ⟨t2, h2, k2⟩ := w2 L hr
  obtain ⟨t3, h3, k3⟩ := w3 L hr
  obtain ⟨t4, h4, k4⟩ := w4 L hr
  obtain ⟨t5, h5, k5⟩ := w5 L hr
  obtain ⟨t6, h6, k6⟩ := w6 L hr
  obtain ⟨t7, h7, k7⟩ := w7 L hr
  obtain ⟨t8, h8, k8⟩ := w8 L hr
  obtain ⟨t9, h9, k9⟩ := w9 L hr
  obtain ⟨t10, h10, k10⟩ := w10 L TB hr
  obtain ⟨t11, h11, k11⟩ := w11 L hr
  obtain ⟨t12, h12, k12⟩ := w12 L hr
  obtain ⟨t13, h13, k13⟩ := w13 L hr
  obtain ⟨t14, h14, k14⟩ := w14 L hr
  obtain ⟨t15, h15, k15⟩ := w15 L TB hr
  obtain ⟨t16, h16, k16⟩ := w16 L hr
  obtain ⟨t17, h17, k17⟩ := w17 L hr
  obtain ⟨t18, h18, k18⟩ := w18 L hr
  obtain ⟨t19, h19, k19⟩ := w19 L hr
  obtain ⟨t20, h20, k20⟩ := w20 L TB hr
  obtain ⟨t21, h21, k21⟩ := w21 L TB hr
  obtain ⟨t22, h22, k22⟩ := w22 L TB hr
  obtain ⟨t23, h23, k23⟩ := w23 L hr
  obtain ⟨t24, h24, k24⟩ := w24 L hr
  obtain ⟨t25, h25, k25⟩ := w25 L hr
  obtain ⟨t26, h26, k26⟩ := w26 L hr
  refine ⟨_, pss_cons h0 (pss_cons h1 (pss_cons h2 (pss_cons h3 (pss_cons h4 (pss_cons h5 (pss_cons h6 (pss_cons h7 (pss_cons h8 (pss_cons h9 (pss_cons h10 (pss_cons h11 (pss_cons h12 (pss_cons h13 (pss_cons h14 (pss_cons h15 (pss_cons h16 (pss_cons h17 (pss_cons h18 (pss_cons h19 (pss_cons h20 (pss_cons h21 (pss_cons h22 (pss_cons h23 (pss_cons h24 (pss_cons h25 (pss_one h26)))))))))))))))))))))))))), ?_⟩
  intro D H Q C0 ns n x0 x2 x3 x4 x5 x6 x7 x8 x9 x10 x11 x12 x13 x14 x15 x16 x17 x18 x19 x20 x21 x22 x23 p T kk
  refine k0 (n := n + 262) p fun so sy wv H0 hw p0 z0 rw0 => ?_
  have wf := w_facts hw
  refine k1 (n := n + 261) p0 hw rw0 fun z so1 H1 hm p1 z1 sa => ?_
  refine k2 (n := n + 18) p1 hw (rw0.mono (z1.xn (N := NP Q) rfl)) hm fun u ws H2 g p2 z2 ru => ?_
  have rw2 := (rw0.mono (z1.xn (N := NP Q) rfl)).mono (z2.xn (N := NP Q) rfl)
  refine k3 (n := n + 17) p2 hw rw2 ru g fun av j H3 hj p3 z3 ra => ?_
  have F3 : TF C Q so sy wv z u av ws H3 := ⟨rw2.mono (z3.xn (N := NP Q) rfl), (sa.mono (z2.xn (N := NP Q) rfl)).mono (z3.xn (N := NP Q) rfl), ru.mono (z3.xn (N := NP Q) rfl), ra⟩
  have tw := grown_w g
  have T3 := Pen_tabs (Pen_tabs (Pen_tabs (Pen_tabs T p z0) p0 z1) p1 z2) p2 z3
  have X3 : Xn (NP Q) H H3 := (((z0.trans z1).trans z2).trans z3).xn (N := NP Q) rfl
  refine k4 p3.nok hw F3.rw0 F3.sa hm F3.ru g fun H4 e4 => k5 (p3.nok.ex e4) hw (F3.mono e4.xn).sa (F3.mono e4.xn).ru g (F3.mono e4.xn).ra hj fun H5 e5 => ?_
  have e45 := e4.trans e5
  have F5 := F3.mono e45.xn
  have p5 := p3.ex e45
  refine k6 p5.nok F5.ru fun b H6 e6 rb => ?_
  have F6 := F5.mono e6.xn
  have p6 := p5.ex e6
  have T6 := T3.ext (e45.trans e6)
  have X6 := X3.trans (e45.trans e6).xn
  refine k7 (n := n + 10) p6 hw F6.rw0 rb (plain_law g.plain) g.few fun b7 bs7 y11 y12 y13 y14 y15 H7 hlw hbl p7 z7 rb7 => ?_
  have F7 := F6.mono (z7.xn (N := NP Q) rfl)
  have T7 := Pen_tabs T6 p6 z7
  have X7 := X6.trans (z7.xn (N := NP Q) rfl)
  refine k8 p7.nok hw F7.rw0 rb7 hlw hbl fun H8 e8 => ?_
  have F8 := F7.mono e8.xn
  refine k9 (p7.nok.ex e8) hw F8.rw0 F8.sa hm (rb7.ex e8) hlw hbl fun H9 e9 => ?_
  have e79 := e8.trans e9
  have F9 := F7.mono e79.xn
  have p9 := p7.ex e79
  refine k10 p9 (T7.ext e79) hw F9.rw0 F9.sa (rb7.ex e79) hlw hbl fun H10 e10 T10 => ?_
  have F10 := F9.mono (extN_xn e10)
  have p10 : Pen Q C0 ns (n + 10) H10 := Pen_extN p9 e10
  have X10 := (X7.trans e79.xn).trans (extN_xn (N := NP Q) e10)
  refine k11 p10.nok hw F10.sa fun H11 e11 => ?_
  have F11 := F10.mono e11.xn
  have p11 := p10.ex e11
  have T11 := T10.ext e11
  refine k12 (n := n + 9) p11 hw F11.rw0 fun so2 H12 hm2 p12 z12 => ?_
  have F12 := F11.mono (z12.xn (N := NP Q) rfl)
  refine k13 (n := n + 1) p12 hw F12.rw0 hm2 fun o os H13 g2 hos p13 z13 ro => ?_
  have F13 := F12.mono (z13.xn (N := NP Q) rfl)
  have T13 := Pen_tabs (Pen_tabs T11 p11 z12) p12 z13
  have X13 := (X10.trans e11.xn).trans ((z12.trans z13).xn (N := NP Q) rfl)
  obtain ⟨t1, hs⟩ := tw.sort (head_at hj)
  refine k14 p13.nok hw F13.rw0 F13.ru g F13.ra hj ro hos hs fun dv H14 e14 rdv => ?_
  have F14 := F13.mono e14.xn
  have p14 := p13.ex e14
  refine k15 p14 (T13.ext e14) hw F14.sa F14.ru g hj (ro.ex e14) g2 hs rdv fun H15 e15 T15 => ?_
  have F15 := F14.mono (extN_xn e15)
  have p15 : Pen Q C0 ns (n + 1) H15 := Pen_extN p14 e15
  have X15 := (X13.trans e14.xn).trans (extN_xn (N := NP Q) e15)
  refine k16 fun W hW => k17 p15.nok hW hw F15.rw0 F15.ru g F15.ra fun y12' y20 H17 e17 rp => ?_
  have F17 := F15.mono e17.xn
  refine k18 (p15.nok.ex e17) hw F17.rw0 F17.sa F17.ru g rp fun H18 e18 => ?_
  have e1518 := e17.trans e18
  have F18 := F15.mono e1518.xn
  have p18 := p15.ex e1518
  refine k19 (n := n) p18 fun ov od H19 hod p19 z19 ro19 => ?_
  have F19 := F18.mono (z19.xn (N := NP Q) rfl)
  have T19 := Pen_tabs (T15.ext e1518) p18 z19
  have X19 := (X15.trans e1518.xn).trans (z19.xn (N := NP Q) rfl)
  refine k20 p19 T19 hw F19.sa F19.ru g ro19 hod fun v20 H20 e20 T20 r20 => ?_
  have F20 := F19.mono (extN_xn e20)
  have p20 : Pen Q C0 ns n H20 := Pen_extN p19 e20
  have ro20 := ro19.mono (extN_xn e20)
  refine k21 p20 T20 hw F20.sa F20.ru g hj ro20 hod r20 fun v21 H21 e21 T21 r21 => ?_
  have F21 := F20.mono (extN_xn e21)
  have p21 : Pen Q C0 ns n H21 := Pen_extN p20 e21
  have ro21 := ro20.mono (extN_xn e21)
  refine k22 p21 T21 hw F21.sa ro21 hod r21 fun v22 H22 e22 T22 r22 => ?_
  have F22 := F21.mono (extN_xn e22)
  have p22 : Pen Q C0 ns n H22 := Pen_extN p21 e22
  have X22 := X19.trans (extN_xn (N := NP Q) ((e20.trans e21).trans e22))
  refine k23 p22.nok r22 fun H23 e23 => k24 (p22.nok.ex e23) hw (F22.mono e23.xn).rw0 fun H24 e24 => ?_
  have e2224 := e23.trans e24
  refine k25 (p22.nok.ex e2224) hw (F22.mono e2224.xn).rw0 fun lv H25 e25 rl => ?_
  have e2225 := e2224.trans e25
  refine k26 (p22.nok.ex e2225) hw (F22.mono e2225.xn).sa rl fun H26 e26 => ?_
  have e2226 := e2225.trans e26
  exact kk _ _ _ _ _ _ _ _ _ _ _ _ _ _ _ _ _ _ _ _ _ H26 (p22.ex e2226) (T22.ext e2226) (X22.trans e2226.xn)
/-! ### law -/
def spLaw (K : PySem.W.Frag) (Pt : Addr) : Sp := fun vs H Q _ => ∃ (a : Addr) (ns : List Int), vs = [.ref a] ∧ SqL K H a (ns.map V.int) ∧ ns.length ≤ 63 ∧ H Pt = some (.tbl #[]) ∧ ∀ H', Q (.bl true) H'
theorem ok_law (L : LawC P w K mg base C CB CT CI CM CP Es) (TB : LamX.TabB base mg cL Pt) {oc dV kV doc pm ct : Value} {od an : Option Addr} {osl : Array (Option Value)}
    (lk : K.lookup f = some ⟨oc, od, .func (PySem.W.fnOf "law" "law" (C8.fnArgs (topS 67)) (C8.fnBody (topS 67)) (C8.fnScope (topS 67)) dV kV doc pm an (.ref cL) ct), osl⟩) (hcd : PySem.W.codeIn K (.ref cL) "law" = true) :
    FnOk P w K mg base C8.CX0 12 f (PySem.W.fnOf "law" "law" (C8.fnArgs (topS 67)) (C8.fnBody (topS 67)) (C8.fnScope (topS 67)) dV kV doc pm an (.ref cL) ct) ["script"] (spLaw K Pt) := by
  refine fn_of lk hcd sc_law (fun vs H Q E h => by obtain ⟨a, ns, rfl, _⟩ := h; rfl) fun A outer s H vs Q E hr h => ?_
  suffices hh : ∃ t, PSs (LX P w K mg base f (.ref cL) A outer s H C8.E0) (C8.fnBody (topS 67)) t ∧ t { nx := fun _ H' => Q .non H', rt := Q } (start NL vs) H by
    obtain ⟨t, h1, h2⟩ := hh
    exact ⟨t, h1.nox, h2⟩
  obtain ⟨a, ns, rfl, hs, hl, ht, k⟩ := h
  have hr : Room 11 (LX P w K mg base f (.ref cL) A outer s H C8.E0).A := hr
  obtain ⟨tb, hb, kb⟩ := turn L TB hr
  obtain ⟨T, S, E, KD, G__law_pen, G__law_draw, G__law_pick, G__law_world, G__law_signs, TR, G__law_behind, G__law_args, G__law_sort, G__law_is_tree, G_is_tree, G_is_tree3, KW, G_tree_sort, G_part_at, G_with_part, G_arguments_of, G_many_inner, HE, PB, PTr, PI, PM, EB, ET, EI, EM⟩ := L
  have hu := hr.units
  refine ⟨_, pss_cons (ps_set (i := 1) sc_law.nd rfl (by first | exact Or.inl rfl | exact Or.inr rfl) (C8.pe_c G__law_pen hr (by decide) (by rfl) (pa_cons (pv 0) pa_nil))) (pss_cons (ps_for PassesOwn.never rfl (pi_range1 (by rfl) T.range (pa_cons pe_int pa_nil)) (pg_name (i := 2) sc_law.nd rfl (Or.inl rfl)) hb) (pss_one (ps_ret pe_bl))), ?_⟩
  refine ⟨_, rfl, a, ns, rfl, hs, hl, fun Q0 C0 H1 e1 p1 => ⟨3, rfl, by decide, by decide, ?_⟩⟩
  have T1 : LamX.Tabs (tab0 Pt) H1 := fun p hp => by
    cases List.mem_singleton.mp hp
    exact LamX.TabS.nil (e1 _ _ ht)
  refine for_data (N := NP Q0) (ds := rangeD 0 3) (fun j σ H' => ∃ y2 y3 y4 y5 y6 y7 y8 y9 y10 y11 y12 y13 y14 y15 y16 y17 y18 y19 y20 y21 y22 y23 : Option V, σ = (Sg (some (.ref a)) (some (.ref Q0)) y2 y3 y4 y5 y6 y7 y8 y9 y10 y11 y12 y13 y14 y15 y16 y17 y18 y19 y20 y21 y22 y23) ∧ Pen Q0 C0 ns (1000000 - 263 * j) H' ∧ LamX.Tabs (tab0 Pt) H' ∧ Xn (NP Q0) H1 H') wkx_range ?_ ?_ ?_ ?_
  · exact ⟨_, _, _, _, _, _, _, _, _, _, _, _, _, _, _, _, _, _, _, _, _, _, rfl, p1, T1, (Ex.refl H1).xn⟩
  · rintro i σ H' ⟨_, _, _, _, _, _, _, _, _, _, _, _, _, _, _, _, _, _, _, _, _, _, _, _, _, x⟩
    exact x
  · rintro i x d σ H2 hd ⟨y2, y3, y4, y5, y6, y7, y8, y9, y10, y11, y12, y13, y14, y15, y16, y17, y18, y19, y20, y21, y22, y23, rfl, p2, T2, x2⟩ rx
    have hi : i < 3 := (List.getElem?_eq_some_iff.mp hd).1
    have p2' : Pen Q0 C0 ns ((1000000 - 263 * (i + 1)) + 263) H2 := p2.le (by omega)
    show tb _ (Sg (some (.ref a)) (some (.ref Q0)) (some (x)) y3 y4 y5 y6 y7 y8 y9 y10 y11 y12 y13 y14 y15 y16 y17 y18 y19 y20 y21 y22 y23) H2
    exact kb p2' T2 fun y3 y4 y5 y6 y7 y8 y9 y10 y11 y12 y13 y14 y15 y16 y17 y18 y19 y20 y21 y22 y23 H3 p3 T3 x3 => ⟨_, _, _, _, _, _, _, _, _, _, _, _, _, _, _, _, _, _, _, _, _, _, rfl, p3, T3, x2.trans x3⟩
  · rintro σ H' ⟨y2, y3, y4, y5, y6, y7, y8, y9, y10, y11, y12, y13, y14, y15, y16, y17, y18, y19, y20, y21, y22, y23, rfl, p2, T2, x2⟩
    exact k H'
end
end K1
end

section
set_option Elab.async false
set_option linter.all false
set_option maxRecDepth 100000
set_option maxHeartbeats 2000000
namespace K1
open PySem L2 Rp
def strKeysB (es : Array DictEntry) : Bool := es.all fun e => match e.key with
  | .str _ _ => true
  | _ => false
theorem strKeys_of {es : Array DictEntry} (h : strKeysB es = true) : StrKeys es := fun e he => by
  have h2 := Array.all_eq_true'.mp h e he
  revert h2
  cases e.key with
  | str n t => exact fun _ => ⟨n, t, rfl⟩
  | _ => exact fun z => by cases z
theorem vals_getD {vs : List V} {us : List Value} (r : Vals vs us) : ∀ i, RelV (vs.getD i .non) (us.getD i .none) := by
  induction r with
  | nil => exact fun i => rfl
  | cons h t ih =>
    intro i
    cases i with
    | zero => exact h
    | succ i => exact ih i
section
variable {K : PySem.W.Frag}
theorem kit_self (C : Addr) : PySem.W.kitOne K (.ref C) (.ref C) = some true := by
  show (if (Value.ref C == Value.ref C) = true then some true else _) = some true
  rw [if_pos (beq_self_eq_true _)]
theorem kit_noV {v : Value} {D : Addr} (h1 : PySem.W.isClsIn K D = true) (h2 : PySem.W.typeIn K (.ref D) = some (.type "type")) (h3 : PySem.W.subIn K v (.ref D) = some false) (ne : (v == Value.ref D) = false) : PySem.W.kitOne K v (.ref D) = some false := by
  have e2 : ((PySem.W.clsIn K D).isSome && PySem.W.typeIn K (.ref D) == some (.type "type")) = true := by
    have h1' : (PySem.W.clsIn K D).isSome = true := h1
    rw [h1', h2] <;> rfl
  show (if (v == Value.ref D) = true then some true else if ((PySem.W.clsIn K D).isSome && PySem.W.typeIn K (.ref D) == some (.type "type")) = true then PySem.W.subIn K v (.ref D) else none) = some false
  rw [if_neg (by rw [ne]; exact Bool.false_ne_true), if_pos e2]
  exact h3
theorem kit_no {C D : Addr} (h1 : PySem.W.isClsIn K D = true) (h2 : PySem.W.typeIn K (.ref D) = some (.type "type")) (h3 : PySem.W.subIn K (.ref C) (.ref D) = some false) (ne : (Value.ref C == Value.ref D) = false) : PySem.W.kitOne K (.ref C) (.ref D) = some false := kit_noV h1 h2 h3 ne
theorem words_number (Es : Nat → Addr) : (((pairsD (fun w => decide (w = "number")) (ws1 Es) ++ pairsD (fun w => decide (w = "number")) (ws2 Es)) ++ pairsD (fun w => decide (w = "number")) (ws3 Es)).filter keepB).map firstD = [.str "number"] := by
  have h : pairsD (fun w => decide (w = "number")) (ws1 Es) = pairsD (fun w => decide (w = "number")) (ws1 fun _ => 0) := rfl
  have h2 : pairsD (fun w => decide (w = "number")) (ws2 Es) = pairsD (fun w => decide (w = "number")) (ws2 fun _ => 0) := rfl
  have h3 : pairsD (fun w => decide (w = "number")) (ws3 Es) = pairsD (fun w => decide (w = "number")) (ws3 fun _ => 0) := rfl
  rw [h, h2, h3]
  kernel_rfl
theorem words_signs (Es : Nat → Addr) : (((pairsD (fun w => decide (w = "signs")) (ws1 Es) ++ pairsD (fun w => decide (w = "signs")) (ws2 Es)) ++ pairsD (fun w => decide (w = "signs")) (ws3 Es)).filter keepB).map firstD = [.str "signs"] := by
  have h : pairsD (fun w => decide (w = "signs")) (ws1 Es) = pairsD (fun w => decide (w = "signs")) (ws1 fun _ => 0) := rfl
  have h2 : pairsD (fun w => decide (w = "signs")) (ws2 Es) = pairsD (fun w => decide (w = "signs")) (ws2 fun _ => 0) := rfl
  have h3 : pairsD (fun w => decide (w = "signs")) (ws3 Es) = pairsD (fun w => decide (w = "signs")) (ws3 fun _ => 0) := rfl
  rw [h, h2, h3]
  kernel_rfl
theorem words_tree (Es : Nat → Addr) : (((pairsD (fun w => decide (w = "tree")) (ws1 Es) ++ pairsD (fun w => decide (w = "tree")) (ws2 Es)) ++ pairsD (fun w => decide (w = "tree")) (ws3 Es)).filter keepB).map firstD = [.str "tree"] := by
  have h : pairsD (fun w => decide (w = "tree")) (ws1 Es) = pairsD (fun w => decide (w = "tree")) (ws1 fun _ => 0) := rfl
  have h2 : pairsD (fun w => decide (w = "tree")) (ws2 Es) = pairsD (fun w => decide (w = "tree")) (ws2 fun _ => 0) := rfl
  have h3 : pairsD (fun w => decide (w = "tree")) (ws3 Es) = pairsD (fun w => decide (w = "tree")) (ws3 fun _ => 0) := rfl
  rw [h, h2, h3]
  kernel_rfl
theorem words_misfit (Es : Nat → Addr) : (((pairsD (fun w => decide (w = "misfit")) (ws1 Es) ++ pairsD (fun w => decide (w = "misfit")) (ws2 Es)) ++ pairsD (fun w => decide (w = "misfit")) (ws3 Es)).filter keepB).map firstD = [.str "misfit"] := by
  have h : pairsD (fun w => decide (w = "misfit")) (ws1 Es) = pairsD (fun w => decide (w = "misfit")) (ws1 fun _ => 0) := rfl
  have h2 : pairsD (fun w => decide (w = "misfit")) (ws2 Es) = pairsD (fun w => decide (w = "misfit")) (ws2 fun _ => 0) := rfl
  have h3 : pairsD (fun w => decide (w = "misfit")) (ws3 Es) = pairsD (fun w => decide (w = "misfit")) (ws3 fun _ => 0) := rfl
  rw [h, h2, h3]
  kernel_rfl
theorem exm_of {C D : Addr} (h0 : PySem.W.subIn K (.ref D) (.type "BaseException") = some true) (h1 : PySem.W.isClsIn K D = true) (h2 : PySem.W.typeIn K (.ref D) = some (.type "type")) (h3 : PySem.W.subIn K (.ref C) (.ref D) = some true) : PySem.W.exmOne K (.ref C) (.ref D) = some true := by
  have e1 : (PySem.W.subIn K (.ref D) (.type "BaseException") == some true) = true := by rw [h0] <;> rfl
  have e2 : ((PySem.W.clsIn K D).isSome && PySem.W.typeIn K (.ref D) == some (.type "type")) = true := by
    have h1' : (PySem.W.clsIn K D).isSome = true := h1
    rw [h1', h2] <;> rfl
  show (if (PySem.W.subIn K (.ref D) (.type "BaseException") == some true) = true then (if ((PySem.W.clsIn K D).isSome && PySem.W.typeIn K (.ref D) == some (.type "type")) = true then PySem.W.subIn K (.ref C) (.ref D) else none) else none) = some true
  rw [if_pos e1, if_pos e2]
  exact h3
theorem calAt_of {P : Program} {w : World} {mg : Str → Option Value} {base : Heap} {k : Nat} {x : Str} {sp : Sp} {f : Addr} (c : C8.Cal P w K mg base k x sp []) (m : mg x = some (.ref f)) : C8.CalAt P w K mg base k f sp := by
  obtain ⟨f', fd, ps, ds, F, m', kp, b, r⟩ := c.ex
  have e := m.symm.trans m'
  cases e
  cases r
  exact ⟨fd, ps, F, kp, b⟩
end
theorem kw_pos (T : Addr) (kV doc pm cdv ct : Value) (an : Option Addr) (a b c : Value) : bindArgs (PySem.W.fnOf "is_tree" "is_tree" (C8.fnArgs (topS 47)) (C8.fnBody (topS 47)) (C8.fnScope (topS 47)) (.ref T) kV doc pm an cdv ct) ⟨[a], [("value", b), ("sort", c)]⟩ = bindArgs (PySem.W.fnOf "is_tree" "is_tree" (C8.fnArgs (topS 47)) (C8.fnBody (topS 47)) (C8.fnScope (topS 47)) (.ref T) kV doc pm an cdv ct) ⟨[a, b, c], []⟩ := by
  kernel_rfl
theorem kw_two (T : Addr) (kV doc pm cdv ct : Value) (an : Option Addr) (a b c : Value) : ∃ k, bindArgs (PySem.W.fnOf "is_tree" "is_tree" (C8.fnArgs (topS 47)) (C8.fnBody (topS 47)) (C8.fnScope (topS 47)) (.ref T) kV doc pm an cdv ct) ⟨[a, b, c], []⟩ = seqItems? (.ref T) >>= k ∧ k (some #[.none]) = pure ((["signs", "value", "sort"] : List Str).zip [a, b, c]) := ⟨_, rfl, rfl⟩
theorem all_mk {w : World} {K : PySem.W.Frag} {mg : Str → Option Value} {fa : Addr} {hp : Heap} (X : K.In hp) (G : hp.Ns mainGlobals mg) (hfa : mg "law" = some (.ref fa))
    {f_is_integer : Addr} {oc_is_integer kV_is_integer dc_is_integer pm_is_integer cd_is_integer ct_is_integer : Value} {od_is_integer an_is_integer : Option Addr} {sl_is_integer : Array (Option Value)} {f_is_within : Addr} {oc_is_within kV_is_within dc_is_within pm_is_within cd_is_within ct_is_within : Value}
    {od_is_within an_is_within : Option Addr} {sl_is_within : Array (Option Value)} {f_is_listed : Addr} {oc_is_listed kV_is_listed dc_is_listed pm_is_listed cd_is_listed ct_is_listed : Value} {od_is_listed an_is_listed : Option Addr} {sl_is_listed : Array (Option Value)}
    {f_is_row : Addr} {oc_is_row kV_is_row dc_is_row pm_is_row cd_is_row ct_is_row : Value} {od_is_row an_is_row : Option Addr} {sl_is_row : Array (Option Value)} {f_is_name : Addr} {oc_is_name kV_is_name dc_is_name pm_is_name cd_is_name ct_is_name : Value}
    {od_is_name an_is_name : Option Addr} {sl_is_name : Array (Option Value)} {f_are_names : Addr} {oc_are_names kV_are_names dc_are_names pm_are_names cd_are_names ct_are_names : Value} {od_are_names an_are_names : Option Addr} {sl_are_names : Array (Option Value)}
    {f_need_integer : Addr} {oc_need_integer kV_need_integer dc_need_integer pm_need_integer cd_need_integer ct_need_integer : Value} {od_need_integer an_need_integer : Option Addr} {sl_need_integer : Array (Option Value)} {f_fixed : Addr} {oc_fixed kV_fixed dc_fixed pm_fixed cd_fixed ct_fixed : Value}
    {od_fixed an_fixed : Option Addr} {sl_fixed : Array (Option Value)} {f_is_symbol : Addr} {oc_is_symbol kV_is_symbol dc_is_symbol pm_is_symbol cd_is_symbol ct_is_symbol : Value} {od_is_symbol an_is_symbol : Option Addr} {sl_is_symbol : Array (Option Value)}
    {f_are_symbols : Addr} {oc_are_symbols kV_are_symbols dc_are_symbols pm_are_symbols cd_are_symbols ct_are_symbols : Value} {od_are_symbols an_are_symbols : Option Addr} {sl_are_symbols : Array (Option Value)} {f_need_signs : Addr} {oc_need_signs kV_need_signs dc_need_signs pm_need_signs cd_need_signs ct_need_signs : Value}
    {od_need_signs an_need_signs : Option Addr} {sl_need_signs : Array (Option Value)} {f_is_thing : Addr} {oc_is_thing kV_is_thing dc_is_thing pm_is_thing cd_is_thing ct_is_thing : Value} {od_is_thing an_is_thing : Option Addr} {sl_is_thing : Array (Option Value)}
    {f_arity : Addr} {oc_arity kV_arity dc_arity pm_arity cd_arity ct_arity : Value} {od_arity an_arity : Option Addr} {sl_arity : Array (Option Value)} {f_sort_at : Addr} {oc_sort_at kV_sort_at dc_sort_at pm_sort_at cd_sort_at ct_sort_at : Value}
    {od_sort_at an_sort_at : Option Addr} {sl_sort_at : Array (Option Value)} {f_behind : Addr} {oc_behind kV_behind dc_behind pm_behind cd_behind ct_behind : Value} {od_behind an_behind : Option Addr} {sl_behind : Array (Option Value)}
    {f_subtree : Addr} {oc_subtree kV_subtree dc_subtree pm_subtree cd_subtree ct_subtree : Value} {od_subtree an_subtree : Option Addr} {sl_subtree : Array (Option Value)} {f_replaced : Addr} {oc_replaced kV_replaced dc_replaced pm_replaced cd_replaced ct_replaced : Value}
    {od_replaced an_replaced : Option Addr} {sl_replaced : Array (Option Value)} {f_parts_of : Addr} {oc_parts_of kV_parts_of dc_parts_of pm_parts_of cd_parts_of ct_parts_of : Value} {od_parts_of an_parts_of : Option Addr} {sl_parts_of : Array (Option Value)}
    {f_inner_nodes : Addr} {oc_inner_nodes kV_inner_nodes dc_inner_nodes pm_inner_nodes cd_inner_nodes ct_inner_nodes : Value} {od_inner_nodes an_inner_nodes : Option Addr} {sl_inner_nodes : Array (Option Value)} {f_fits : Addr} {oc_fits kV_fits dc_fits pm_fits cd_fits ct_fits : Value}
    {od_fits an_fits : Option Addr} {sl_fits : Array (Option Value)} {f_is_told : Addr} {oc_is_told kV_is_told dc_is_told pm_is_told cd_is_told ct_is_told : Value} {od_is_told an_is_told : Option Addr} {sl_is_told : Array (Option Value)}
    {f_is_tree : Addr} {oc_is_tree kV_is_tree dc_is_tree pm_is_tree cd_is_tree ct_is_tree : Value} {od_is_tree an_is_tree : Option Addr} {sl_is_tree : Array (Option Value)} {T_is_tree : Addr} {ocT_is_tree : Value}
    {odT_is_tree : Option Addr} {slT_is_tree : Array (Option Value)} {nT_is_tree : Nat} {f_need_tree : Addr} {oc_need_tree kV_need_tree dc_need_tree pm_need_tree cd_need_tree ct_need_tree : Value} {od_need_tree an_need_tree : Option Addr}
    {sl_need_tree : Array (Option Value)} {T_need_tree : Addr} {ocT_need_tree : Value} {odT_need_tree : Option Addr} {slT_need_tree : Array (Option Value)} {nT_need_tree : Nat}
    {tk0_need_tree : Tok} {f_tree_sort : Addr} {oc_tree_sort kV_tree_sort dc_tree_sort pm_tree_sort cd_tree_sort ct_tree_sort : Value} {od_tree_sort an_tree_sort : Option Addr} {sl_tree_sort : Array (Option Value)} {f_part_at : Addr}
    {oc_part_at kV_part_at dc_part_at pm_part_at cd_part_at ct_part_at : Value} {od_part_at an_part_at : Option Addr} {sl_part_at : Array (Option Value)} {f_with_part : Addr} {oc_with_part kV_with_part dc_with_part pm_with_part cd_with_part ct_with_part : Value} {od_with_part an_with_part : Option Addr}
    {sl_with_part : Array (Option Value)} {f_arguments_of : Addr} {oc_arguments_of kV_arguments_of dc_arguments_of pm_arguments_of cd_arguments_of ct_arguments_of : Value} {od_arguments_of an_arguments_of : Option Addr} {sl_arguments_of : Array (Option Value)} {f_many_inner : Addr}
    {oc_many_inner kV_many_inner dc_many_inner pm_many_inner cd_many_inner ct_many_inner : Value} {od_many_inner an_many_inner : Option Addr} {sl_many_inner : Array (Option Value)} {f__law_pen : Addr} {oc__law_pen kV__law_pen dc__law_pen pm__law_pen cd__law_pen ct__law_pen : Value} {od__law_pen an__law_pen : Option Addr}
    {sl__law_pen : Array (Option Value)} {f__law_draw : Addr} {oc__law_draw kV__law_draw dc__law_draw pm__law_draw cd__law_draw ct__law_draw : Value} {od__law_draw an__law_draw : Option Addr} {sl__law_draw : Array (Option Value)} {f__law_pick : Addr}
    {oc__law_pick kV__law_pick dc__law_pick pm__law_pick cd__law_pick ct__law_pick : Value} {od__law_pick an__law_pick : Option Addr} {sl__law_pick : Array (Option Value)} {f__law_heard : Addr} {oc__law_heard kV__law_heard dc__law_heard pm__law_heard cd__law_heard ct__law_heard : Value} {od__law_heard an__law_heard : Option Addr}
    {sl__law_heard : Array (Option Value)} {f__law_world : Addr} {oc__law_world kV__law_world dc__law_world pm__law_world cd__law_world ct__law_world : Value} {od__law_world an__law_world : Option Addr} {sl__law_world : Array (Option Value)} {f__law_signs : Addr}
    {oc__law_signs kV__law_signs dc__law_signs pm__law_signs cd__law_signs ct__law_signs : Value} {od__law_signs an__law_signs : Option Addr} {sl__law_signs : Array (Option Value)} {f__law_args : Addr} {oc__law_args kV__law_args dc__law_args pm__law_args cd__law_args ct__law_args : Value} {od__law_args an__law_args : Option Addr}
    {sl__law_args : Array (Option Value)} {f__law_sort : Addr} {oc__law_sort kV__law_sort dc__law_sort pm__law_sort cd__law_sort ct__law_sort : Value} {od__law_sort an__law_sort : Option Addr} {sl__law_sort : Array (Option Value)} {f__law_behind : Addr}
    {oc__law_behind kV__law_behind dc__law_behind pm__law_behind cd__law_behind ct__law_behind : Value} {od__law_behind an__law_behind : Option Addr} {sl__law_behind : Array (Option Value)} {f__law_tree : Addr} {oc__law_tree kV__law_tree dc__law_tree pm__law_tree cd__law_tree ct__law_tree : Value} {od__law_tree an__law_tree : Option Addr}
    {sl__law_tree : Array (Option Value)} {f__law_is_tree : Addr} {oc__law_is_tree kV__law_is_tree dc__law_is_tree pm__law_is_tree cd__law_is_tree ct__law_is_tree : Value} {od__law_is_tree an__law_is_tree : Option Addr} {sl__law_is_tree : Array (Option Value)} {fL cL Pt : Addr}
    {ocL kVL dcL pmL ctL occ : Value} {odL anL odc : Option Addr} {slL slc : Array (Option Value)} {vsc : Array Value} {C : Addr} {g___init__ : Addr}
    {oc_m__init__ kV_m__init__ dc_m__init__ pm_m__init__ cd_m__init__ ct_m__init__ : Value} {od_m__init__ an_m__init__ : Option Addr} {sl_m__init__ : Array (Option Value)} {g_need_symbol : Addr} {oc_mneed_symbol kV_mneed_symbol dc_mneed_symbol pm_mneed_symbol cd_mneed_symbol ct_mneed_symbol : Value} {od_mneed_symbol an_mneed_symbol : Option Addr}
    {sl_mneed_symbol : Array (Option Value)} {g_arguments : Addr} {oc_marguments kV_marguments dc_marguments pm_marguments cd_marguments ct_marguments : Value} {od_marguments an_marguments : Option Addr} {sl_marguments : Array (Option Value)} {g_sort_of : Addr}
    {oc_msort_of kV_msort_of dc_msort_of pm_msort_of cd_msort_of ct_msort_of : Value} {od_msort_of an_msort_of : Option Addr} {sl_msort_of : Array (Option Value)} {CP e0 e1 e2 e3 e4 e5 e6 e7 e8 e9 e10 e11 e12 : Addr} {nmX0 qX0 qlX0 : Str} {NX0 fIX0 ccX0 cdaX0 : Addr}
    {bsX0 bmX0 subX0 : List Value} {snX0 : List Str} {abX0 : Bool} {colX0 : Option Bool} {ddX0 cldX0 cddX0 odX0 anX0 : Option Addr} {q0X0 q1X0 q2X0 q3X0 q5X0 : Option Value}
    {clX0 cclX0 ocX0 dcX0 pmX0 ctX0 : Value} {cslX0 ccsX0 slX0 : Array (Option Value)} {vsX0 : Array Value} {flX0 : Str} {tfX0 : Tok} {p1X0 p2X0 p3X0 p4X0 p5X0 p6X0 : Pos}
    {stX0 : Stmt} {nmX2 qX2 qlX2 : Str} {NX2 fIX2 ccX2 cdaX2 : Addr} {bsX2 bmX2 subX2 : List Value} {snX2 : List Str} {abX2 : Bool}
    {colX2 : Option Bool} {ddX2 cldX2 cddX2 odX2 anX2 : Option Addr} {q0X2 q1X2 q2X2 q3X2 q5X2 : Option Value} {clX2 cclX2 ocX2 dcX2 pmX2 ctX2 : Value} {cslX2 ccsX2 slX2 : Array (Option Value)} {vsX2 : Array Value}
    {flX2 : Str} {tfX2 : Tok} {p1X2 p2X2 p3X2 p4X2 p5X2 p6X2 : Pos} {stX2 : Stmt} {nmX3 qX3 qlX3 : Str} {NX3 fIX3 ccX3 cdaX3 : Addr}
    {bsX3 bmX3 subX3 : List Value} {snX3 : List Str} {abX3 : Bool} {colX3 : Option Bool} {ddX3 cldX3 cddX3 odX3 anX3 : Option Addr} {q0X3 q1X3 q2X3 q3X3 q5X3 : Option Value}
    {clX3 cclX3 ocX3 dcX3 pmX3 ctX3 : Value} {cslX3 ccsX3 slX3 : Array (Option Value)} {vsX3 : Array Value} {flX3 : Str} {tfX3 : Tok} {p1X3 p2X3 p3X3 p4X3 p5X3 p6X3 : Pos}
    {stX3 : Stmt} {nmX10 qX10 qlX10 : Str} {NX10 fIX10 ccX10 cdaX10 : Addr} {bsX10 bmX10 subX10 : List Value} {snX10 : List Str} {abX10 : Bool}
    {colX10 : Option Bool} {ddX10 cldX10 cddX10 odX10 anX10 : Option Addr} {q0X10 q1X10 q2X10 q3X10 q5X10 : Option Value} {clX10 cclX10 ocX10 dcX10 pmX10 ctX10 : Value} {cslX10 ccsX10 slX10 : Array (Option Value)} {vsX10 : Array Value}
    {flX10 : Str} {tfX10 : Tok} {p1X10 p2X10 p3X10 p4X10 p5X10 p6X10 : Pos} {stX10 : Stmt} {nmX9 qX9 qlX9 : Str} {NX9 fIX9 ccX9 cdaX9 : Addr}
    {bsX9 bmX9 subX9 : List Value} {snX9 : List Str} {abX9 : Bool} {colX9 : Option Bool} {ddX9 cldX9 cddX9 odX9 anX9 : Option Addr} {q0X9 q1X9 q2X9 q3X9 q5X9 : Option Value}
    {clX9 cclX9 ocX9 dcX9 pmX9 ctX9 : Value} {cslX9 ccsX9 slX9 : Array (Option Value)} {vsX9 : Array Value} {flX9 : Str} {tfX9 : Tok} {p1X9 p2X9 p3X9 p4X9 p5X9 p6X9 : Pos}
    {stX9 : Stmt} {t1 t2 t3 t4 : Tok} {t_MOST_WORDS : Tok}
    (a_is_integer : PySem.W.nsIn K mainGlobals "is_integer" = some (some (.ref f_is_integer)))
    (l_is_integer : K.lookup f_is_integer = some ⟨oc_is_integer, od_is_integer, .func (PySem.W.fnOf "is_integer" "is_integer" (C8.fnArgs (topS 18)) (C8.fnBody (topS 18)) (C8.fnScope (topS 18)) .none kV_is_integer dc_is_integer pm_is_integer an_is_integer cd_is_integer ct_is_integer), sl_is_integer⟩)
    (c_is_integer : PySem.W.codeIn K cd_is_integer "is_integer" = true)
    (k_is_integer : PySem.W.keepIn K (.ref f_is_integer) = true)
    (a_is_within : PySem.W.nsIn K mainGlobals "is_within" = some (some (.ref f_is_within)))
    (l_is_within : K.lookup f_is_within = some ⟨oc_is_within, od_is_within, .func (PySem.W.fnOf "is_within" "is_within" (C8.fnArgs (topS 19)) (C8.fnBody (topS 19)) (C8.fnScope (topS 19)) .none kV_is_within dc_is_within pm_is_within an_is_within cd_is_within ct_is_within), sl_is_within⟩)
    (c_is_within : PySem.W.codeIn K cd_is_within "is_within" = true)
    (k_is_within : PySem.W.keepIn K (.ref f_is_within) = true)
    (a_is_listed : PySem.W.nsIn K mainGlobals "is_listed" = some (some (.ref f_is_listed)))
    (l_is_listed : K.lookup f_is_listed = some ⟨oc_is_listed, od_is_listed, .func (PySem.W.fnOf "is_listed" "is_listed" (C8.fnArgs (topS 20)) (C8.fnBody (topS 20)) (C8.fnScope (topS 20)) .none kV_is_listed dc_is_listed pm_is_listed an_is_listed cd_is_listed ct_is_listed), sl_is_listed⟩)
    (c_is_listed : PySem.W.codeIn K cd_is_listed "is_listed" = true)
    (k_is_listed : PySem.W.keepIn K (.ref f_is_listed) = true)
    (a_is_row : PySem.W.nsIn K mainGlobals "is_row" = some (some (.ref f_is_row)))
    (l_is_row : K.lookup f_is_row = some ⟨oc_is_row, od_is_row, .func (PySem.W.fnOf "is_row" "is_row" (C8.fnArgs (topS 21)) (C8.fnBody (topS 21)) (C8.fnScope (topS 21)) .none kV_is_row dc_is_row pm_is_row an_is_row cd_is_row ct_is_row), sl_is_row⟩)
    (c_is_row : PySem.W.codeIn K cd_is_row "is_row" = true)
    (k_is_row : PySem.W.keepIn K (.ref f_is_row) = true)
    (a_is_name : PySem.W.nsIn K mainGlobals "is_name" = some (some (.ref f_is_name)))
    (l_is_name : K.lookup f_is_name = some ⟨oc_is_name, od_is_name, .func (PySem.W.fnOf "is_name" "is_name" (C8.fnArgs (topS 22)) (C8.fnBody (topS 22)) (C8.fnScope (topS 22)) .none kV_is_name dc_is_name pm_is_name an_is_name cd_is_name ct_is_name), sl_is_name⟩)
    (c_is_name : PySem.W.codeIn K cd_is_name "is_name" = true)
    (k_is_name : PySem.W.keepIn K (.ref f_is_name) = true)
    (a_are_names : PySem.W.nsIn K mainGlobals "are_names" = some (some (.ref f_are_names)))
    (l_are_names : K.lookup f_are_names = some ⟨oc_are_names, od_are_names, .func (PySem.W.fnOf "are_names" "are_names" (C8.fnArgs (topS 23)) (C8.fnBody (topS 23)) (C8.fnScope (topS 23)) .none kV_are_names dc_are_names pm_are_names an_are_names cd_are_names ct_are_names), sl_are_names⟩)
    (c_are_names : PySem.W.codeIn K cd_are_names "are_names" = true)
    (k_are_names : PySem.W.keepIn K (.ref f_are_names) = true)
    (a_need_integer : PySem.W.nsIn K mainGlobals "need_integer" = some (some (.ref f_need_integer)))
    (l_need_integer : K.lookup f_need_integer = some ⟨oc_need_integer, od_need_integer, .func (PySem.W.fnOf "need_integer" "need_integer" (C8.fnArgs (topS 24)) (C8.fnBody (topS 24)) (C8.fnScope (topS 24)) .none kV_need_integer dc_need_integer pm_need_integer an_need_integer cd_need_integer ct_need_integer), sl_need_integer⟩)
    (c_need_integer : PySem.W.codeIn K cd_need_integer "need_integer" = true)
    (k_need_integer : PySem.W.keepIn K (.ref f_need_integer) = true)
    (a_fixed : PySem.W.nsIn K mainGlobals "fixed" = some (some (.ref f_fixed)))
    (l_fixed : K.lookup f_fixed = some ⟨oc_fixed, od_fixed, .func (PySem.W.fnOf "fixed" "fixed" (C8.fnArgs (topS 26)) (C8.fnBody (topS 26)) (C8.fnScope (topS 26)) .none kV_fixed dc_fixed pm_fixed an_fixed cd_fixed ct_fixed), sl_fixed⟩)
    (c_fixed : PySem.W.codeIn K cd_fixed "fixed" = true)
    (k_fixed : PySem.W.keepIn K (.ref f_fixed) = true)
    (a_is_symbol : PySem.W.nsIn K mainGlobals "is_symbol" = some (some (.ref f_is_symbol)))
    (l_is_symbol : K.lookup f_is_symbol = some ⟨oc_is_symbol, od_is_symbol, .func (PySem.W.fnOf "is_symbol" "is_symbol" (C8.fnArgs (topS 31)) (C8.fnBody (topS 31)) (C8.fnScope (topS 31)) .none kV_is_symbol dc_is_symbol pm_is_symbol an_is_symbol cd_is_symbol ct_is_symbol), sl_is_symbol⟩)
    (c_is_symbol : PySem.W.codeIn K cd_is_symbol "is_symbol" = true)
    (k_is_symbol : PySem.W.keepIn K (.ref f_is_symbol) = true)
    (a_are_symbols : PySem.W.nsIn K mainGlobals "are_symbols" = some (some (.ref f_are_symbols)))
    (l_are_symbols : K.lookup f_are_symbols = some ⟨oc_are_symbols, od_are_symbols, .func (PySem.W.fnOf "are_symbols" "are_symbols" (C8.fnArgs (topS 32)) (C8.fnBody (topS 32)) (C8.fnScope (topS 32)) .none kV_are_symbols dc_are_symbols pm_are_symbols an_are_symbols cd_are_symbols ct_are_symbols), sl_are_symbols⟩)
    (c_are_symbols : PySem.W.codeIn K cd_are_symbols "are_symbols" = true)
    (k_are_symbols : PySem.W.keepIn K (.ref f_are_symbols) = true)
    (a_need_signs : PySem.W.nsIn K mainGlobals "need_signs" = some (some (.ref f_need_signs)))
    (l_need_signs : K.lookup f_need_signs = some ⟨oc_need_signs, od_need_signs, .func (PySem.W.fnOf "need_signs" "need_signs" (C8.fnArgs (topS 34)) (C8.fnBody (topS 34)) (C8.fnScope (topS 34)) .none kV_need_signs dc_need_signs pm_need_signs an_need_signs cd_need_signs ct_need_signs), sl_need_signs⟩)
    (c_need_signs : PySem.W.codeIn K cd_need_signs "need_signs" = true)
    (k_need_signs : PySem.W.keepIn K (.ref f_need_signs) = true)
    (a_is_thing : PySem.W.nsIn K mainGlobals "is_thing" = some (some (.ref f_is_thing)))
    (l_is_thing : K.lookup f_is_thing = some ⟨oc_is_thing, od_is_thing, .func (PySem.W.fnOf "is_thing" "is_thing" (C8.fnArgs (topS 37)) (C8.fnBody (topS 37)) (C8.fnScope (topS 37)) .none kV_is_thing dc_is_thing pm_is_thing an_is_thing cd_is_thing ct_is_thing), sl_is_thing⟩)
    (c_is_thing : PySem.W.codeIn K cd_is_thing "is_thing" = true)
    (k_is_thing : PySem.W.keepIn K (.ref f_is_thing) = true)
    (a_arity : PySem.W.nsIn K mainGlobals "arity" = some (some (.ref f_arity)))
    (l_arity : K.lookup f_arity = some ⟨oc_arity, od_arity, .func (PySem.W.fnOf "arity" "arity" (C8.fnArgs (topS 38)) (C8.fnBody (topS 38)) (C8.fnScope (topS 38)) .none kV_arity dc_arity pm_arity an_arity cd_arity ct_arity), sl_arity⟩)
    (c_arity : PySem.W.codeIn K cd_arity "arity" = true)
    (k_arity : PySem.W.keepIn K (.ref f_arity) = true)
    (a_sort_at : PySem.W.nsIn K mainGlobals "sort_at" = some (some (.ref f_sort_at)))
    (l_sort_at : K.lookup f_sort_at = some ⟨oc_sort_at, od_sort_at, .func (PySem.W.fnOf "sort_at" "sort_at" (C8.fnArgs (topS 39)) (C8.fnBody (topS 39)) (C8.fnScope (topS 39)) .none kV_sort_at dc_sort_at pm_sort_at an_sort_at cd_sort_at ct_sort_at), sl_sort_at⟩)
    (c_sort_at : PySem.W.codeIn K cd_sort_at "sort_at" = true)
    (k_sort_at : PySem.W.keepIn K (.ref f_sort_at) = true)
    (a_behind : PySem.W.nsIn K mainGlobals "behind" = some (some (.ref f_behind)))
    (l_behind : K.lookup f_behind = some ⟨oc_behind, od_behind, .func (PySem.W.fnOf "behind" "behind" (C8.fnArgs (topS 40)) (C8.fnBody (topS 40)) (C8.fnScope (topS 40)) .none kV_behind dc_behind pm_behind an_behind cd_behind ct_behind), sl_behind⟩)
    (c_behind : PySem.W.codeIn K cd_behind "behind" = true)
    (k_behind : PySem.W.keepIn K (.ref f_behind) = true)
    (a_subtree : PySem.W.nsIn K mainGlobals "subtree" = some (some (.ref f_subtree)))
    (l_subtree : K.lookup f_subtree = some ⟨oc_subtree, od_subtree, .func (PySem.W.fnOf "subtree" "subtree" (C8.fnArgs (topS 41)) (C8.fnBody (topS 41)) (C8.fnScope (topS 41)) .none kV_subtree dc_subtree pm_subtree an_subtree cd_subtree ct_subtree), sl_subtree⟩)
    (c_subtree : PySem.W.codeIn K cd_subtree "subtree" = true)
    (k_subtree : PySem.W.keepIn K (.ref f_subtree) = true)
    (a_replaced : PySem.W.nsIn K mainGlobals "replaced" = some (some (.ref f_replaced)))
    (l_replaced : K.lookup f_replaced = some ⟨oc_replaced, od_replaced, .func (PySem.W.fnOf "replaced" "replaced" (C8.fnArgs (topS 42)) (C8.fnBody (topS 42)) (C8.fnScope (topS 42)) .none kV_replaced dc_replaced pm_replaced an_replaced cd_replaced ct_replaced), sl_replaced⟩)
    (c_replaced : PySem.W.codeIn K cd_replaced "replaced" = true)
    (k_replaced : PySem.W.keepIn K (.ref f_replaced) = true)
    (a_parts_of : PySem.W.nsIn K mainGlobals "parts_of" = some (some (.ref f_parts_of)))
    (l_parts_of : K.lookup f_parts_of = some ⟨oc_parts_of, od_parts_of, .func (PySem.W.fnOf "parts_of" "parts_of" (C8.fnArgs (topS 43)) (C8.fnBody (topS 43)) (C8.fnScope (topS 43)) .none kV_parts_of dc_parts_of pm_parts_of an_parts_of cd_parts_of ct_parts_of), sl_parts_of⟩)
    (c_parts_of : PySem.W.codeIn K cd_parts_of "parts_of" = true)
    (k_parts_of : PySem.W.keepIn K (.ref f_parts_of) = true)
    (a_inner_nodes : PySem.W.nsIn K mainGlobals "inner_nodes" = some (some (.ref f_inner_nodes)))
    (l_inner_nodes : K.lookup f_inner_nodes = some ⟨oc_inner_nodes, od_inner_nodes, .func (PySem.W.fnOf "inner_nodes" "inner_nodes" (C8.fnArgs (topS 44)) (C8.fnBody (topS 44)) (C8.fnScope (topS 44)) .none kV_inner_nodes dc_inner_nodes pm_inner_nodes an_inner_nodes cd_inner_nodes ct_inner_nodes), sl_inner_nodes⟩)
    (c_inner_nodes : PySem.W.codeIn K cd_inner_nodes "inner_nodes" = true)
    (k_inner_nodes : PySem.W.keepIn K (.ref f_inner_nodes) = true)
    (a_fits : PySem.W.nsIn K mainGlobals "fits" = some (some (.ref f_fits)))
    (l_fits : K.lookup f_fits = some ⟨oc_fits, od_fits, .func (PySem.W.fnOf "fits" "fits" (C8.fnArgs (topS 45)) (C8.fnBody (topS 45)) (C8.fnScope (topS 45)) .none kV_fits dc_fits pm_fits an_fits cd_fits ct_fits), sl_fits⟩)
    (c_fits : PySem.W.codeIn K cd_fits "fits" = true)
    (k_fits : PySem.W.keepIn K (.ref f_fits) = true)
    (a_is_told : PySem.W.nsIn K mainGlobals "is_told" = some (some (.ref f_is_told)))
    (l_is_told : K.lookup f_is_told = some ⟨oc_is_told, od_is_told, .func (PySem.W.fnOf "is_told" "is_told" (C8.fnArgs (topS 46)) (C8.fnBody (topS 46)) (C8.fnScope (topS 46)) .none kV_is_told dc_is_told pm_is_told an_is_told cd_is_told ct_is_told), sl_is_told⟩)
    (c_is_told : PySem.W.codeIn K cd_is_told "is_told" = true)
    (k_is_told : PySem.W.keepIn K (.ref f_is_told) = true)
    (a_is_tree : PySem.W.nsIn K mainGlobals "is_tree" = some (some (.ref f_is_tree)))
    (l_is_tree : K.lookup f_is_tree = some ⟨oc_is_tree, od_is_tree, .func (PySem.W.fnOf "is_tree" "is_tree" (C8.fnArgs (topS 47)) (C8.fnBody (topS 47)) (C8.fnScope (topS 47)) (.ref T_is_tree) kV_is_tree dc_is_tree pm_is_tree an_is_tree cd_is_tree ct_is_tree), sl_is_tree⟩)
    (lT_is_tree : K.lookup T_is_tree = some ⟨ocT_is_tree, odT_is_tree, .seq #[.none] nT_is_tree, slT_is_tree⟩)
    (c_is_tree : PySem.W.codeIn K cd_is_tree "is_tree" = true)
    (k_is_tree : PySem.W.keepIn K (.ref f_is_tree) = true)
    (a_need_tree : PySem.W.nsIn K mainGlobals "need_tree" = some (some (.ref f_need_tree)))
    (l_need_tree : K.lookup f_need_tree = some ⟨oc_need_tree, od_need_tree, .func (PySem.W.fnOf "need_tree" "need_tree" (C8.fnArgs (topS 48)) (C8.fnBody (topS 48)) (C8.fnScope (topS 48)) (.ref T_need_tree) kV_need_tree dc_need_tree pm_need_tree an_need_tree cd_need_tree ct_need_tree), sl_need_tree⟩)
    (lT_need_tree : K.lookup T_need_tree = some ⟨ocT_need_tree, odT_need_tree, .seq #[(.str "tree" tk0_need_tree)] nT_need_tree, slT_need_tree⟩)
    (c_need_tree : PySem.W.codeIn K cd_need_tree "need_tree" = true)
    (k_need_tree : PySem.W.keepIn K (.ref f_need_tree) = true)
    (a_tree_sort : PySem.W.nsIn K mainGlobals "tree_sort" = some (some (.ref f_tree_sort)))
    (l_tree_sort : K.lookup f_tree_sort = some ⟨oc_tree_sort, od_tree_sort, .func (PySem.W.fnOf "tree_sort" "tree_sort" (C8.fnArgs (topS 50)) (C8.fnBody (topS 50)) (C8.fnScope (topS 50)) .none kV_tree_sort dc_tree_sort pm_tree_sort an_tree_sort cd_tree_sort ct_tree_sort), sl_tree_sort⟩)
    (c_tree_sort : PySem.W.codeIn K cd_tree_sort "tree_sort" = true)
    (k_tree_sort : PySem.W.keepIn K (.ref f_tree_sort) = true)
    (a_part_at : PySem.W.nsIn K mainGlobals "part_at" = some (some (.ref f_part_at)))
    (l_part_at : K.lookup f_part_at = some ⟨oc_part_at, od_part_at, .func (PySem.W.fnOf "part_at" "part_at" (C8.fnArgs (topS 51)) (C8.fnBody (topS 51)) (C8.fnScope (topS 51)) .none kV_part_at dc_part_at pm_part_at an_part_at cd_part_at ct_part_at), sl_part_at⟩)
    (c_part_at : PySem.W.codeIn K cd_part_at "part_at" = true)
    (k_part_at : PySem.W.keepIn K (.ref f_part_at) = true)
    (a_with_part : PySem.W.nsIn K mainGlobals "with_part" = some (some (.ref f_with_part)))
    (l_with_part : K.lookup f_with_part = some ⟨oc_with_part, od_with_part, .func (PySem.W.fnOf "with_part" "with_part" (C8.fnArgs (topS 52)) (C8.fnBody (topS 52)) (C8.fnScope (topS 52)) .none kV_with_part dc_with_part pm_with_part an_with_part cd_with_part ct_with_part), sl_with_part⟩)
    (c_with_part : PySem.W.codeIn K cd_with_part "with_part" = true)
    (k_with_part : PySem.W.keepIn K (.ref f_with_part) = true)
    (a_arguments_of : PySem.W.nsIn K mainGlobals "arguments_of" = some (some (.ref f_arguments_of)))
    (l_arguments_of : K.lookup f_arguments_of = some ⟨oc_arguments_of, od_arguments_of, .func (PySem.W.fnOf "arguments_of" "arguments_of" (C8.fnArgs (topS 53)) (C8.fnBody (topS 53)) (C8.fnScope (topS 53)) .none kV_arguments_of dc_arguments_of pm_arguments_of an_arguments_of cd_arguments_of ct_arguments_of), sl_arguments_of⟩)
    (c_arguments_of : PySem.W.codeIn K cd_arguments_of "arguments_of" = true)
    (k_arguments_of : PySem.W.keepIn K (.ref f_arguments_of) = true)
    (a_many_inner : PySem.W.nsIn K mainGlobals "many_inner" = some (some (.ref f_many_inner)))
    (l_many_inner : K.lookup f_many_inner = some ⟨oc_many_inner, od_many_inner, .func (PySem.W.fnOf "many_inner" "many_inner" (C8.fnArgs (topS 54)) (C8.fnBody (topS 54)) (C8.fnScope (topS 54)) .none kV_many_inner dc_many_inner pm_many_inner an_many_inner cd_many_inner ct_many_inner), sl_many_inner⟩)
    (c_many_inner : PySem.W.codeIn K cd_many_inner "many_inner" = true)
    (k_many_inner : PySem.W.keepIn K (.ref f_many_inner) = true)
    (a__law_pen : PySem.W.nsIn K mainGlobals "_law_pen" = some (some (.ref f__law_pen)))
    (l__law_pen : K.lookup f__law_pen = some ⟨oc__law_pen, od__law_pen, .func (PySem.W.fnOf "_law_pen" "_law_pen" (C8.fnArgs (topS 56)) (C8.fnBody (topS 56)) (C8.fnScope (topS 56)) .none kV__law_pen dc__law_pen pm__law_pen an__law_pen cd__law_pen ct__law_pen), sl__law_pen⟩)
    (c__law_pen : PySem.W.codeIn K cd__law_pen "_law_pen" = true)
    (k__law_pen : PySem.W.keepIn K (.ref f__law_pen) = true)
    (a__law_draw : PySem.W.nsIn K mainGlobals "_law_draw" = some (some (.ref f__law_draw)))
    (l__law_draw : K.lookup f__law_draw = some ⟨oc__law_draw, od__law_draw, .func (PySem.W.fnOf "_law_draw" "_law_draw" (C8.fnArgs (topS 57)) (C8.fnBody (topS 57)) (C8.fnScope (topS 57)) .none kV__law_draw dc__law_draw pm__law_draw an__law_draw cd__law_draw ct__law_draw), sl__law_draw⟩)
    (c__law_draw : PySem.W.codeIn K cd__law_draw "_law_draw" = true)
    (k__law_draw : PySem.W.keepIn K (.ref f__law_draw) = true)
    (a__law_pick : PySem.W.nsIn K mainGlobals "_law_pick" = some (some (.ref f__law_pick)))
    (l__law_pick : K.lookup f__law_pick = some ⟨oc__law_pick, od__law_pick, .func (PySem.W.fnOf "_law_pick" "_law_pick" (C8.fnArgs (topS 58)) (C8.fnBody (topS 58)) (C8.fnScope (topS 58)) .none kV__law_pick dc__law_pick pm__law_pick an__law_pick cd__law_pick ct__law_pick), sl__law_pick⟩)
    (c__law_pick : PySem.W.codeIn K cd__law_pick "_law_pick" = true)
    (k__law_pick : PySem.W.keepIn K (.ref f__law_pick) = true)
    (a__law_heard : PySem.W.nsIn K mainGlobals "_law_heard" = some (some (.ref f__law_heard)))
    (l__law_heard : K.lookup f__law_heard = some ⟨oc__law_heard, od__law_heard, .func (PySem.W.fnOf "_law_heard" "_law_heard" (C8.fnArgs (topS 59)) (C8.fnBody (topS 59)) (C8.fnScope (topS 59)) .none kV__law_heard dc__law_heard pm__law_heard an__law_heard cd__law_heard ct__law_heard), sl__law_heard⟩)
    (c__law_heard : PySem.W.codeIn K cd__law_heard "_law_heard" = true)
    (k__law_heard : PySem.W.keepIn K (.ref f__law_heard) = true)
    (a__law_world : PySem.W.nsIn K mainGlobals "_law_world" = some (some (.ref f__law_world)))
    (l__law_world : K.lookup f__law_world = some ⟨oc__law_world, od__law_world, .func (PySem.W.fnOf "_law_world" "_law_world" (C8.fnArgs (topS 60)) (C8.fnBody (topS 60)) (C8.fnScope (topS 60)) .none kV__law_world dc__law_world pm__law_world an__law_world cd__law_world ct__law_world), sl__law_world⟩)
    (c__law_world : PySem.W.codeIn K cd__law_world "_law_world" = true)
    (k__law_world : PySem.W.keepIn K (.ref f__law_world) = true)
    (a__law_signs : PySem.W.nsIn K mainGlobals "_law_signs" = some (some (.ref f__law_signs)))
    (l__law_signs : K.lookup f__law_signs = some ⟨oc__law_signs, od__law_signs, .func (PySem.W.fnOf "_law_signs" "_law_signs" (C8.fnArgs (topS 61)) (C8.fnBody (topS 61)) (C8.fnScope (topS 61)) .none kV__law_signs dc__law_signs pm__law_signs an__law_signs cd__law_signs ct__law_signs), sl__law_signs⟩)
    (c__law_signs : PySem.W.codeIn K cd__law_signs "_law_signs" = true)
    (k__law_signs : PySem.W.keepIn K (.ref f__law_signs) = true)
    (a__law_args : PySem.W.nsIn K mainGlobals "_law_args" = some (some (.ref f__law_args)))
    (l__law_args : K.lookup f__law_args = some ⟨oc__law_args, od__law_args, .func (PySem.W.fnOf "_law_args" "_law_args" (C8.fnArgs (topS 62)) (C8.fnBody (topS 62)) (C8.fnScope (topS 62)) .none kV__law_args dc__law_args pm__law_args an__law_args cd__law_args ct__law_args), sl__law_args⟩)
    (c__law_args : PySem.W.codeIn K cd__law_args "_law_args" = true)
    (k__law_args : PySem.W.keepIn K (.ref f__law_args) = true)
    (a__law_sort : PySem.W.nsIn K mainGlobals "_law_sort" = some (some (.ref f__law_sort)))
    (l__law_sort : K.lookup f__law_sort = some ⟨oc__law_sort, od__law_sort, .func (PySem.W.fnOf "_law_sort" "_law_sort" (C8.fnArgs (topS 63)) (C8.fnBody (topS 63)) (C8.fnScope (topS 63)) .none kV__law_sort dc__law_sort pm__law_sort an__law_sort cd__law_sort ct__law_sort), sl__law_sort⟩)
    (c__law_sort : PySem.W.codeIn K cd__law_sort "_law_sort" = true)
    (k__law_sort : PySem.W.keepIn K (.ref f__law_sort) = true)
    (a__law_behind : PySem.W.nsIn K mainGlobals "_law_behind" = some (some (.ref f__law_behind)))
    (l__law_behind : K.lookup f__law_behind = some ⟨oc__law_behind, od__law_behind, .func (PySem.W.fnOf "_law_behind" "_law_behind" (C8.fnArgs (topS 64)) (C8.fnBody (topS 64)) (C8.fnScope (topS 64)) .none kV__law_behind dc__law_behind pm__law_behind an__law_behind cd__law_behind ct__law_behind), sl__law_behind⟩)
    (c__law_behind : PySem.W.codeIn K cd__law_behind "_law_behind" = true)
    (k__law_behind : PySem.W.keepIn K (.ref f__law_behind) = true)
    (a__law_tree : PySem.W.nsIn K mainGlobals "_law_tree" = some (some (.ref f__law_tree)))
    (l__law_tree : K.lookup f__law_tree = some ⟨oc__law_tree, od__law_tree, .func (PySem.W.fnOf "_law_tree" "_law_tree" (C8.fnArgs (topS 65)) (C8.fnBody (topS 65)) (C8.fnScope (topS 65)) .none kV__law_tree dc__law_tree pm__law_tree an__law_tree cd__law_tree ct__law_tree), sl__law_tree⟩)
    (c__law_tree : PySem.W.codeIn K cd__law_tree "_law_tree" = true)
    (k__law_tree : PySem.W.keepIn K (.ref f__law_tree) = true)
    (a__law_is_tree : PySem.W.nsIn K mainGlobals "_law_is_tree" = some (some (.ref f__law_is_tree)))
    (l__law_is_tree : K.lookup f__law_is_tree = some ⟨oc__law_is_tree, od__law_is_tree, .func (PySem.W.fnOf "_law_is_tree" "_law_is_tree" (C8.fnArgs (topS 66)) (C8.fnBody (topS 66)) (C8.fnScope (topS 66)) .none kV__law_is_tree dc__law_is_tree pm__law_is_tree an__law_is_tree cd__law_is_tree ct__law_is_tree), sl__law_is_tree⟩)
    (c__law_is_tree : PySem.W.codeIn K cd__law_is_tree "_law_is_tree" = true)
    (k__law_is_tree : PySem.W.keepIn K (.ref f__law_is_tree) = true)
    (aL : PySem.W.nsIn K mainGlobals "law" = some (some (.ref fL)))
    (lL : K.lookup fL = some ⟨ocL, odL, .func (PySem.W.fnOf "law" "law" (C8.fnArgs (topS 67)) (C8.fnBody (topS 67)) (C8.fnScope (topS 67)) .none kVL dcL pmL anL (.ref cL) ctL), slL⟩)
    (cdL : PySem.W.codeIn K (.ref cL) "law" = true)
    (lc : K.lookup cL = some ⟨occ, odc, .fields vsc, slc⟩)
    (h11 : vsc[11]? = some (.ref Pt))
    (hdL : PySem.W.codeHdIn K cL Pt = true)
    (nP : K.lookup Pt = none)
    (hT : hp.get? Pt = some { cls := .none, data := .fields #[] })
    (aC : PySem.W.nsIn K mainGlobals "Signs" = some (some (.ref C)))
    (pg : PySem.W.plainGet K C Str.empty = true)
    (hd : PySem.W.hasDictIn K C = true)
    (po : PySem.W.plainOver K C = true)
    (sa : PySem.W.findIn K (.ref C) "__setattr__" = some (some (.builtin "object.__setattr__")))
    (n1 : PySem.W.findIn K (.ref C) "sorts" = some none)
    (n2 : PySem.W.findIn K (.ref C) "symbols" = some none)
    (n3 : PySem.W.findIn K (.ref C) "known" = some none)
    (Sha : PySem.W.findIn K (.ref C) "__class__" = some (some (.builtin "object.__class__")))
    (Shm : PySem.W.mroIn K C (.type "object") = some true)
    (hn : PySem.W.specialIn K (.builtin "object.__class__") "__get__" = some (some (.builtin "getset_descriptor.__get__")))
    (ht : PySem.W.takesIn K (.builtin "object.__class__") = some true)
    (mk : PySem.W.makesIn K C = true)
    (kC : PySem.W.keepIn K (.ref C) = true)
    (icC : PySem.W.isClsIn K C = true)
    (tyC : PySem.W.typeIn K (.ref C) = some (.type "type"))
    (sT_NoneType : PySem.W.subIn K (.type "NoneType") (.ref C) = some false)
    (sT_bool : PySem.W.subIn K (.type "bool") (.ref C) = some false)
    (sT_int : PySem.W.subIn K (.type "int") (.ref C) = some false)
    (sT_str : PySem.W.subIn K (.type "str") (.ref C) = some false)
    (sT_list : PySem.W.subIn K (.type "list") (.ref C) = some false)
    (sT_tuple : PySem.W.subIn K (.type "tuple") (.ref C) = some false)
    (sT_dict : PySem.W.subIn K (.type "dict") (.ref C) = some false)
    (a_m__init__ : PySem.W.findIn K (.ref C) "__init__" = some (some (.ref g___init__)))
    (l_m__init__ : K.lookup g___init__ = some ⟨oc_m__init__, od_m__init__, .func (PySem.W.fnOf "__init__" "Signs.__init__" (C8.fnArgs (mS 0)) (C8.fnBody (mS 0)) (C8.fnScope (mS 0)) .none kV_m__init__ dc_m__init__ pm_m__init__ an_m__init__ cd_m__init__ ct_m__init__), sl_m__init__⟩)
    (c_m__init__ : PySem.W.codeIn K cd_m__init__ "Signs.__init__" = true)
    (i_m__init__ : PySem.W.isFn K (.ref g___init__) = true)
    (k_m__init__ : PySem.W.keepIn K (.ref g___init__) = true)
    (a_mneed_symbol : PySem.W.findIn K (.ref C) "need_symbol" = some (some (.ref g_need_symbol)))
    (l_mneed_symbol : K.lookup g_need_symbol = some ⟨oc_mneed_symbol, od_mneed_symbol, .func (PySem.W.fnOf "need_symbol" "Signs.need_symbol" (C8.fnArgs (mS 2)) (C8.fnBody (mS 2)) (C8.fnScope (mS 2)) .none kV_mneed_symbol dc_mneed_symbol pm_mneed_symbol an_mneed_symbol cd_mneed_symbol ct_mneed_symbol), sl_mneed_symbol⟩)
    (c_mneed_symbol : PySem.W.codeIn K cd_mneed_symbol "Signs.need_symbol" = true)
    (i_mneed_symbol : PySem.W.isFn K (.ref g_need_symbol) = true)
    (k_mneed_symbol : PySem.W.keepIn K (.ref g_need_symbol) = true)
    (a_marguments : PySem.W.findIn K (.ref C) "arguments" = some (some (.ref g_arguments)))
    (l_marguments : K.lookup g_arguments = some ⟨oc_marguments, od_marguments, .func (PySem.W.fnOf "arguments" "Signs.arguments" (C8.fnArgs (mS 3)) (C8.fnBody (mS 3)) (C8.fnScope (mS 3)) .none kV_marguments dc_marguments pm_marguments an_marguments cd_marguments ct_marguments), sl_marguments⟩)
    (c_marguments : PySem.W.codeIn K cd_marguments "Signs.arguments" = true)
    (i_marguments : PySem.W.isFn K (.ref g_arguments) = true)
    (k_marguments : PySem.W.keepIn K (.ref g_arguments) = true)
    (a_msort_of : PySem.W.findIn K (.ref C) "sort_of" = some (some (.ref g_sort_of)))
    (l_msort_of : K.lookup g_sort_of = some ⟨oc_msort_of, od_msort_of, .func (PySem.W.fnOf "sort_of" "Signs.sort_of" (C8.fnArgs (mS 4)) (C8.fnBody (mS 4)) (C8.fnScope (mS 4)) .none kV_msort_of dc_msort_of pm_msort_of an_msort_of cd_msort_of ct_msort_of), sl_msort_of⟩)
    (c_msort_of : PySem.W.codeIn K cd_msort_of "Signs.sort_of" = true)
    (i_msort_of : PySem.W.isFn K (.ref g_sort_of) = true)
    (k_msort_of : PySem.W.keepIn K (.ref g_sort_of) = true)
    (aP : PySem.W.nsIn K mainGlobals "PurseError" = some (some (.ref CP)))
    (ae0 : PySem.W.nsIn K mainGlobals "BadNumber" = some (some (.ref e0)))
    (ae1 : PySem.W.nsIn K mainGlobals "BadValue" = some (some (.ref e1)))
    (ae2 : PySem.W.nsIn K mainGlobals "BadSigns" = some (some (.ref e2)))
    (ae3 : PySem.W.nsIn K mainGlobals "BadTree" = some (some (.ref e3)))
    (ae4 : PySem.W.nsIn K mainGlobals "BadBook" = some (some (.ref e4)))
    (ae5 : PySem.W.nsIn K mainGlobals "BadLoads" = some (some (.ref e5)))
    (ae6 : PySem.W.nsIn K mainGlobals "BadShape" = some (some (.ref e6)))
    (ae7 : PySem.W.nsIn K mainGlobals "BadProgram" = some (some (.ref e7)))
    (ae8 : PySem.W.nsIn K mainGlobals "BadStep" = some (some (.ref e8)))
    (ae9 : PySem.W.nsIn K mainGlobals "NoName" = some (some (.ref e9)))
    (ae10 : PySem.W.nsIn K mainGlobals "Misfit" = some (some (.ref e10)))
    (ae11 : PySem.W.nsIn K mainGlobals "BadRule" = some (some (.ref e11)))
    (ae12 : PySem.W.nsIn K mainGlobals "TooMany" = some (some (.ref e12)))
    (icCP : PySem.W.isClsIn K CP = true)
    (tyCP : PySem.W.typeIn K (.ref CP) = some (.type "type"))
    (ice0 : PySem.W.isClsIn K e0 = true)
    (tye0 : PySem.W.typeIn K (.ref e0) = some (.type "type"))
    (ice1 : PySem.W.isClsIn K e1 = true)
    (tye1 : PySem.W.typeIn K (.ref e1) = some (.type "type"))
    (ice2 : PySem.W.isClsIn K e2 = true)
    (tye2 : PySem.W.typeIn K (.ref e2) = some (.type "type"))
    (ice3 : PySem.W.isClsIn K e3 = true)
    (tye3 : PySem.W.typeIn K (.ref e3) = some (.type "type"))
    (ice4 : PySem.W.isClsIn K e4 = true)
    (tye4 : PySem.W.typeIn K (.ref e4) = some (.type "type"))
    (ice5 : PySem.W.isClsIn K e5 = true)
    (tye5 : PySem.W.typeIn K (.ref e5) = some (.type "type"))
    (ice6 : PySem.W.isClsIn K e6 = true)
    (tye6 : PySem.W.typeIn K (.ref e6) = some (.type "type"))
    (ice7 : PySem.W.isClsIn K e7 = true)
    (tye7 : PySem.W.typeIn K (.ref e7) = some (.type "type"))
    (ice8 : PySem.W.isClsIn K e8 = true)
    (tye8 : PySem.W.typeIn K (.ref e8) = some (.type "type"))
    (ice9 : PySem.W.isClsIn K e9 = true)
    (tye9 : PySem.W.typeIn K (.ref e9) = some (.type "type"))
    (ice10 : PySem.W.isClsIn K e10 = true)
    (tye10 : PySem.W.typeIn K (.ref e10) = some (.type "type"))
    (ice11 : PySem.W.isClsIn K e11 = true)
    (tye11 : PySem.W.typeIn K (.ref e11) = some (.type "type"))
    (ice12 : PySem.W.isClsIn K e12 = true)
    (tye12 : PySem.W.typeIn K (.ref e12) = some (.type "type"))
    (exP : PySem.W.subIn K (.ref CP) (.type "BaseException") = some true)
    (xX0 : K.lookup e0 = some (excClassObj nmX0 qX0 e0 NX0 bsX0 bmX0 true snX0 subX0 abX0 colX0 ddX0 q0X0 q1X0 q2X0 q3X0 q5X0 "ValueError.__new__"))
    (veX0 : PySem.HandSPX.refsVE bmX0 = true)
    (saX0 : PySem.W.findIn K (.ref e0) "__setattr__" = some (some (.builtin "object.__setattr__")))
    (iCX0 : PySem.W.findIn K (.ref e0) "__init__" = some (some (.ref fIX0)))
    (tCX0 : PySem.W.typeIn K (.ref fIX0) = some (.type "function"))
    (kCX0 : PySem.W.keepIn K (.ref e0) = true)
    (exCX0 : PySem.W.subIn K (.ref e0) (.type "BaseException") = some true)
    (veCX0 : PySem.W.subIn K (.ref e0) (.type "ValueError") = some true)
    (hdCX0 : PySem.W.hasDictIn K e0 = true)
    (suX0 : PySem.W.ks_superIn K e0 e0 "__init__" = some (some (.builtin "ValueError.__init__")))
    (mrX0 : PySem.W.mroIn K e0 (.ref e0) = some true)
    (noNX0 : PySem.W.findIn K (.ref e0) "part" = some none)
    (lIX0 : K.lookup fIX0 = some ⟨ocX0, odX0, .func (PySem.W.ksFn "__init__" qlX0 (xA1 "part" p1X0 p2X0) [stX0, xSt "part" p3X0 p4X0 p5X0 p6X0] (xSc (xN1 "part")) .none .none dcX0 pmX0 anX0 (.ref cdaX0) ctX0 ccX0), slX0⟩)
    (ciX0 : PySem.W.codeIn K (.ref cdaX0) qlX0 = true)
    (ssX0 : SupSt stX0)
    (ceX0 : K.lookup ccX0 = some ⟨clX0, cldX0, .cell (some (.ref e0)), cslX0⟩)
    (coX0 : K.lookup cdaX0 = some ⟨cclX0, cddX0, .fields vsX0, ccsX0⟩)
    (v2X0 : vsX0[2]? = some (.str flX0 tfX0))
    (fiX0 : flX0 = ("/claim/cut.py" : Str))
    (hgX0 : PySem.W.findIn K (.ref e0) "__getattribute__" = some (some (.builtin "BaseException.__getattribute__")))
    (hkX0 : PySem.W.findIn K (.ref e0) "__getattr__" = some none)
    (X0ha : PySem.W.findIn K (.ref e0) "__class__" = some (some (.builtin "object.__class__")))
    (X0hm : PySem.W.mroIn K e0 (.type "object") = some true)
    (sPX0 : PySem.W.subIn K (.ref e0) (.ref CP) = some true)
    (xX2 : K.lookup e2 = some (excClassObj nmX2 qX2 e2 NX2 bsX2 bmX2 true snX2 subX2 abX2 colX2 ddX2 q0X2 q1X2 q2X2 q3X2 q5X2 "ValueError.__new__"))
    (veX2 : PySem.HandSPX.refsVE bmX2 = true)
    (saX2 : PySem.W.findIn K (.ref e2) "__setattr__" = some (some (.builtin "object.__setattr__")))
    (iCX2 : PySem.W.findIn K (.ref e2) "__init__" = some (some (.ref fIX2)))
    (tCX2 : PySem.W.typeIn K (.ref fIX2) = some (.type "function"))
    (kCX2 : PySem.W.keepIn K (.ref e2) = true)
    (exCX2 : PySem.W.subIn K (.ref e2) (.type "BaseException") = some true)
    (veCX2 : PySem.W.subIn K (.ref e2) (.type "ValueError") = some true)
    (hdCX2 : PySem.W.hasDictIn K e2 = true)
    (suX2 : PySem.W.ks_superIn K e2 e2 "__init__" = some (some (.builtin "ValueError.__init__")))
    (mrX2 : PySem.W.mroIn K e2 (.ref e2) = some true)
    (noNX2 : PySem.W.findIn K (.ref e2) "part" = some none)
    (lIX2 : K.lookup fIX2 = some ⟨ocX2, odX2, .func (PySem.W.ksFn "__init__" qlX2 (xA1 "part" p1X2 p2X2) [stX2, xSt "part" p3X2 p4X2 p5X2 p6X2] (xSc (xN1 "part")) .none .none dcX2 pmX2 anX2 (.ref cdaX2) ctX2 ccX2), slX2⟩)
    (ciX2 : PySem.W.codeIn K (.ref cdaX2) qlX2 = true)
    (ssX2 : SupSt stX2)
    (ceX2 : K.lookup ccX2 = some ⟨clX2, cldX2, .cell (some (.ref e2)), cslX2⟩)
    (coX2 : K.lookup cdaX2 = some ⟨cclX2, cddX2, .fields vsX2, ccsX2⟩)
    (v2X2 : vsX2[2]? = some (.str flX2 tfX2))
    (fiX2 : flX2 = ("/claim/cut.py" : Str))
    (hgX2 : PySem.W.findIn K (.ref e2) "__getattribute__" = some (some (.builtin "BaseException.__getattribute__")))
    (hkX2 : PySem.W.findIn K (.ref e2) "__getattr__" = some none)
    (X2ha : PySem.W.findIn K (.ref e2) "__class__" = some (some (.builtin "object.__class__")))
    (X2hm : PySem.W.mroIn K e2 (.type "object") = some true)
    (sPX2 : PySem.W.subIn K (.ref e2) (.ref CP) = some true)
    (xX3 : K.lookup e3 = some (excClassObj nmX3 qX3 e3 NX3 bsX3 bmX3 true snX3 subX3 abX3 colX3 ddX3 q0X3 q1X3 q2X3 q3X3 q5X3 "ValueError.__new__"))
    (veX3 : PySem.HandSPX.refsVE bmX3 = true)
    (saX3 : PySem.W.findIn K (.ref e3) "__setattr__" = some (some (.builtin "object.__setattr__")))
    (iCX3 : PySem.W.findIn K (.ref e3) "__init__" = some (some (.ref fIX3)))
    (tCX3 : PySem.W.typeIn K (.ref fIX3) = some (.type "function"))
    (kCX3 : PySem.W.keepIn K (.ref e3) = true)
    (exCX3 : PySem.W.subIn K (.ref e3) (.type "BaseException") = some true)
    (veCX3 : PySem.W.subIn K (.ref e3) (.type "ValueError") = some true)
    (hdCX3 : PySem.W.hasDictIn K e3 = true)
    (suX3 : PySem.W.ks_superIn K e3 e3 "__init__" = some (some (.builtin "ValueError.__init__")))
    (mrX3 : PySem.W.mroIn K e3 (.ref e3) = some true)
    (noNX3 : PySem.W.findIn K (.ref e3) "part" = some none)
    (lIX3 : K.lookup fIX3 = some ⟨ocX3, odX3, .func (PySem.W.ksFn "__init__" qlX3 (xA1 "part" p1X3 p2X3) [stX3, xSt "part" p3X3 p4X3 p5X3 p6X3] (xSc (xN1 "part")) .none .none dcX3 pmX3 anX3 (.ref cdaX3) ctX3 ccX3), slX3⟩)
    (ciX3 : PySem.W.codeIn K (.ref cdaX3) qlX3 = true)
    (ssX3 : SupSt stX3)
    (ceX3 : K.lookup ccX3 = some ⟨clX3, cldX3, .cell (some (.ref e3)), cslX3⟩)
    (coX3 : K.lookup cdaX3 = some ⟨cclX3, cddX3, .fields vsX3, ccsX3⟩)
    (v2X3 : vsX3[2]? = some (.str flX3 tfX3))
    (fiX3 : flX3 = ("/claim/cut.py" : Str))
    (hgX3 : PySem.W.findIn K (.ref e3) "__getattribute__" = some (some (.builtin "BaseException.__getattribute__")))
    (hkX3 : PySem.W.findIn K (.ref e3) "__getattr__" = some none)
    (X3ha : PySem.W.findIn K (.ref e3) "__class__" = some (some (.builtin "object.__class__")))
    (X3hm : PySem.W.mroIn K e3 (.type "object") = some true)
    (sPX3 : PySem.W.subIn K (.ref e3) (.ref CP) = some true)
    (xX10 : K.lookup e10 = some (excClassObj nmX10 qX10 e10 NX10 bsX10 bmX10 true snX10 subX10 abX10 colX10 ddX10 q0X10 q1X10 q2X10 q3X10 q5X10 "ValueError.__new__"))
    (veX10 : PySem.HandSPX.refsVE bmX10 = true)
    (saX10 : PySem.W.findIn K (.ref e10) "__setattr__" = some (some (.builtin "object.__setattr__")))
    (iCX10 : PySem.W.findIn K (.ref e10) "__init__" = some (some (.ref fIX10)))
    (tCX10 : PySem.W.typeIn K (.ref fIX10) = some (.type "function"))
    (kCX10 : PySem.W.keepIn K (.ref e10) = true)
    (exCX10 : PySem.W.subIn K (.ref e10) (.type "BaseException") = some true)
    (veCX10 : PySem.W.subIn K (.ref e10) (.type "ValueError") = some true)
    (hdCX10 : PySem.W.hasDictIn K e10 = true)
    (suX10 : PySem.W.ks_superIn K e10 e10 "__init__" = some (some (.builtin "ValueError.__init__")))
    (mrX10 : PySem.W.mroIn K e10 (.ref e10) = some true)
    (noNX10 : PySem.W.findIn K (.ref e10) "part" = some none)
    (lIX10 : K.lookup fIX10 = some ⟨ocX10, odX10, .func (PySem.W.ksFn "__init__" qlX10 (xA1 "part" p1X10 p2X10) [stX10, xSt "part" p3X10 p4X10 p5X10 p6X10] (xSc (xN1 "part")) .none .none dcX10 pmX10 anX10 (.ref cdaX10) ctX10 ccX10), slX10⟩)
    (ciX10 : PySem.W.codeIn K (.ref cdaX10) qlX10 = true)
    (ssX10 : SupSt stX10)
    (ceX10 : K.lookup ccX10 = some ⟨clX10, cldX10, .cell (some (.ref e10)), cslX10⟩)
    (coX10 : K.lookup cdaX10 = some ⟨cclX10, cddX10, .fields vsX10, ccsX10⟩)
    (v2X10 : vsX10[2]? = some (.str flX10 tfX10))
    (fiX10 : flX10 = ("/claim/cut.py" : Str))
    (hgX10 : PySem.W.findIn K (.ref e10) "__getattribute__" = some (some (.builtin "BaseException.__getattribute__")))
    (hkX10 : PySem.W.findIn K (.ref e10) "__getattr__" = some none)
    (X10ha : PySem.W.findIn K (.ref e10) "__class__" = some (some (.builtin "object.__class__")))
    (X10hm : PySem.W.mroIn K e10 (.type "object") = some true)
    (sPX10 : PySem.W.subIn K (.ref e10) (.ref CP) = some true)
    (xX9 : K.lookup e9 = some (excClassObj nmX9 qX9 e9 NX9 bsX9 bmX9 true snX9 subX9 abX9 colX9 ddX9 q0X9 q1X9 q2X9 q3X9 q5X9 "ValueError.__new__"))
    (veX9 : PySem.HandSPX.refsVE bmX9 = true)
    (saX9 : PySem.W.findIn K (.ref e9) "__setattr__" = some (some (.builtin "object.__setattr__")))
    (iCX9 : PySem.W.findIn K (.ref e9) "__init__" = some (some (.ref fIX9)))
    (tCX9 : PySem.W.typeIn K (.ref fIX9) = some (.type "function"))
    (kCX9 : PySem.W.keepIn K (.ref e9) = true)
    (exCX9 : PySem.W.subIn K (.ref e9) (.type "BaseException") = some true)
    (veCX9 : PySem.W.subIn K (.ref e9) (.type "ValueError") = some true)
    (hdCX9 : PySem.W.hasDictIn K e9 = true)
    (suX9 : PySem.W.ks_superIn K e9 e9 "__init__" = some (some (.builtin "ValueError.__init__")))
    (mrX9 : PySem.W.mroIn K e9 (.ref e9) = some true)
    (noNX9 : PySem.W.findIn K (.ref e9) "name" = some none)
    (lIX9 : K.lookup fIX9 = some ⟨ocX9, odX9, .func (PySem.W.ksFn "__init__" qlX9 (xA1 "name" p1X9 p2X9) [stX9, xSt "name" p3X9 p4X9 p5X9 p6X9] (xSc (xN1 "name")) .none .none dcX9 pmX9 anX9 (.ref cdaX9) ctX9 ccX9), slX9⟩)
    (ciX9 : PySem.W.codeIn K (.ref cdaX9) qlX9 = true)
    (ssX9 : SupSt stX9)
    (ceX9 : K.lookup ccX9 = some ⟨clX9, cldX9, .cell (some (.ref e9)), cslX9⟩)
    (coX9 : K.lookup cdaX9 = some ⟨cclX9, cddX9, .fields vsX9, ccsX9⟩)
    (v2X9 : vsX9[2]? = some (.str flX9 tfX9))
    (fiX9 : flX9 = ("/claim/cut.py" : Str))
    (hgX9 : PySem.W.findIn K (.ref e9) "__getattribute__" = some (some (.builtin "BaseException.__getattribute__")))
    (hkX9 : PySem.W.findIn K (.ref e9) "__getattr__" = some none)
    (X9ha : PySem.W.findIn K (.ref e9) "__class__" = some (some (.builtin "object.__class__")))
    (X9hm : PySem.W.mroIn K e9 (.type "object") = some true)
    (sPX9 : PySem.W.subIn K (.ref e9) (.ref CP) = some true)
    (tp : PySem.W.nsIn K cStatics "thirdparty.any" = some none)
    (s0_1 : PySem.W.subIn K (.ref e0) (.ref e1) = some false)
    (z0_1 : (Value.ref e0 == Value.ref e1) = false)
    (s0_2 : PySem.W.subIn K (.ref e0) (.ref e2) = some false)
    (z0_2 : (Value.ref e0 == Value.ref e2) = false)
    (s0_3 : PySem.W.subIn K (.ref e0) (.ref e3) = some false)
    (z0_3 : (Value.ref e0 == Value.ref e3) = false)
    (s0_4 : PySem.W.subIn K (.ref e0) (.ref e4) = some false)
    (z0_4 : (Value.ref e0 == Value.ref e4) = false)
    (s0_5 : PySem.W.subIn K (.ref e0) (.ref e5) = some false)
    (z0_5 : (Value.ref e0 == Value.ref e5) = false)
    (s0_6 : PySem.W.subIn K (.ref e0) (.ref e6) = some false)
    (z0_6 : (Value.ref e0 == Value.ref e6) = false)
    (s0_7 : PySem.W.subIn K (.ref e0) (.ref e7) = some false)
    (z0_7 : (Value.ref e0 == Value.ref e7) = false)
    (s0_8 : PySem.W.subIn K (.ref e0) (.ref e8) = some false)
    (z0_8 : (Value.ref e0 == Value.ref e8) = false)
    (s0_9 : PySem.W.subIn K (.ref e0) (.ref e9) = some false)
    (z0_9 : (Value.ref e0 == Value.ref e9) = false)
    (s0_10 : PySem.W.subIn K (.ref e0) (.ref e10) = some false)
    (z0_10 : (Value.ref e0 == Value.ref e10) = false)
    (s0_11 : PySem.W.subIn K (.ref e0) (.ref e11) = some false)
    (z0_11 : (Value.ref e0 == Value.ref e11) = false)
    (s0_12 : PySem.W.subIn K (.ref e0) (.ref e12) = some false)
    (z0_12 : (Value.ref e0 == Value.ref e12) = false)
    (s2_0 : PySem.W.subIn K (.ref e2) (.ref e0) = some false)
    (z2_0 : (Value.ref e2 == Value.ref e0) = false)
    (s2_1 : PySem.W.subIn K (.ref e2) (.ref e1) = some false)
    (z2_1 : (Value.ref e2 == Value.ref e1) = false)
    (s2_3 : PySem.W.subIn K (.ref e2) (.ref e3) = some false)
    (z2_3 : (Value.ref e2 == Value.ref e3) = false)
    (s2_4 : PySem.W.subIn K (.ref e2) (.ref e4) = some false)
    (z2_4 : (Value.ref e2 == Value.ref e4) = false)
    (s2_5 : PySem.W.subIn K (.ref e2) (.ref e5) = some false)
    (z2_5 : (Value.ref e2 == Value.ref e5) = false)
    (s2_6 : PySem.W.subIn K (.ref e2) (.ref e6) = some false)
    (z2_6 : (Value.ref e2 == Value.ref e6) = false)
    (s2_7 : PySem.W.subIn K (.ref e2) (.ref e7) = some false)
    (z2_7 : (Value.ref e2 == Value.ref e7) = false)
    (s2_8 : PySem.W.subIn K (.ref e2) (.ref e8) = some false)
    (z2_8 : (Value.ref e2 == Value.ref e8) = false)
    (s2_9 : PySem.W.subIn K (.ref e2) (.ref e9) = some false)
    (z2_9 : (Value.ref e2 == Value.ref e9) = false)
    (s2_10 : PySem.W.subIn K (.ref e2) (.ref e10) = some false)
    (z2_10 : (Value.ref e2 == Value.ref e10) = false)
    (s2_11 : PySem.W.subIn K (.ref e2) (.ref e11) = some false)
    (z2_11 : (Value.ref e2 == Value.ref e11) = false)
    (s2_12 : PySem.W.subIn K (.ref e2) (.ref e12) = some false)
    (z2_12 : (Value.ref e2 == Value.ref e12) = false)
    (s3_0 : PySem.W.subIn K (.ref e3) (.ref e0) = some false)
    (z3_0 : (Value.ref e3 == Value.ref e0) = false)
    (s3_1 : PySem.W.subIn K (.ref e3) (.ref e1) = some false)
    (z3_1 : (Value.ref e3 == Value.ref e1) = false)
    (s3_2 : PySem.W.subIn K (.ref e3) (.ref e2) = some false)
    (z3_2 : (Value.ref e3 == Value.ref e2) = false)
    (s3_4 : PySem.W.subIn K (.ref e3) (.ref e4) = some false)
    (z3_4 : (Value.ref e3 == Value.ref e4) = false)
    (s3_5 : PySem.W.subIn K (.ref e3) (.ref e5) = some false)
    (z3_5 : (Value.ref e3 == Value.ref e5) = false)
    (s3_6 : PySem.W.subIn K (.ref e3) (.ref e6) = some false)
    (z3_6 : (Value.ref e3 == Value.ref e6) = false)
    (s3_7 : PySem.W.subIn K (.ref e3) (.ref e7) = some false)
    (z3_7 : (Value.ref e3 == Value.ref e7) = false)
    (s3_8 : PySem.W.subIn K (.ref e3) (.ref e8) = some false)
    (z3_8 : (Value.ref e3 == Value.ref e8) = false)
    (s3_9 : PySem.W.subIn K (.ref e3) (.ref e9) = some false)
    (z3_9 : (Value.ref e3 == Value.ref e9) = false)
    (s3_10 : PySem.W.subIn K (.ref e3) (.ref e10) = some false)
    (z3_10 : (Value.ref e3 == Value.ref e10) = false)
    (s3_11 : PySem.W.subIn K (.ref e3) (.ref e11) = some false)
    (z3_11 : (Value.ref e3 == Value.ref e11) = false)
    (s3_12 : PySem.W.subIn K (.ref e3) (.ref e12) = some false)
    (z3_12 : (Value.ref e3 == Value.ref e12) = false)
    (s10_0 : PySem.W.subIn K (.ref e10) (.ref e0) = some false)
    (z10_0 : (Value.ref e10 == Value.ref e0) = false)
    (s10_1 : PySem.W.subIn K (.ref e10) (.ref e1) = some false)
    (z10_1 : (Value.ref e10 == Value.ref e1) = false)
    (s10_2 : PySem.W.subIn K (.ref e10) (.ref e2) = some false)
    (z10_2 : (Value.ref e10 == Value.ref e2) = false)
    (s10_3 : PySem.W.subIn K (.ref e10) (.ref e3) = some false)
    (z10_3 : (Value.ref e10 == Value.ref e3) = false)
    (s10_4 : PySem.W.subIn K (.ref e10) (.ref e4) = some false)
    (z10_4 : (Value.ref e10 == Value.ref e4) = false)
    (s10_5 : PySem.W.subIn K (.ref e10) (.ref e5) = some false)
    (z10_5 : (Value.ref e10 == Value.ref e5) = false)
    (s10_6 : PySem.W.subIn K (.ref e10) (.ref e6) = some false)
    (z10_6 : (Value.ref e10 == Value.ref e6) = false)
    (s10_7 : PySem.W.subIn K (.ref e10) (.ref e7) = some false)
    (z10_7 : (Value.ref e10 == Value.ref e7) = false)
    (s10_8 : PySem.W.subIn K (.ref e10) (.ref e8) = some false)
    (z10_8 : (Value.ref e10 == Value.ref e8) = false)
    (s10_9 : PySem.W.subIn K (.ref e10) (.ref e9) = some false)
    (z10_9 : (Value.ref e10 == Value.ref e9) = false)
    (s10_11 : PySem.W.subIn K (.ref e10) (.ref e11) = some false)
    (z10_11 : (Value.ref e10 == Value.ref e11) = false)
    (s10_12 : PySem.W.subIn K (.ref e10) (.ref e12) = some false)
    (z10_12 : (Value.ref e10 == Value.ref e12) = false)
    (b_len : PySem.W.nsIn K mainGlobals "len" = some none)
    (b_int : PySem.W.nsIn K mainGlobals "int" = some none)
    (b_abs : PySem.W.nsIn K mainGlobals "abs" = some none)
    (b_isinstance : PySem.W.nsIn K mainGlobals "isinstance" = some none)
    (b_bool : PySem.W.nsIn K mainGlobals "bool" = some none)
    (b_str : PySem.W.nsIn K mainGlobals "str" = some none)
    (b_list : PySem.W.nsIn K mainGlobals "list" = some none)
    (b_tuple : PySem.W.nsIn K mainGlobals "tuple" = some none)
    (b_all : PySem.W.nsIn K mainGlobals "all" = some none)
    (b_range : PySem.W.nsIn K mainGlobals "range" = some none)
    (b_sorted : PySem.W.nsIn K mainGlobals "sorted" = some none)
    (b_super : PySem.W.nsIn K mainGlobals "super" = some none)
    (b_enumerate : PySem.W.nsIn K mainGlobals "enumerate" = some none)
    (b1 : PySem.W.nsIn K mainGlobals "LETTERS" = some (some (.str "abcdefghijklmnopqrstuvwxyz" t1)))
    (b2 : PySem.W.nsIn K mainGlobals "MOST_SORTS" = some (some (.int 6 t2)))
    (b3 : PySem.W.nsIn K mainGlobals "MOST_SYMBOLS" = some (some (.int 16 t3)))
    (b4 : PySem.W.nsIn K mainGlobals "MOST_ARGUMENTS" = some (some (.int 3 t4)))
    (b_MOST_WORDS : PySem.W.nsIn K mainGlobals "MOST_WORDS" = some (some (.int 400 t_MOST_WORDS)))
    : LamX.LawAtS PySem.Challenge.rw_rulepurse_k02_trees_spots w K C8.CX0 12 63 "script" mg fa hp := by
  have e := hfa.symm.trans (PySem.W.mg_of X G aL)
  cases e
  let Es : Nat → Addr := fun i => [e0, e1, e2, e3, e4, e5, e6, e7, e8, e9, e10, e11, e12].getD i 0
  have T : TxtB K mg := ⟨PySem.W.mg_none_of X G b_len, PySem.W.mg_none_of X G b_int, PySem.W.mg_none_of X G b_abs, PySem.W.mg_none_of X G b_isinstance, PySem.W.mg_none_of X G b_bool, PySem.W.mg_none_of X G b_str, PySem.W.mg_none_of X G b_list, PySem.W.mg_none_of X G b_tuple, PySem.W.mg_none_of X G b_all, PySem.W.mg_none_of X G b_range, PySem.W.mg_none_of X G b_sorted, ⟨_, PySem.W.mg_of X G b1⟩, ⟨_, PySem.W.mg_of X G b2⟩, ⟨_, PySem.W.mg_of X G b3⟩, ⟨_, PySem.W.mg_of X G b4⟩⟩
  have S : TxtS K mg C := ⟨⟨pg, hd, po, sa⟩, PySem.W.mg_of X G aC, n1, n2, n3, Sha, hn, ht, Shm, kit_self C⟩
  have E : TxtE mg CP Es := ⟨PySem.W.mg_of X G aP, PySem.W.mg_of X G ae0, PySem.W.mg_of X G ae1, PySem.W.mg_of X G ae2, PySem.W.mg_of X G ae3, PySem.W.mg_of X G ae4, PySem.W.mg_of X G ae5, PySem.W.mg_of X G ae6, PySem.W.mg_of X G ae7, PySem.W.mg_of X G ae8, PySem.W.mg_of X G ae9, PySem.W.mg_of X G ae10, PySem.W.mg_of X G ae11, PySem.W.mg_of X G ae12⟩
  have XG : XProg PySem.Challenge.rw_rulepurse_k02_trees_spots.prog mg := ⟨PySem.W.mg_none_of X G b_super, rfl, by decide +kernel⟩
  have XX0 : Xc K mg "BadNumber" "part" e0 fIX0 ccX0 cdaX0 := ⟨{ toXCls := ⟨⟨_, _, _, _, _, _, _, _, _, _, _, _, _, _, _, xX0, veX0⟩, saX0, iCX0, tCX0, kCX0, exCX0, veCX0, tye0, hdCX0, suX0, mrX0, tp, ⟨_, _, _, ceX0⟩, ⟨_, _, _, _, _, _, coX0, v2X0, fiX0⟩⟩, toXF1 := xf_part, noN := noNX0, fn := ⟨_, _, _, _, _, _, _, _, _, _, _, _, _, _, _, lIX0, ciX0, ssX0⟩ }, PySem.W.mg_of X G ae0⟩
  have DX0 : ExcD K e0 := ⟨hgX0, hkX0, exCX0, hdCX0, X0ha, hn, ht, X0hm⟩
  have EX0 : ErrC K CP e0 := ⟨exm_of exP icCP tyCP sPX0, DX0⟩
  have XX2 : Xc K mg "BadSigns" "part" e2 fIX2 ccX2 cdaX2 := ⟨{ toXCls := ⟨⟨_, _, _, _, _, _, _, _, _, _, _, _, _, _, _, xX2, veX2⟩, saX2, iCX2, tCX2, kCX2, exCX2, veCX2, tye2, hdCX2, suX2, mrX2, tp, ⟨_, _, _, ceX2⟩, ⟨_, _, _, _, _, _, coX2, v2X2, fiX2⟩⟩, toXF1 := xf_part, noN := noNX2, fn := ⟨_, _, _, _, _, _, _, _, _, _, _, _, _, _, _, lIX2, ciX2, ssX2⟩ }, PySem.W.mg_of X G ae2⟩
  have DX2 : ExcD K e2 := ⟨hgX2, hkX2, exCX2, hdCX2, X2ha, hn, ht, X2hm⟩
  have EX2 : ErrC K CP e2 := ⟨exm_of exP icCP tyCP sPX2, DX2⟩
  have XX3 : Xc K mg "BadTree" "part" e3 fIX3 ccX3 cdaX3 := ⟨{ toXCls := ⟨⟨_, _, _, _, _, _, _, _, _, _, _, _, _, _, _, xX3, veX3⟩, saX3, iCX3, tCX3, kCX3, exCX3, veCX3, tye3, hdCX3, suX3, mrX3, tp, ⟨_, _, _, ceX3⟩, ⟨_, _, _, _, _, _, coX3, v2X3, fiX3⟩⟩, toXF1 := xf_part, noN := noNX3, fn := ⟨_, _, _, _, _, _, _, _, _, _, _, _, _, _, _, lIX3, ciX3, ssX3⟩ }, PySem.W.mg_of X G ae3⟩
  have DX3 : ExcD K e3 := ⟨hgX3, hkX3, exCX3, hdCX3, X3ha, hn, ht, X3hm⟩
  have EX3 : ErrC K CP e3 := ⟨exm_of exP icCP tyCP sPX3, DX3⟩
  have XX10 : Xc K mg "Misfit" "part" e10 fIX10 ccX10 cdaX10 := ⟨{ toXCls := ⟨⟨_, _, _, _, _, _, _, _, _, _, _, _, _, _, _, xX10, veX10⟩, saX10, iCX10, tCX10, kCX10, exCX10, veCX10, tye10, hdCX10, suX10, mrX10, tp, ⟨_, _, _, ceX10⟩, ⟨_, _, _, _, _, _, coX10, v2X10, fiX10⟩⟩, toXF1 := xf_part, noN := noNX10, fn := ⟨_, _, _, _, _, _, _, _, _, _, _, _, _, _, _, lIX10, ciX10, ssX10⟩ }, PySem.W.mg_of X G ae10⟩
  have DX10 : ExcD K e10 := ⟨hgX10, hkX10, exCX10, hdCX10, X10ha, hn, ht, X10hm⟩
  have EX10 : ErrC K CP e10 := ⟨exm_of exP icCP tyCP sPX10, DX10⟩
  have XX9 : Xc K mg "NoName" "name" e9 fIX9 ccX9 cdaX9 := ⟨{ toXCls := ⟨⟨_, _, _, _, _, _, _, _, _, _, _, _, _, _, _, xX9, veX9⟩, saX9, iCX9, tCX9, kCX9, exCX9, veCX9, tye9, hdCX9, suX9, mrX9, tp, ⟨_, _, _, ceX9⟩, ⟨_, _, _, _, _, _, coX9, v2X9, fiX9⟩⟩, toXF1 := xf_name, noN := noNX9, fn := ⟨_, _, _, _, _, _, _, _, _, _, _, _, _, _, _, lIX9, ciX9, ssX9⟩ }, PySem.W.mg_of X G ae9⟩
  have DX9 : ExcD K e9 := ⟨hgX9, hkX9, exCX9, hdCX9, X9ha, hn, ht, X9hm⟩
  have EX9 : ErrC K CP e9 := ⟨exm_of exP icCP tyCP sPX9, DX9⟩
  have Fn_is_integer : C8.Def K mg "is_integer" (topS 18) f_is_integer _ := ⟨⟨_, _, _, _, _, _, _, _, _, _, rfl, l_is_integer, c_is_integer⟩, PySem.W.mg_of X G a_is_integer, k_is_integer⟩
  have B_is_integer := Fn_is_integer.fn.binds (ps := ["value"]) rfl fun _ _ _ _ _ _ us hl => match us, hl with | [_], _ => rfl
  have Fn_is_within : C8.Def K mg "is_within" (topS 19) f_is_within _ := ⟨⟨_, _, _, _, _, _, _, _, _, _, rfl, l_is_within, c_is_within⟩, PySem.W.mg_of X G a_is_within, k_is_within⟩
  have B_is_within := Fn_is_within.fn.binds (ps := ["value", "least", "most"]) rfl fun _ _ _ _ _ _ us hl => match us, hl with | [_, _, _], _ => rfl
  have Fn_is_listed : C8.Def K mg "is_listed" (topS 20) f_is_listed _ := ⟨⟨_, _, _, _, _, _, _, _, _, _, rfl, l_is_listed, c_is_listed⟩, PySem.W.mg_of X G a_is_listed, k_is_listed⟩
  have B_is_listed := Fn_is_listed.fn.binds (ps := ["value"]) rfl fun _ _ _ _ _ _ us hl => match us, hl with | [_], _ => rfl
  have Fn_is_row : C8.Def K mg "is_row" (topS 21) f_is_row _ := ⟨⟨_, _, _, _, _, _, _, _, _, _, rfl, l_is_row, c_is_row⟩, PySem.W.mg_of X G a_is_row, k_is_row⟩
  have B_is_row := Fn_is_row.fn.binds (ps := ["value", "many"]) rfl fun _ _ _ _ _ _ us hl => match us, hl with | [_, _], _ => rfl
  have Fn_is_name : C8.Def K mg "is_name" (topS 22) f_is_name _ := ⟨⟨_, _, _, _, _, _, _, _, _, _, rfl, l_is_name, c_is_name⟩, PySem.W.mg_of X G a_is_name, k_is_name⟩
  have B_is_name := Fn_is_name.fn.binds (ps := ["value"]) rfl fun _ _ _ _ _ _ us hl => match us, hl with | [_], _ => rfl
  have Fn_are_names : C8.Def K mg "are_names" (topS 23) f_are_names _ := ⟨⟨_, _, _, _, _, _, _, _, _, _, rfl, l_are_names, c_are_names⟩, PySem.W.mg_of X G a_are_names, k_are_names⟩
  have B_are_names := Fn_are_names.fn.binds (ps := ["value", "most"]) rfl fun _ _ _ _ _ _ us hl => match us, hl with | [_, _], _ => rfl
  have Fn_need_integer : C8.Def K mg "need_integer" (topS 24) f_need_integer _ := ⟨⟨_, _, _, _, _, _, _, _, _, _, rfl, l_need_integer, c_need_integer⟩, PySem.W.mg_of X G a_need_integer, k_need_integer⟩
  have B_need_integer := Fn_need_integer.fn.binds (ps := ["value", "part", "least", "most"]) rfl fun _ _ _ _ _ _ us hl => match us, hl with | [_, _, _, _], _ => rfl
  have Fn_fixed : C8.Def K mg "fixed" (topS 26) f_fixed _ := ⟨⟨_, _, _, _, _, _, _, _, _, _, rfl, l_fixed, c_fixed⟩, PySem.W.mg_of X G a_fixed, k_fixed⟩
  have B_fixed := Fn_fixed.fn.binds (ps := ["value"]) rfl fun _ _ _ _ _ _ us hl => match us, hl with | [_], _ => rfl
  have Fn_is_symbol : C8.Def K mg "is_symbol" (topS 31) f_is_symbol _ := ⟨⟨_, _, _, _, _, _, _, _, _, _, rfl, l_is_symbol, c_is_symbol⟩, PySem.W.mg_of X G a_is_symbol, k_is_symbol⟩
  have B_is_symbol := Fn_is_symbol.fn.binds (ps := ["value", "sorts"]) rfl fun _ _ _ _ _ _ us hl => match us, hl with | [_, _], _ => rfl
  have Fn_are_symbols : C8.Def K mg "are_symbols" (topS 32) f_are_symbols _ := ⟨⟨_, _, _, _, _, _, _, _, _, _, rfl, l_are_symbols, c_are_symbols⟩, PySem.W.mg_of X G a_are_symbols, k_are_symbols⟩
  have B_are_symbols := Fn_are_symbols.fn.binds (ps := ["value", "sorts"]) rfl fun _ _ _ _ _ _ us hl => match us, hl with | [_, _], _ => rfl
  have Fn_need_signs : C8.Def K mg "need_signs" (topS 34) f_need_signs _ := ⟨⟨_, _, _, _, _, _, _, _, _, _, rfl, l_need_signs, c_need_signs⟩, PySem.W.mg_of X G a_need_signs, k_need_signs⟩
  have B_need_signs := Fn_need_signs.fn.binds (ps := ["value"]) rfl fun _ _ _ _ _ _ us hl => match us, hl with | [_], _ => rfl
  have Fn_is_thing : C8.Def K mg "is_thing" (topS 37) f_is_thing _ := ⟨⟨_, _, _, _, _, _, _, _, _, _, rfl, l_is_thing, c_is_thing⟩, PySem.W.mg_of X G a_is_thing, k_is_thing⟩
  have B_is_thing := Fn_is_thing.fn.binds (ps := ["word"]) rfl fun _ _ _ _ _ _ us hl => match us, hl with | [_], _ => rfl
  have Fn_arity : C8.Def K mg "arity" (topS 38) f_arity _ := ⟨⟨_, _, _, _, _, _, _, _, _, _, rfl, l_arity, c_arity⟩, PySem.W.mg_of X G a_arity, k_arity⟩
  have B_arity := Fn_arity.fn.binds (ps := ["signs", "word"]) rfl fun _ _ _ _ _ _ us hl => match us, hl with | [_, _], _ => rfl
  have Fn_sort_at : C8.Def K mg "sort_at" (topS 39) f_sort_at _ := ⟨⟨_, _, _, _, _, _, _, _, _, _, rfl, l_sort_at, c_sort_at⟩, PySem.W.mg_of X G a_sort_at, k_sort_at⟩
  have B_sort_at := Fn_sort_at.fn.binds (ps := ["signs", "word"]) rfl fun _ _ _ _ _ _ us hl => match us, hl with | [_, _], _ => rfl
  have Fn_behind : C8.Def K mg "behind" (topS 40) f_behind _ := ⟨⟨_, _, _, _, _, _, _, _, _, _, rfl, l_behind, c_behind⟩, PySem.W.mg_of X G a_behind, k_behind⟩
  have B_behind := Fn_behind.fn.binds (ps := ["signs", "row", "spot"]) rfl fun _ _ _ _ _ _ us hl => match us, hl with | [_, _, _], _ => rfl
  have Fn_subtree : C8.Def K mg "subtree" (topS 41) f_subtree _ := ⟨⟨_, _, _, _, _, _, _, _, _, _, rfl, l_subtree, c_subtree⟩, PySem.W.mg_of X G a_subtree, k_subtree⟩
  have B_subtree := Fn_subtree.fn.binds (ps := ["signs", "row", "spot"]) rfl fun _ _ _ _ _ _ us hl => match us, hl with | [_, _, _], _ => rfl
  have Fn_replaced : C8.Def K mg "replaced" (topS 42) f_replaced _ := ⟨⟨_, _, _, _, _, _, _, _, _, _, rfl, l_replaced, c_replaced⟩, PySem.W.mg_of X G a_replaced, k_replaced⟩
  have B_replaced := Fn_replaced.fn.binds (ps := ["signs", "row", "spot", "other"]) rfl fun _ _ _ _ _ _ us hl => match us, hl with | [_, _, _, _], _ => rfl
  have Fn_parts_of : C8.Def K mg "parts_of" (topS 43) f_parts_of _ := ⟨⟨_, _, _, _, _, _, _, _, _, _, rfl, l_parts_of, c_parts_of⟩, PySem.W.mg_of X G a_parts_of, k_parts_of⟩
  have B_parts_of := Fn_parts_of.fn.binds (ps := ["signs", "row"]) rfl fun _ _ _ _ _ _ us hl => match us, hl with | [_, _], _ => rfl
  have Fn_inner_nodes : C8.Def K mg "inner_nodes" (topS 44) f_inner_nodes _ := ⟨⟨_, _, _, _, _, _, _, _, _, _, rfl, l_inner_nodes, c_inner_nodes⟩, PySem.W.mg_of X G a_inner_nodes, k_inner_nodes⟩
  have B_inner_nodes := Fn_inner_nodes.fn.binds (ps := ["signs", "row"]) rfl fun _ _ _ _ _ _ us hl => match us, hl with | [_, _], _ => rfl
  have Fn_fits : C8.Def K mg "fits" (topS 45) f_fits _ := ⟨⟨_, _, _, _, _, _, _, _, _, _, rfl, l_fits, c_fits⟩, PySem.W.mg_of X G a_fits, k_fits⟩
  have B_fits := Fn_fits.fn.binds (ps := ["signs", "word", "sort", "is_leaf"]) rfl fun _ _ _ _ _ _ us hl => match us, hl with | [_, _, _, _], _ => rfl
  have Fn_is_told : C8.Def K mg "is_told" (topS 46) f_is_told _ := ⟨⟨_, _, _, _, _, _, _, _, _, _, rfl, l_is_told, c_is_told⟩, PySem.W.mg_of X G a_is_told, k_is_told⟩
  have B_is_told := Fn_is_told.fn.binds (ps := ["signs", "value", "sort", "is_leaf"]) rfl fun _ _ _ _ _ _ us hl => match us, hl with | [_, _, _, _], _ => rfl
  have Fn_is_tree : C8.Fun K "is_tree" "is_tree" (topS 47) f_is_tree _ := ⟨_, _, _, _, _, _, _, _, _, _, rfl, l_is_tree, c_is_tree⟩
  have FD_is_tree : FunD K "is_tree" "is_tree" (C8.fnArgs (topS 47)) (C8.fnBody (topS 47)) (C8.fnScope (topS 47)) [.non] [] f_is_tree _ := ⟨⟨_, _, _, _, _, _, _, _, _, _, rfl, l_is_tree, c_is_tree, .inr ⟨by simp, T_is_tree, _, [.none], _, rfl, lT_is_tree, rfl, .cons rfl (.nil)⟩, .inl rfl⟩, k_is_tree⟩
  obtain ⟨ds2_is_tree, rd2_is_tree, B2_is_tree⟩ := FD_is_tree.binds1 (ps := ["signs", "value", "sort"]) 2 0 (by simp) (by rfl) fun _ _ _ _ _ _ _ us its l1 l2 => match us, its, l1, l2 with | [_, _], [_], _, _ => ⟨_, rfl, rfl⟩
  have rd2_is_tree : Vals [.non] ds2_is_tree := rd2_is_tree
  obtain ⟨ds3_is_tree, rd3_is_tree, B3_is_tree⟩ := FD_is_tree.binds1 (ps := ["signs", "value", "sort"]) 3 1 (by simp) (by rfl) fun _ _ _ _ _ _ _ us its l1 l2 => match us, its, l1, l2 with | [_, _, _], [_], _, _ => ⟨_, rfl, rfl⟩
  have rd3_is_tree : Vals [] ds3_is_tree := rd3_is_tree
  have Fn_need_tree : C8.Fun K "need_tree" "need_tree" (topS 48) f_need_tree _ := ⟨_, _, _, _, _, _, _, _, _, _, rfl, l_need_tree, c_need_tree⟩
  have FD_need_tree : FunD K "need_tree" "need_tree" (C8.fnArgs (topS 48)) (C8.fnBody (topS 48)) (C8.fnScope (topS 48)) [(.str "tree")] [] f_need_tree _ := ⟨⟨_, _, _, _, _, _, _, _, _, _, rfl, l_need_tree, c_need_tree, .inr ⟨by simp, T_need_tree, _, [(.str "tree" tk0_need_tree)], _, rfl, lT_need_tree, rfl, .cons ⟨_, rfl⟩ (.nil)⟩, .inl rfl⟩, k_need_tree⟩
  obtain ⟨ds2_need_tree, rd2_need_tree, B2_need_tree⟩ := FD_need_tree.binds1 (ps := ["signs", "value", "part"]) 2 0 (by simp) (by rfl) fun _ _ _ _ _ _ _ us its l1 l2 => match us, its, l1, l2 with | [_, _], [_], _, _ => ⟨_, rfl, rfl⟩
  have rd2_need_tree : Vals [(.str "tree")] ds2_need_tree := rd2_need_tree
  obtain ⟨ds3_need_tree, rd3_need_tree, B3_need_tree⟩ := FD_need_tree.binds1 (ps := ["signs", "value", "part"]) 3 1 (by simp) (by rfl) fun _ _ _ _ _ _ _ us its l1 l2 => match us, its, l1, l2 with | [_, _, _], [_], _, _ => ⟨_, rfl, rfl⟩
  have rd3_need_tree : Vals [] ds3_need_tree := rd3_need_tree
  have Fn_tree_sort : C8.Def K mg "tree_sort" (topS 50) f_tree_sort _ := ⟨⟨_, _, _, _, _, _, _, _, _, _, rfl, l_tree_sort, c_tree_sort⟩, PySem.W.mg_of X G a_tree_sort, k_tree_sort⟩
  have B_tree_sort := Fn_tree_sort.fn.binds (ps := ["signs", "tree"]) rfl fun _ _ _ _ _ _ us hl => match us, hl with | [_, _], _ => rfl
  have Fn_part_at : C8.Def K mg "part_at" (topS 51) f_part_at _ := ⟨⟨_, _, _, _, _, _, _, _, _, _, rfl, l_part_at, c_part_at⟩, PySem.W.mg_of X G a_part_at, k_part_at⟩
  have B_part_at := Fn_part_at.fn.binds (ps := ["signs", "tree", "spot"]) rfl fun _ _ _ _ _ _ us hl => match us, hl with | [_, _, _], _ => rfl
  have Fn_with_part : C8.Def K mg "with_part" (topS 52) f_with_part _ := ⟨⟨_, _, _, _, _, _, _, _, _, _, rfl, l_with_part, c_with_part⟩, PySem.W.mg_of X G a_with_part, k_with_part⟩
  have B_with_part := Fn_with_part.fn.binds (ps := ["signs", "tree", "spot", "other"]) rfl fun _ _ _ _ _ _ us hl => match us, hl with | [_, _, _, _], _ => rfl
  have Fn_arguments_of : C8.Def K mg "arguments_of" (topS 53) f_arguments_of _ := ⟨⟨_, _, _, _, _, _, _, _, _, _, rfl, l_arguments_of, c_arguments_of⟩, PySem.W.mg_of X G a_arguments_of, k_arguments_of⟩
  have B_arguments_of := Fn_arguments_of.fn.binds (ps := ["signs", "tree"]) rfl fun _ _ _ _ _ _ us hl => match us, hl with | [_, _], _ => rfl
  have Fn_many_inner : C8.Def K mg "many_inner" (topS 54) f_many_inner _ := ⟨⟨_, _, _, _, _, _, _, _, _, _, rfl, l_many_inner, c_many_inner⟩, PySem.W.mg_of X G a_many_inner, k_many_inner⟩
  have B_many_inner := Fn_many_inner.fn.binds (ps := ["signs", "tree"]) rfl fun _ _ _ _ _ _ us hl => match us, hl with | [_, _], _ => rfl
  have Fn__law_pen : C8.Def K mg "_law_pen" (topS 56) f__law_pen _ := ⟨⟨_, _, _, _, _, _, _, _, _, _, rfl, l__law_pen, c__law_pen⟩, PySem.W.mg_of X G a__law_pen, k__law_pen⟩
  have B__law_pen := Fn__law_pen.fn.binds (ps := ["script"]) rfl fun _ _ _ _ _ _ us hl => match us, hl with | [_], _ => rfl
  have Fn__law_draw : C8.Def K mg "_law_draw" (topS 57) f__law_draw _ := ⟨⟨_, _, _, _, _, _, _, _, _, _, rfl, l__law_draw, c__law_draw⟩, PySem.W.mg_of X G a__law_draw, k__law_draw⟩
  have B__law_draw := Fn__law_draw.fn.binds (ps := ["pen", "many"]) rfl fun _ _ _ _ _ _ us hl => match us, hl with | [_, _], _ => rfl
  have Fn__law_pick : C8.Def K mg "_law_pick" (topS 58) f__law_pick _ := ⟨⟨_, _, _, _, _, _, _, _, _, _, rfl, l__law_pick, c__law_pick⟩, PySem.W.mg_of X G a__law_pick, k__law_pick⟩
  have B__law_pick := Fn__law_pick.fn.binds (ps := ["pen", "some"]) rfl fun _ _ _ _ _ _ us hl => match us, hl with | [_, _], _ => rfl
  have Fn__law_heard : C8.Def K mg "_law_heard" (topS 59) f__law_heard _ := ⟨⟨_, _, _, _, _, _, _, _, _, _, rfl, l__law_heard, c__law_heard⟩, PySem.W.mg_of X G a__law_heard, k__law_heard⟩
  have B__law_heard := Fn__law_heard.fn.binds (ps := ["ask"]) rfl fun _ _ _ _ _ _ us hl => match us, hl with | [_], _ => rfl
  have Fn__law_world : C8.Def K mg "_law_world" (topS 60) f__law_world _ := ⟨⟨_, _, _, _, _, _, _, _, _, _, rfl, l__law_world, c__law_world⟩, PySem.W.mg_of X G a__law_world, k__law_world⟩
  have B__law_world := Fn__law_world.fn.binds (ps := ["pen"]) rfl fun _ _ _ _ _ _ us hl => match us, hl with | [_], _ => rfl
  have Fn__law_signs : C8.Def K mg "_law_signs" (topS 61) f__law_signs _ := ⟨⟨_, _, _, _, _, _, _, _, _, _, rfl, l__law_signs, c__law_signs⟩, PySem.W.mg_of X G a__law_signs, k__law_signs⟩
  have B__law_signs := Fn__law_signs.fn.binds (ps := ["world"]) rfl fun _ _ _ _ _ _ us hl => match us, hl with | [_], _ => rfl
  have Fn__law_args : C8.Def K mg "_law_args" (topS 62) f__law_args _ := ⟨⟨_, _, _, _, _, _, _, _, _, _, rfl, l__law_args, c__law_args⟩, PySem.W.mg_of X G a__law_args, k__law_args⟩
  have B__law_args := Fn__law_args.fn.binds (ps := ["world", "word"]) rfl fun _ _ _ _ _ _ us hl => match us, hl with | [_, _], _ => rfl
  have Fn__law_sort : C8.Def K mg "_law_sort" (topS 63) f__law_sort _ := ⟨⟨_, _, _, _, _, _, _, _, _, _, rfl, l__law_sort, c__law_sort⟩, PySem.W.mg_of X G a__law_sort, k__law_sort⟩
  have B__law_sort := Fn__law_sort.fn.binds (ps := ["world", "word"]) rfl fun _ _ _ _ _ _ us hl => match us, hl with | [_, _], _ => rfl
  have Fn__law_behind : C8.Def K mg "_law_behind" (topS 64) f__law_behind _ := ⟨⟨_, _, _, _, _, _, _, _, _, _, rfl, l__law_behind, c__law_behind⟩, PySem.W.mg_of X G a__law_behind, k__law_behind⟩
  have B__law_behind := Fn__law_behind.fn.binds (ps := ["world", "tree"]) rfl fun _ _ _ _ _ _ us hl => match us, hl with | [_, _], _ => rfl
  have Fn__law_tree : C8.Def K mg "_law_tree" (topS 65) f__law_tree _ := ⟨⟨_, _, _, _, _, _, _, _, _, _, rfl, l__law_tree, c__law_tree⟩, PySem.W.mg_of X G a__law_tree, k__law_tree⟩
  have B__law_tree := Fn__law_tree.fn.binds (ps := ["pen", "world", "sort", "deep"]) rfl fun _ _ _ _ _ _ us hl => match us, hl with | [_, _, _, _], _ => rfl
  have Fn__law_is_tree : C8.Def K mg "_law_is_tree" (topS 66) f__law_is_tree _ := ⟨⟨_, _, _, _, _, _, _, _, _, _, rfl, l__law_is_tree, c__law_is_tree⟩, PySem.W.mg_of X G a__law_is_tree, k__law_is_tree⟩
  have B__law_is_tree := Fn__law_is_tree.fn.binds (ps := ["world", "value", "sort"]) rfl fun _ _ _ _ _ _ us hl => match us, hl with | [_, _, _], _ => rfl
  have Fn_m__init__ : C8.Fun K "__init__" "Signs.__init__" (mS 0) g___init__ _ := ⟨_, _, _, _, _, _, _, _, _, _, rfl, l_m__init__, c_m__init__⟩
  have B_m__init__ := Fn_m__init__.binds (ps := ["self", "sorts", "symbols"]) rfl fun _ _ _ _ _ _ us hl => match us, hl with | [_, _, _], _ => rfl
  have Fn_mneed_symbol : C8.Fun K "need_symbol" "Signs.need_symbol" (mS 2) g_need_symbol _ := ⟨_, _, _, _, _, _, _, _, _, _, rfl, l_mneed_symbol, c_mneed_symbol⟩
  have B_mneed_symbol := Fn_mneed_symbol.binds (ps := ["self", "name"]) rfl fun _ _ _ _ _ _ us hl => match us, hl with | [_, _], _ => rfl
  have Fn_marguments : C8.Fun K "arguments" "Signs.arguments" (mS 3) g_arguments _ := ⟨_, _, _, _, _, _, _, _, _, _, rfl, l_marguments, c_marguments⟩
  have B_marguments := Fn_marguments.binds (ps := ["self", "name"]) rfl fun _ _ _ _ _ _ us hl => match us, hl with | [_, _], _ => rfl
  have Fn_msort_of : C8.Fun K "sort_of" "Signs.sort_of" (mS 4) g_sort_of _ := ⟨_, _, _, _, _, _, _, _, _, _, rfl, l_msort_of, c_msort_of⟩
  have B_msort_of := Fn_msort_of.binds (ps := ["self", "name"]) rfl fun _ _ _ _ _ _ us hl => match us, hl with | [_, _], _ => rfl
  have MK : Mk K C g___init__ := ⟨mk, a_m__init__, i_m__init__, kC⟩
  have KD : KitD K C := fun d => by
    cases d with
    | none => exact kit_noV icC tyC sT_NoneType rfl
    | bool _ => exact kit_noV icC tyC sT_bool rfl
    | int _ => exact kit_noV icC tyC sT_int rfl
    | str _ => exact kit_noV icC tyC sT_str rfl
    | list _ => exact kit_noV icC tyC sT_list rfl
    | tuple _ => exact kit_noV icC tyC sT_tuple rfl
    | dict _ => exact kit_noV icC tyC sT_dict rfl
  have KP0 : KitP K Es e0 "number" (fun w => decide (w = "number")) := by
    refine ⟨kit_no ice12 tye12 s0_12 z0_12, kit_no ice11 tye11 s0_11 z0_11, kit_no ice9 tye9 s0_9 z0_9, noNX0, fun p hp => ?_, fun p hp => ?_, fun p hp => ?_, words_number Es⟩
    · simp only [ws1, ws2, ws3, List.mem_cons, List.not_mem_nil, or_false] at hp
      rcases hp with rfl | rfl | rfl | rfl
      · exact kit_self e0
      · exact kit_no ice1 tye1 s0_1 z0_1
      · exact kit_no ice2 tye2 s0_2 z0_2
      · exact kit_no ice3 tye3 s0_3 z0_3
    · simp only [ws1, ws2, ws3, List.mem_cons, List.not_mem_nil, or_false] at hp
      rcases hp with rfl | rfl | rfl | rfl
      · exact kit_no ice4 tye4 s0_4 z0_4
      · exact kit_no ice5 tye5 s0_5 z0_5
      · exact kit_no ice6 tye6 s0_6 z0_6
      · exact kit_no ice7 tye7 s0_7 z0_7
    · simp only [ws1, ws2, ws3, List.mem_cons, List.not_mem_nil, or_false] at hp
      rcases hp with rfl | rfl
      · exact kit_no ice8 tye8 s0_8 z0_8
      · exact kit_no ice10 tye10 s0_10 z0_10
  have KP2 : KitP K Es e2 "signs" (fun w => decide (w = "signs")) := by
    refine ⟨kit_no ice12 tye12 s2_12 z2_12, kit_no ice11 tye11 s2_11 z2_11, kit_no ice9 tye9 s2_9 z2_9, noNX2, fun p hp => ?_, fun p hp => ?_, fun p hp => ?_, words_signs Es⟩
    · simp only [ws1, ws2, ws3, List.mem_cons, List.not_mem_nil, or_false] at hp
      rcases hp with rfl | rfl | rfl | rfl
      · exact kit_no ice0 tye0 s2_0 z2_0
      · exact kit_no ice1 tye1 s2_1 z2_1
      · exact kit_self e2
      · exact kit_no ice3 tye3 s2_3 z2_3
    · simp only [ws1, ws2, ws3, List.mem_cons, List.not_mem_nil, or_false] at hp
      rcases hp with rfl | rfl | rfl | rfl
      · exact kit_no ice4 tye4 s2_4 z2_4
      · exact kit_no ice5 tye5 s2_5 z2_5
      · exact kit_no ice6 tye6 s2_6 z2_6
      · exact kit_no ice7 tye7 s2_7 z2_7
    · simp only [ws1, ws2, ws3, List.mem_cons, List.not_mem_nil, or_false] at hp
      rcases hp with rfl | rfl
      · exact kit_no ice8 tye8 s2_8 z2_8
      · exact kit_no ice10 tye10 s2_10 z2_10
  have KP3 : KitP K Es e3 "tree" (fun w => decide (w = "tree")) := by
    refine ⟨kit_no ice12 tye12 s3_12 z3_12, kit_no ice11 tye11 s3_11 z3_11, kit_no ice9 tye9 s3_9 z3_9, noNX3, fun p hp => ?_, fun p hp => ?_, fun p hp => ?_, words_tree Es⟩
    · simp only [ws1, ws2, ws3, List.mem_cons, List.not_mem_nil, or_false] at hp
      rcases hp with rfl | rfl | rfl | rfl
      · exact kit_no ice0 tye0 s3_0 z3_0
      · exact kit_no ice1 tye1 s3_1 z3_1
      · exact kit_no ice2 tye2 s3_2 z3_2
      · exact kit_self e3
    · simp only [ws1, ws2, ws3, List.mem_cons, List.not_mem_nil, or_false] at hp
      rcases hp with rfl | rfl | rfl | rfl
      · exact kit_no ice4 tye4 s3_4 z3_4
      · exact kit_no ice5 tye5 s3_5 z3_5
      · exact kit_no ice6 tye6 s3_6 z3_6
      · exact kit_no ice7 tye7 s3_7 z3_7
    · simp only [ws1, ws2, ws3, List.mem_cons, List.not_mem_nil, or_false] at hp
      rcases hp with rfl | rfl
      · exact kit_no ice8 tye8 s3_8 z3_8
      · exact kit_no ice10 tye10 s3_10 z3_10
  have KP10 : KitP K Es e10 "misfit" (fun w => decide (w = "misfit")) := by
    refine ⟨kit_no ice12 tye12 s10_12 z10_12, kit_no ice11 tye11 s10_11 z10_11, kit_no ice9 tye9 s10_9 z10_9, noNX10, fun p hp => ?_, fun p hp => ?_, fun p hp => ?_, words_misfit Es⟩
    · simp only [ws1, ws2, ws3, List.mem_cons, List.not_mem_nil, or_false] at hp
      rcases hp with rfl | rfl | rfl | rfl
      · exact kit_no ice0 tye0 s10_0 z10_0
      · exact kit_no ice1 tye1 s10_1 z10_1
      · exact kit_no ice2 tye2 s10_2 z10_2
      · exact kit_no ice3 tye3 s10_3 z10_3
    · simp only [ws1, ws2, ws3, List.mem_cons, List.not_mem_nil, or_false] at hp
      rcases hp with rfl | rfl | rfl | rfl
      · exact kit_no ice4 tye4 s10_4 z10_4
      · exact kit_no ice5 tye5 s10_5 z10_5
      · exact kit_no ice6 tye6 s10_6 z10_6
      · exact kit_no ice7 tye7 s10_7 z10_7
    · simp only [ws1, ws2, ws3, List.mem_cons, List.not_mem_nil, or_false] at hp
      rcases hp with rfl | rfl
      · exact kit_no ice8 tye8 s10_8 z10_8
      · exact kit_self e10
  refine ⟨PySem.W.fnOf "law" "law" (C8.fnArgs (topS 67)) (C8.fnBody (topS 67)) (C8.fnScope (topS 67)) .none kVL dcL pmL anL (.ref cL) ctL, [(cL, Pt)], spLaw K Pt, fun p hq => ?_, fun p hq => ?_, fun p hq => ?_, fun s u => .of_eq rfl, fun H a ns hn _ ht hs => ⟨a, ns, rfl, hs, hn, ht (cL, Pt) List.mem_cons_self, fun _ => rfl⟩, fun base KB GB TB => ?_⟩
  · cases List.mem_singleton.mp hq
    exact hT
  · cases List.mem_singleton.mp hq
    exact nP
  · cases List.mem_singleton.mp hq
    exact PySem.W.codeHd_of_K X hdL
  have TB := TB (cL, Pt) List.mem_cons_self
  let P : Program := PySem.Challenge.rw_rulepurse_k02_trees_spots.prog
  have G_is_integer : C8.Cal P w K mg base 1 "is_integer" (spP F_is_integer) [] := ok_is_integer Fn_is_integer B_is_integer T
  have G_is_within : C8.Cal P w K mg base 2 "is_within" (spP F_is_within) [] := ok_is_within Fn_is_within B_is_within T G_is_integer
  have G_is_listed : C8.Cal P w K mg base 1 "is_listed" (spP F_is_listed) [] := ok_is_listed Fn_is_listed B_is_listed T
  have G_is_row : C8.Cal P w K mg base 2 "is_row" (spP F_is_row) [] := ok_is_row Fn_is_row B_is_row T G_is_listed
  have G_is_name : C8.Cal P w K mg base 1 "is_name" (spP F_is_name) [] := ok_is_name Fn_is_name B_is_name T
  have G_are_names : C8.Cal P w K mg base 2 "are_names" (spP F_are_names) [] := ok_are_names Fn_are_names B_are_names T G_is_listed G_is_name
  have G_fixed : C8.Cal P w K mg base 4 "fixed" (spP (F_fixed 4)) [] := ok_fixed Fn_fixed B_fixed T 4
  have G_is_symbol : C8.Cal P w K mg base 3 "is_symbol" (spP F_is_symbol) [] := ok_is_symbol Fn_is_symbol B_is_symbol T G_is_listed G_is_row G_is_name
  have G_are_symbols : C8.Cal P w K mg base 4 "are_symbols" (spP F_are_symbols) [] := ok_are_symbols Fn_are_symbols B_are_symbols T G_is_listed G_is_symbol G_are_names
  have G__law_pen : C8.Cal P w K mg base 1 "_law_pen" (spPen K) [] := ok_pen Fn__law_pen B__law_pen T
  have G__law_draw : C8.Cal P w K mg base 1 "_law_draw" spDraw [] := ok_draw Fn__law_draw B__law_draw T
  have G__law_pick : C8.Cal P w K mg base 2 "_law_pick" spPick [] := ok_pick Fn__law_pick B__law_pick T G__law_draw
  have FS : FnOk P w K mg base (L2.CX P w) 6 g___init__ _ ["self", "sorts", "symbols"] (spSigns C e2) := ok_SignsF Fn_m__init__ T S XX2 XG G_are_names G_are_symbols G_fixed
  have K_Signs : MakX P w K mg base 6 "Signs" C (spSigns C e2) [] := ⟨_, _, _, [], MK, FS, S.m, B_m__init__, .nil⟩
  have M_need : MetX P w K mg base 3 C "need_symbol" (spNeed C e9) [] := ok_need ⟨a_mneed_symbol, i_mneed_symbol, k_mneed_symbol⟩ Fn_mneed_symbol B_mneed_symbol T S XX9 XG
  have M_arguments : MetX P w K mg base 4 C "arguments" (spPart C e9 fun r => .tuple (strsD r.args)) [] := ok_arguments ⟨a_marguments, i_marguments, k_marguments⟩ Fn_marguments B_marguments S M_need
  have M_sort_of : MetX P w K mg base 4 C "sort_of" (spPart C e9 fun r => .str r.sort) [] := ok_sort_of ⟨a_msort_of, i_msort_of, k_msort_of⟩ Fn_msort_of B_msort_of S M_need
  have G_need_signs : CalX P w K mg base 3 "need_signs" (spNeedSigns C e2) [] := ok_need_signs Fn_need_signs B_need_signs T S KD XX2 XG
  have G_is_thing : C8.Cal P w K mg base 2 "is_thing" (spP F_is_thing) [] := ok_is_thing Fn_is_thing B_is_thing T G_is_listed G_is_name
  have m_thing : mg "is_thing" = some (.ref f_is_thing) := PySem.W.mg_of X G a_is_thing
  have G_fits : C8.Cal P w K mg base 5 "fits" (spFits C f_is_thing isThing) [] := ok_fits Fn_fits B_fits T S (calAt_of G_is_thing m_thing) thing_leaf M_sort_of
  have G_is_told : C8.Cal P w K mg base 6 "is_told" (spTold C f_is_thing isThing) [] := ok_is_told Fn_is_told B_is_told T S (fun _ => rfl) G_is_listed G_fits M_arguments
  have FT : FnOk P w K mg base C8.CX0 7 f_is_tree _ ["signs", "value", "sort"] (spTree C) := ok_is_treeF Fn_is_tree T ⟨_, PySem.W.mg_of X G b_MOST_WORDS⟩ m_thing G_is_listed G_is_told
  have G_is_tree : C8.Cal P w K mg base 7 "is_tree" (spTree C) [.non] := ⟨_, _, _, _, FT, PySem.W.mg_of X G a_is_tree, k_is_tree, B2_is_tree, rd2_is_tree⟩
  have G_is_tree3 : C8.Cal P w K mg base 7 "is_tree" (spTree C) [] := ⟨_, _, _, _, FT, PySem.W.mg_of X G a_is_tree, k_is_tree, B3_is_tree, rd3_is_tree⟩
  have FNT : FnOk P w K mg base (L2.CX P w) 8 f_need_tree _ ["signs", "value", "part"] (spNeedTree C e3) := ok_need_treeF Fn_need_tree T XX3 XG G_is_tree G_fixed
  have G_need_tree : CalX P w K mg base 8 "need_tree" (spNeedTree C e3) [.str "tree"] := ⟨_, _, _, _, FNT, PySem.W.mg_of X G a_need_tree, k_need_tree, B2_need_tree, rd2_need_tree⟩
  have G_need_tree3 : CalX P w K mg base 8 "need_tree" (spNeedTree C e3) [] := ⟨_, _, _, _, FNT, PySem.W.mg_of X G a_need_tree, k_need_tree, B3_need_tree, rd3_need_tree⟩
  have G_need_integer : CalX P w K mg base 3 "need_integer" (spNeedInt e0) [] := ok_need_integer Fn_need_integer B_need_integer XX0 XG G_is_within
  have G_arity : C8.Cal P w K mg base 1 "arity" (spArity C) [] := ok_arity Fn_arity B_arity T S
  have G_sort_at : C8.Cal P w K mg base 5 "sort_at" (spSortAt C) [] := ok_sort_at Fn_sort_at B_sort_at T S M_sort_of
  have G_behind : C8.Cal P w K mg base 2 "behind" (spBehind C) [] := ok_behind Fn_behind B_behind T G_arity
  have G_subtree : C8.Cal P w K mg base 3 "subtree" (spSubtree C) [] := ok_subtree Fn_subtree B_subtree G_behind
  have G_replaced : C8.Cal P w K mg base 3 "replaced" (spReplaced C) [] := ok_replaced Fn_replaced B_replaced G_behind
  have G_parts_of : C8.Cal P w K mg base 3 "parts_of" (spPartsOf C) [] := ok_parts_of Fn_parts_of B_parts_of T G_arity G_behind
  have G_inner_nodes : C8.Cal P w K mg base 2 "inner_nodes" (spInner C) [] := ok_inner_nodes Fn_inner_nodes B_inner_nodes T G_arity
  have G_tree_sort : CalX P w K mg base 9 "tree_sort" (spTreeSort C e2 e3) [] := ok_tree_sort Fn_tree_sort B_tree_sort G_need_signs G_need_tree G_sort_at
  have G_part_at : CalX P w K mg base 9 "part_at" (spPartAt C e2 e3 e0) [] := ok_part_at Fn_part_at B_part_at T G_need_signs G_need_tree G_need_integer G_subtree
  have G_with_part : CalX P w K mg base 9 "with_part" (spWithPart C e2 e3 e0 e10) [] := ok_with_part Fn_with_part B_with_part T G_need_signs G_need_tree G_need_tree3 G_need_integer G_sort_at G_replaced XX10 XG
  have G_arguments_of : CalX P w K mg base 9 "arguments_of" (spArgsOf C e2 e3) [] := ok_arguments_of Fn_arguments_of B_arguments_of T G_need_signs G_need_tree G_parts_of
  have G_many_inner : CalX P w K mg base 9 "many_inner" (spManyInner C e2 e3) [] := ok_many_inner Fn_many_inner B_many_inner G_need_signs G_need_tree G_inner_nodes
  have G__law_world : C8.Cal P w K mg base 3 "_law_world" spWorld [] := ok_world Fn__law_world B__law_world G__law_pick
  have G__law_signs : C8.Cal P w K mg base 8 "_law_signs" (spLSigns C) [] := ok_lsigns Fn__law_signs B__law_signs K_Signs
  have G__law_args : C8.Cal P w K mg base 1 "_law_args" spLArgs [] := ok_largs Fn__law_args B__law_args T
  have G__law_sort : C8.Cal P w K mg base 1 "_law_sort" spLSort [] := ok_lsort Fn__law_sort B__law_sort T
  have G__law_behind : C8.Cal P w K mg base 2 "_law_behind" spLBehind [] := ok_lbehind Fn__law_behind B__law_behind T G__law_args
  have TR : C8.Cal P w K mg base 8 "_law_tree" spLTreeA [] := ok_ltree Fn__law_tree B__law_tree T G__law_draw G__law_pick
  have G__law_is_tree : C8.Cal P w K mg base 2 "_law_is_tree" spLIsTree [] := ok_listree Fn__law_is_tree B__law_is_tree T (PySem.W.mg_none_of X G b_enumerate) G__law_args G__law_sort
  have KB : KBn K (PySem.W.fnOf "is_tree" "is_tree" (C8.fnArgs (topS 47)) (C8.fnBody (topS 47)) (C8.fnScope (topS 47)) (.ref T_is_tree) kV_is_tree dc_is_tree pm_is_tree an_is_tree cd_is_tree ct_is_tree) ["signs", "value", "sort"] 1 ["value", "sort"] (kwG Value.none) (kwG V.non) := by
    refine ⟨fun s us ws X h1 h2 => ?_, fun ru rw => .cons (vals_getD ru 0) (.cons (vals_getD rw 0) (.cons (vals_getD rw 1) .nil))⟩
    match us, ws, h1, h2 with
    | [a], [b, c], _, _ =>
      refine BindsTo.of_looks fun M => ?_
      have e0 := kw_pos T_is_tree kV_is_tree dc_is_tree pm_is_tree cd_is_tree ct_is_tree an_is_tree a b c
      have e1 := kw_two T_is_tree kV_is_tree dc_is_tree pm_is_tree cd_is_tree ct_is_tree an_is_tree a b c
      obtain ⟨k, e1, e2⟩ := e1
      show PySem.W.Looks M s.heap (bindArgs _ ⟨[a], [("value", b), ("sort", c)]⟩) _
      rw [e0, e1]
      exact looks_items X lT_is_tree rfl (.of_pure e2)
  have L : LawC P w K mg base C e2 e3 e0 e10 CP Es :=
    { T := T, S := S, E := E, KD := KD, G__law_pen := G__law_pen, G__law_draw := G__law_draw, G__law_pick := G__law_pick, G__law_world := G__law_world, G__law_signs := G__law_signs, TR := TR, G__law_behind := G__law_behind, G__law_args := G__law_args, G__law_sort := G__law_sort,
      G__law_is_tree := G__law_is_tree, G_is_tree := G_is_tree, G_is_tree3 := G_is_tree3, KW := ⟨_, _, _, FT, PySem.W.mg_of X G a_is_tree, k_is_tree, KB⟩, G_tree_sort := G_tree_sort, G_part_at := G_part_at, G_with_part := G_with_part, G_arguments_of := G_arguments_of, G_many_inner := G_many_inner,
      HE := ⟨_, _, Fn__law_heard, B__law_heard⟩, PB := ⟨_, KP2⟩, PT := ⟨_, KP3⟩, PI := ⟨_, KP0⟩, PM := ⟨_, KP10⟩, EB := EX2, ET := EX3, EI := EX0, EM := EX10 }
  exact ok_law L TB lL cdL
end K1
end

section
set_option Elab.async false
set_option linter.all false
open PySem PySem.W PyProof.Rows
set_option maxRecDepth 100000 in
set_option maxHeartbeats 8000000 in
theorem PySem.Challenge.cw_rulepurse_k02_trees_spots_holds : PySem.Challenge.rw_rulepurse_k02_trees_spots.Holds := by
  w_on; o_law; k_head; (case hw => w_witness2)
  k_fill
  refine LamX.walk_ofTs (l := PySem.Challenge.rw_rulepurse_k02_trees_spots) (n := 63) (k := 12) (CX := fun _ => C8.CX0) (x := "script") rfl (by decide) rfl ⟨rfl, by decide, by decide⟩ (fun w h Y => PySem.W.km_in_of Y) ?F (fun _ _ _ _ _ z => z)
  case F =>
    intro w mg fa h Y KX G hmg
    refine' K1.all_mk KX G hmg ?a_is_integer ?l_is_integer ?c_is_integer ?k_is_integer ?a_is_within ?l_is_within ?c_is_within ?k_is_within ?a_is_listed ?l_is_listed ?c_is_listed ?k_is_listed ?a_is_row ?l_is_row ?c_is_row ?k_is_row ?a_is_name ?l_is_name ?c_is_name ?k_is_name ?a_are_names ?l_are_names ?c_are_names ?k_are_names ?a_need_integer ?l_need_integer ?c_need_integer ?k_need_integer ?a_fixed ?l_fixed ?c_fixed ?k_fixed ?a_is_symbol ?l_is_symbol ?c_is_symbol ?k_is_symbol ?a_are_symbols ?l_are_symbols ?c_are_symbols ?k_are_symbols ?a_need_signs ?l_need_signs ?c_need_signs ?k_need_signs ?a_is_thing ?l_is_thing ?c_is_thing ?k_is_thing ?a_arity ?l_arity ?c_arity ?k_arity ?a_sort_at ?l_sort_at ?c_sort_at ?k_sort_at ?a_behind ?l_behind ?c_behind ?k_behind ?a_subtree ?l_subtree ?c_subtree ?k_subtree ?a_replaced ?l_replaced ?c_replaced ?k_replaced ?a_parts_of ?l_parts_of ?c_parts_of ?k_parts_of ?a_inner_nodes ?l_inner_nodes ?c_inner_nodes ?k_inner_nodes ?a_fits ?l_fits ?c_fits ?k_fits ?a_is_told ?l_is_told ?c_is_told ?k_is_told ?a_is_tree ?l_is_tree ?lT_is_tree ?c_is_tree ?k_is_tree ?a_need_tree ?l_need_tree ?lT_need_tree ?c_need_tree ?k_need_tree ?a_tree_sort ?l_tree_sort ?c_tree_sort ?k_tree_sort ?a_part_at ?l_part_at ?c_part_at ?k_part_at ?a_with_part ?l_with_part ?c_with_part ?k_with_part ?a_arguments_of ?l_arguments_of ?c_arguments_of ?k_arguments_of ?a_many_inner ?l_many_inner ?c_many_inner ?k_many_inner ?a__law_pen ?l__law_pen ?c__law_pen ?k__law_pen ?a__law_draw ?l__law_draw ?c__law_draw ?k__law_draw ?a__law_pick ?l__law_pick ?c__law_pick ?k__law_pick ?a__law_heard ?l__law_heard ?c__law_heard ?k__law_heard ?a__law_world ?l__law_world ?c__law_world ?k__law_world ?a__law_signs ?l__law_signs ?c__law_signs ?k__law_signs ?a__law_args ?l__law_args ?c__law_args ?k__law_args ?a__law_sort ?l__law_sort ?c__law_sort ?k__law_sort ?a__law_behind ?l__law_behind ?c__law_behind ?k__law_behind ?a__law_tree ?l__law_tree ?c__law_tree ?k__law_tree ?a__law_is_tree ?l__law_is_tree ?c__law_is_tree ?k__law_is_tree ?aL ?lL ?cdL ?lc ?h11 ?hdL ?nP ?hT ?aC ?pg ?hd ?po ?sa ?n1 ?n2 ?n3 ?Sha ?Shm ?hn ?ht ?mk ?kC ?icC ?tyC ?sT_NoneType ?sT_bool ?sT_int ?sT_str ?sT_list ?sT_tuple ?sT_dict ?a_m__init__ ?l_m__init__ ?c_m__init__ ?i_m__init__ ?k_m__init__ ?a_mneed_symbol ?l_mneed_symbol ?c_mneed_symbol ?i_mneed_symbol ?k_mneed_symbol ?a_marguments ?l_marguments ?c_marguments ?i_marguments ?k_marguments ?a_msort_of ?l_msort_of ?c_msort_of ?i_msort_of ?k_msort_of ?aP ?ae0 ?ae1 ?ae2 ?ae3 ?ae4 ?ae5 ?ae6 ?ae7 ?ae8 ?ae9 ?ae10 ?ae11 ?ae12 ?icCP ?tyCP ?ice0 ?tye0 ?ice1 ?tye1 ?ice2 ?tye2 ?ice3 ?tye3 ?ice4 ?tye4 ?ice5 ?tye5 ?ice6 ?tye6 ?ice7 ?tye7 ?ice8 ?tye8 ?ice9 ?tye9 ?ice10 ?tye10 ?ice11 ?tye11 ?ice12 ?tye12 ?exP ?xX0 ?veX0 ?saX0 ?iCX0 ?tCX0 ?kCX0 ?exCX0 ?veCX0 ?hdCX0 ?suX0 ?mrX0 ?noNX0 ?lIX0 ?ciX0 ?ssX0 ?ceX0 ?coX0 ?v2X0 ?fiX0 ?hgX0 ?hkX0 ?X0ha ?X0hm ?sPX0 ?xX2 ?veX2 ?saX2 ?iCX2 ?tCX2 ?kCX2 ?exCX2 ?veCX2 ?hdCX2 ?suX2 ?mrX2 ?noNX2 ?lIX2 ?ciX2 ?ssX2 ?ceX2 ?coX2 ?v2X2 ?fiX2 ?hgX2 ?hkX2 ?X2ha ?X2hm ?sPX2 ?xX3 ?veX3 ?saX3 ?iCX3 ?tCX3 ?kCX3 ?exCX3 ?veCX3 ?hdCX3 ?suX3 ?mrX3 ?noNX3 ?lIX3 ?ciX3 ?ssX3 ?ceX3 ?coX3 ?v2X3 ?fiX3 ?hgX3 ?hkX3 ?X3ha ?X3hm ?sPX3 ?xX10 ?veX10 ?saX10 ?iCX10 ?tCX10 ?kCX10 ?exCX10 ?veCX10 ?hdCX10 ?suX10 ?mrX10 ?noNX10 ?lIX10 ?ciX10 ?ssX10 ?ceX10 ?coX10 ?v2X10 ?fiX10 ?hgX10 ?hkX10 ?X10ha ?X10hm ?sPX10 ?xX9 ?veX9 ?saX9 ?iCX9 ?tCX9 ?kCX9 ?exCX9 ?veCX9 ?hdCX9 ?suX9 ?mrX9 ?noNX9 ?lIX9 ?ciX9 ?ssX9 ?ceX9 ?coX9 ?v2X9 ?fiX9 ?hgX9 ?hkX9 ?X9ha ?X9hm ?sPX9 ?tp ?s0_1 ?z0_1 ?s0_2 ?z0_2 ?s0_3 ?z0_3 ?s0_4 ?z0_4 ?s0_5 ?z0_5 ?s0_6 ?z0_6 ?s0_7 ?z0_7 ?s0_8 ?z0_8 ?s0_9 ?z0_9 ?s0_10 ?z0_10 ?s0_11 ?z0_11 ?s0_12 ?z0_12 ?s2_0 ?z2_0 ?s2_1 ?z2_1 ?s2_3 ?z2_3 ?s2_4 ?z2_4 ?s2_5 ?z2_5 ?s2_6 ?z2_6 ?s2_7 ?z2_7 ?s2_8 ?z2_8 ?s2_9 ?z2_9 ?s2_10 ?z2_10 ?s2_11 ?z2_11 ?s2_12 ?z2_12 ?s3_0 ?z3_0 ?s3_1 ?z3_1 ?s3_2 ?z3_2 ?s3_4 ?z3_4 ?s3_5 ?z3_5 ?s3_6 ?z3_6 ?s3_7 ?z3_7 ?s3_8 ?z3_8 ?s3_9 ?z3_9 ?s3_10 ?z3_10 ?s3_11 ?z3_11 ?s3_12 ?z3_12 ?s10_0 ?z10_0 ?s10_1 ?z10_1 ?s10_2 ?z10_2 ?s10_3 ?z10_3 ?s10_4 ?z10_4 ?s10_5 ?z10_5 ?s10_6 ?z10_6 ?s10_7 ?z10_7 ?s10_8 ?z10_8 ?s10_9 ?z10_9 ?s10_11 ?z10_11 ?s10_12 ?z10_12 ?b_len ?b_int ?b_abs ?b_isinstance ?b_bool ?b_str ?b_list ?b_tuple ?b_all ?b_range ?b_sorted ?b_super ?b_enumerate ?b1 ?b2 ?b3 ?b4 ?b_MOST_WORDS
    (case a_is_integer => k_is)
    (case l_is_integer => k_is)
    (case c_is_integer => k_is)
    (case k_is_integer => k_is)
    (case a_is_within => k_is)
    (case l_is_within => k_is)
    (case c_is_within => k_is)
    (case k_is_within => k_is)
    (case a_is_listed => k_is)
    (case l_is_listed => k_is)
    (case c_is_listed => k_is)
    (case k_is_listed => k_is)
    (case a_is_row => k_is)
    (case l_is_row => k_is)
    (case c_is_row => k_is)
    (case k_is_row => k_is)
    (case a_is_name => k_is)
    (case l_is_name => k_is)
    (case c_is_name => k_is)
    (case k_is_name => k_is)
    (case a_are_names => k_is)
    (case l_are_names => k_is)
    (case c_are_names => k_is)
    (case k_are_names => k_is)
    (case a_need_integer => k_is)
    (case l_need_integer => k_is)
    (case c_need_integer => k_is)
    (case k_need_integer => k_is)
    (case a_fixed => k_is)
    (case l_fixed => k_is)
    (case c_fixed => k_is)
    (case k_fixed => k_is)
    (case a_is_symbol => k_is)
    (case l_is_symbol => k_is)
    (case c_is_symbol => k_is)
    (case k_is_symbol => k_is)
    (case a_are_symbols => k_is)
    (case l_are_symbols => k_is)
    (case c_are_symbols => k_is)
    (case k_are_symbols => k_is)
    (case a_need_signs => k_is)
    (case l_need_signs => k_is)
    (case c_need_signs => k_is)
    (case k_need_signs => k_is)
    (case a_is_thing => k_is)
    (case l_is_thing => k_is)
    (case c_is_thing => k_is)
    (case k_is_thing => k_is)
    (case a_arity => k_is)
    (case l_arity => k_is)
    (case c_arity => k_is)
    (case k_arity => k_is)
    (case a_sort_at => k_is)
    (case l_sort_at => k_is)
    (case c_sort_at => k_is)
    (case k_sort_at => k_is)
    (case a_behind => k_is)
    (case l_behind => k_is)
    (case c_behind => k_is)
    (case k_behind => k_is)
    (case a_subtree => k_is)
    (case l_subtree => k_is)
    (case c_subtree => k_is)
    (case k_subtree => k_is)
    (case a_replaced => k_is)
    (case l_replaced => k_is)
    (case c_replaced => k_is)
    (case k_replaced => k_is)
    (case a_parts_of => k_is)
    (case l_parts_of => k_is)
    (case c_parts_of => k_is)
    (case k_parts_of => k_is)
    (case a_inner_nodes => k_is)
    (case l_inner_nodes => k_is)
    (case c_inner_nodes => k_is)
    (case k_inner_nodes => k_is)
    (case a_fits => k_is)
    (case l_fits => k_is)
    (case c_fits => k_is)
    (case k_fits => k_is)
    (case a_is_told => k_is)
    (case l_is_told => k_is)
    (case c_is_told => k_is)
    (case k_is_told => k_is)
    (case a_is_tree => k_is)
    (case l_is_tree => k_is)
    (case lT_is_tree => k_is)
    (case c_is_tree => k_is)
    (case k_is_tree => k_is)
    (case a_need_tree => k_is)
    (case l_need_tree => k_is)
    (case lT_need_tree => k_is)
    (case c_need_tree => k_is)
    (case k_need_tree => k_is)
    (case a_tree_sort => k_is)
    (case l_tree_sort => k_is)
    (case c_tree_sort => k_is)
    (case k_tree_sort => k_is)
    (case a_part_at => k_is)
    (case l_part_at => k_is)
    (case c_part_at => k_is)
    (case k_part_at => k_is)
    (case a_with_part => k_is)
    (case l_with_part => k_is)
    (case c_with_part => k_is)
    (case k_with_part => k_is)
    (case a_arguments_of => k_is)
    (case l_arguments_of => k_is)
    (case c_arguments_of => k_is)
    (case k_arguments_of => k_is)
    (case a_many_inner => k_is)
    (case l_many_inner => k_is)
    (case c_many_inner => k_is)
    (case k_many_inner => k_is)
    (case a__law_pen => k_is)
    (case l__law_pen => k_is)
    (case c__law_pen => k_is)
    (case k__law_pen => k_is)
    (case a__law_draw => k_is)
    (case l__law_draw => k_is)
    (case c__law_draw => k_is)
    (case k__law_draw => k_is)
    (case a__law_pick => k_is)
    (case l__law_pick => k_is)
    (case c__law_pick => k_is)
    (case k__law_pick => k_is)
    (case a__law_heard => k_is)
    (case l__law_heard => k_is)
    (case c__law_heard => k_is)
    (case k__law_heard => k_is)
    (case a__law_world => k_is)
    (case l__law_world => k_is)
    (case c__law_world => k_is)
    (case k__law_world => k_is)
    (case a__law_signs => k_is)
    (case l__law_signs => k_is)
    (case c__law_signs => k_is)
    (case k__law_signs => k_is)
    (case a__law_args => k_is)
    (case l__law_args => k_is)
    (case c__law_args => k_is)
    (case k__law_args => k_is)
    (case a__law_sort => k_is)
    (case l__law_sort => k_is)
    (case c__law_sort => k_is)
    (case k__law_sort => k_is)
    (case a__law_behind => k_is)
    (case l__law_behind => k_is)
    (case c__law_behind => k_is)
    (case k__law_behind => k_is)
    (case a__law_tree => k_is)
    (case l__law_tree => k_is)
    (case c__law_tree => k_is)
    (case k__law_tree => k_is)
    (case a__law_is_tree => k_is)
    (case l__law_is_tree => k_is)
    (case c__law_is_tree => k_is)
    (case k__law_is_tree => k_is)
    (case aL => k_is)
    (case lL => k_is)
    (case cdL => k_is)
    (case lc => k_is)
    (case h11 => rfl)
    (case hdL => kernel_rfl)
    (case nP => kernel_rfl)
    (case hT => exact PySem.W.km_tabs_of Y _ (by decide))
    (case aC => k_is)
    (case pg => k_is)
    (case hd => k_is)
    (case po => k_is)
    (case sa => k_is)
    (case n1 => k_is)
    (case n2 => k_is)
    (case n3 => k_is)
    (case Sha => k_is)
    (case Shm => k_is)
    (case hn => k_is)
    (case ht => k_is)
    (case mk => k_is)
    (case kC => k_is)
    (case icC => k_is)
    (case tyC => k_is)
    (case sT_NoneType => k_is)
    (case sT_bool => k_is)
    (case sT_int => k_is)
    (case sT_str => k_is)
    (case sT_list => k_is)
    (case sT_tuple => k_is)
    (case sT_dict => k_is)
    (case a_m__init__ => k_is)
    (case l_m__init__ => k_is)
    (case c_m__init__ => k_is)
    (case i_m__init__ => k_is)
    (case k_m__init__ => k_is)
    (case a_mneed_symbol => k_is)
    (case l_mneed_symbol => k_is)
    (case c_mneed_symbol => k_is)
    (case i_mneed_symbol => k_is)
    (case k_mneed_symbol => k_is)
    (case a_marguments => k_is)
    (case l_marguments => k_is)
    (case c_marguments => k_is)
    (case i_marguments => k_is)
    (case k_marguments => k_is)
    (case a_msort_of => k_is)
    (case l_msort_of => k_is)
    (case c_msort_of => k_is)
    (case i_msort_of => k_is)
    (case k_msort_of => k_is)
    (case aP => k_is)
    (case ae0 => k_is)
    (case ae1 => k_is)
    (case ae2 => k_is)
    (case ae3 => k_is)
    (case ae4 => k_is)
    (case ae5 => k_is)
    (case ae6 => k_is)
    (case ae7 => k_is)
    (case ae8 => k_is)
    (case ae9 => k_is)
    (case ae10 => k_is)
    (case ae11 => k_is)
    (case ae12 => k_is)
    (case icCP => k_is)
    (case tyCP => k_is)
    (case ice0 => k_is)
    (case tye0 => k_is)
    (case ice1 => k_is)
    (case tye1 => k_is)
    (case ice2 => k_is)
    (case tye2 => k_is)
    (case ice3 => k_is)
    (case tye3 => k_is)
    (case ice4 => k_is)
    (case tye4 => k_is)
    (case ice5 => k_is)
    (case tye5 => k_is)
    (case ice6 => k_is)
    (case tye6 => k_is)
    (case ice7 => k_is)
    (case tye7 => k_is)
    (case ice8 => k_is)
    (case tye8 => k_is)
    (case ice9 => k_is)
    (case tye9 => k_is)
    (case ice10 => k_is)
    (case tye10 => k_is)
    (case ice11 => k_is)
    (case tye11 => k_is)
    (case ice12 => k_is)
    (case tye12 => k_is)
    (case exP => k_is)
    (case xX0 => k_is)
    (case veX0 => kernel_rfl)
    (case saX0 => k_is)
    (case iCX0 => k_is)
    (case tCX0 => k_is)
    (case kCX0 => k_is)
    (case exCX0 => k_is)
    (case veCX0 => k_is)
    (case hdCX0 => k_is)
    (case suX0 => ks_is)
    (case mrX0 => k_is)
    (case noNX0 => k_is)
    (case lIX0 => k_is)
    (case ciX0 => k_is)
    (case ssX0 => exact ⟨_, _, _, _, _, _, _, _, rfl, fun _ => rfl⟩)
    (case ceX0 => k_is)
    (case coX0 => k_is)
    (case v2X0 => rfl)
    (case fiX0 => first | rfl | decide +kernel)
    (case hgX0 => k_is)
    (case hkX0 => k_is)
    (case X0ha => k_is)
    (case X0hm => k_is)
    (case sPX0 => k_is)
    (case xX2 => k_is)
    (case veX2 => kernel_rfl)
    (case saX2 => k_is)
    (case iCX2 => k_is)
    (case tCX2 => k_is)
    (case kCX2 => k_is)
    (case exCX2 => k_is)
    (case veCX2 => k_is)
    (case hdCX2 => k_is)
    (case suX2 => ks_is)
    (case mrX2 => k_is)
    (case noNX2 => k_is)
    (case lIX2 => k_is)
    (case ciX2 => k_is)
    (case ssX2 => exact ⟨_, _, _, _, _, _, _, _, rfl, fun _ => rfl⟩)
    (case ceX2 => k_is)
    (case coX2 => k_is)
    (case v2X2 => rfl)
    (case fiX2 => first | rfl | decide +kernel)
    (case hgX2 => k_is)
    (case hkX2 => k_is)
    (case X2ha => k_is)
    (case X2hm => k_is)
    (case sPX2 => k_is)
    (case xX3 => k_is)
    (case veX3 => kernel_rfl)
    (case saX3 => k_is)
    (case iCX3 => k_is)
    (case tCX3 => k_is)
    (case kCX3 => k_is)
    (case exCX3 => k_is)
    (case veCX3 => k_is)
    (case hdCX3 => k_is)
    (case suX3 => ks_is)
    (case mrX3 => k_is)
    (case noNX3 => k_is)
    (case lIX3 => k_is)
    (case ciX3 => k_is)
    (case ssX3 => exact ⟨_, _, _, _, _, _, _, _, rfl, fun _ => rfl⟩)
    (case ceX3 => k_is)
    (case coX3 => k_is)
    (case v2X3 => rfl)
    (case fiX3 => first | rfl | decide +kernel)
    (case hgX3 => k_is)
    (case hkX3 => k_is)
    (case X3ha => k_is)
    (case X3hm => k_is)
    (case sPX3 => k_is)
    (case xX10 => k_is)
    (case veX10 => kernel_rfl)
    (case saX10 => k_is)
    (case iCX10 => k_is)
    (case tCX10 => k_is)
    (case kCX10 => k_is)
    (case exCX10 => k_is)
    (case veCX10 => k_is)
    (case hdCX10 => k_is)
    (case suX10 => ks_is)
    (case mrX10 => k_is)
    (case noNX10 => k_is)
    (case lIX10 => k_is)
    (case ciX10 => k_is)
    (case ssX10 => exact ⟨_, _, _, _, _, _, _, _, rfl, fun _ => rfl⟩)
    (case ceX10 => k_is)
    (case coX10 => k_is)
    (case v2X10 => rfl)
    (case fiX10 => first | rfl | decide +kernel)
    (case hgX10 => k_is)
    (case hkX10 => k_is)
    (case X10ha => k_is)
    (case X10hm => k_is)
    (case sPX10 => k_is)
    (case xX9 => k_is)
    (case veX9 => kernel_rfl)
    (case saX9 => k_is)
    (case iCX9 => k_is)
    (case tCX9 => k_is)
    (case kCX9 => k_is)
    (case exCX9 => k_is)
    (case veCX9 => k_is)
    (case hdCX9 => k_is)
    (case suX9 => ks_is)
    (case mrX9 => k_is)
    (case noNX9 => k_is)
    (case lIX9 => k_is)
    (case ciX9 => k_is)
    (case ssX9 => exact ⟨_, _, _, _, _, _, _, _, rfl, fun _ => rfl⟩)
    (case ceX9 => k_is)
    (case coX9 => k_is)
    (case v2X9 => rfl)
    (case fiX9 => first | rfl | decide +kernel)
    (case hgX9 => k_is)
    (case hkX9 => k_is)
    (case X9ha => k_is)
    (case X9hm => k_is)
    (case sPX9 => k_is)
    (case tp => k_is)
    (case s0_1 => k_is)
    (case z0_1 => rfl)
    (case s0_2 => k_is)
    (case z0_2 => rfl)
    (case s0_3 => k_is)
    (case z0_3 => rfl)
    (case s0_4 => k_is)
    (case z0_4 => rfl)
    (case s0_5 => k_is)
    (case z0_5 => rfl)
    (case s0_6 => k_is)
    (case z0_6 => rfl)
    (case s0_7 => k_is)
    (case z0_7 => rfl)
    (case s0_8 => k_is)
    (case z0_8 => rfl)
    (case s0_9 => k_is)
    (case z0_9 => rfl)
    (case s0_10 => k_is)
    (case z0_10 => rfl)
    (case s0_11 => k_is)
    (case z0_11 => rfl)
    (case s0_12 => k_is)
    (case z0_12 => rfl)
    (case s2_0 => k_is)
    (case z2_0 => rfl)
    (case s2_1 => k_is)
    (case z2_1 => rfl)
    (case s2_3 => k_is)
    (case z2_3 => rfl)
    (case s2_4 => k_is)
    (case z2_4 => rfl)
    (case s2_5 => k_is)
    (case z2_5 => rfl)
    (case s2_6 => k_is)
    (case z2_6 => rfl)
    (case s2_7 => k_is)
    (case z2_7 => rfl)
    (case s2_8 => k_is)
    (case z2_8 => rfl)
    (case s2_9 => k_is)
    (case z2_9 => rfl)
    (case s2_10 => k_is)
    (case z2_10 => rfl)
    (case s2_11 => k_is)
    (case z2_11 => rfl)
    (case s2_12 => k_is)
    (case z2_12 => rfl)
    (case s3_0 => k_is)
    (case z3_0 => rfl)
    (case s3_1 => k_is)
    (case z3_1 => rfl)
    (case s3_2 => k_is)
    (case z3_2 => rfl)
    (case s3_4 => k_is)
    (case z3_4 => rfl)
    (case s3_5 => k_is)
    (case z3_5 => rfl)
    (case s3_6 => k_is)
    (case z3_6 => rfl)
    (case s3_7 => k_is)
    (case z3_7 => rfl)
    (case s3_8 => k_is)
    (case z3_8 => rfl)
    (case s3_9 => k_is)
    (case z3_9 => rfl)
    (case s3_10 => k_is)
    (case z3_10 => rfl)
    (case s3_11 => k_is)
    (case z3_11 => rfl)
    (case s3_12 => k_is)
    (case z3_12 => rfl)
    (case s10_0 => k_is)
    (case z10_0 => rfl)
    (case s10_1 => k_is)
    (case z10_1 => rfl)
    (case s10_2 => k_is)
    (case z10_2 => rfl)
    (case s10_3 => k_is)
    (case z10_3 => rfl)
    (case s10_4 => k_is)
    (case z10_4 => rfl)
    (case s10_5 => k_is)
    (case z10_5 => rfl)
    (case s10_6 => k_is)
    (case z10_6 => rfl)
    (case s10_7 => k_is)
    (case z10_7 => rfl)
    (case s10_8 => k_is)
    (case z10_8 => rfl)
    (case s10_9 => k_is)
    (case z10_9 => rfl)
    (case s10_11 => k_is)
    (case z10_11 => rfl)
    (case s10_12 => k_is)
    (case z10_12 => rfl)
    (case b_len => k_is)
    (case b_int => k_is)
    (case b_abs => k_is)
    (case b_isinstance => k_is)
    (case b_bool => k_is)
    (case b_str => k_is)
    (case b_list => k_is)
    (case b_tuple => k_is)
    (case b_all => k_is)
    (case b_range => k_is)
    (case b_sorted => k_is)
    (case b_super => k_is)
    (case b_enumerate => k_is)
    (case b1 => k_is)
    (case b2 => k_is)
    (case b3 => k_is)
    (case b4 => k_is)
    (case b_MOST_WORDS => k_is)
end
