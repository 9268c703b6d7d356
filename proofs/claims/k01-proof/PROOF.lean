import PyProof.Rows.All
import Wide.All
import OpenK.AllK
import Wide.FinOn
import KE.KSuper
import KE.KExcSuper
import HandS.ForExc
import HandS.ExcInit
import KE.KExcIs
import HandS.IsInst
import HandS.ExcValue
import HandS.Dict
import HandS.Evl
import HandS.HotCalls
import HandS.Ends
import HandS.ForMost
import PySem.Challenge.RW_motiontongue_k01_errors_each_of_its_own
import HandS.NoneIn
import HandS.Wide
import HandS.Comp
import HandS.Style
import KE.RegKSuper
set_option Elab.async false
set_option linter.all false
set_option maxRecDepth 100000
set_option maxHeartbeats 2000000
section
/-! An own exception class over ValueError whose __init__ hands what it is given on to super().__init__ and keeps it. -/
namespace PySem
namespace SupX
open PySem.W PySem.Calls PyProof.Rows PySem.HandSPX

/-- the arguments, the body, the scope of __init__(self, p) -/
def iA (p : Str) (a b : Pos) : Arguments := { posonlyargs := [], args := [{ arg := "self", annotation := none, pos := a }, { arg := p, annotation := none, pos := b }], vararg := none, kwonlyargs := [], kw_defaults := [], kwarg := none, defaults := [] }
def iB (p : Str) (q0 q1 q2 q3 q4 q5 q6 q7 q8 q9 : Pos) : List Stmt :=
  [.Expr (.Call (.Attribute (.Call (.Name "super" q0) [] [] q1) "__init__" q2) [.Name p q3] [] q4) q5, .Assign [.Attribute (.Name "self" q6) p q7] (.Name p q8) q9]
def iS (p : Str) : Scope := { kind := .function, names := [(PySem.Str.ofString "self", .local), (p, .local), (PySem.Str.ofString "__class__", .free), (PySem.Str.ofString "super", .globalImplicit)], isGenerator := false, isCoroutine := false, more := [] }

/-- the free parts of an own class over ValueError -/
structure ClsP where
  nm : Str
  q : Str
  N : Addr
  bs : List Value
  bm : List Value
  sn : List Str
  sub : List Value
  ab : Bool
  col : Option Bool
  dd : Option Addr
  k0 : Option Value
  k1 : Option Value
  k2 : Option Value
  k3 : Option Value
  k5 : Option Value
/-- the class's object at C -/
abbrev ClsP.ob (c : ClsP) (C : Addr) : Obj := excClassObj c.nm c.q C c.N c.bs c.bm true c.sn c.sub c.ab c.col c.dd c.k0 c.k1 c.k2 c.k3 c.k5 "ValueError.__new__"
theorem ClsP.has (c : ClsP) (h : refsVE c.bm = true) : ∀ X : String, c.bm.contains (.type X) = veTail.contains (.type X) := fun X => refsVE_contains X c.bm h

/-- what binds ValueError.__init__ to the exception at e, called: e's args are laid anew -/
theorem call_mw {prog : Program} {w : World} {A : Around} {E : Value → Shared → Prop} {s : Shared} {c : ClsP} {C u e t0 : Addr} {rest : List Value} {Q : Value → Shared → Prop}
    (hC : s.heap.get? C = some (c.ob C)) (he : s.heap.get? e = some (excO C t0)) (hu : s.heap.get? u = some (kxs_mw "ValueError.__init__" e)) (hrest : rest.length ≤ sizeLine)
    (hq : ∀ h' t1, (∀ b o, b ≠ e → s.heap.get? b = some o → h'.get? b = some o) → h'.get? e = some (excO C t1) → Q .none { s with heap := h' }) : wpAny (model prog w) A (call (.ref u) rest) Q E s := by
  obtain ⟨h, g, d, t, os⟩ := s
  refine wpAny_call (codeAny_of_tree (show wpAny _ A.in1 (callAny (.ref u) ⟨rest, []⟩) _ _ _ from ?_))
  have kind : ((Value.type "method-wrapper" == Value.type "method" || Value.type "method-wrapper" == Value.type "builtin_function_or_method") || Value.type "method-wrapper" == Value.type "method-wrapper") = true := by decide
  simp only [callAny]
  refine wpAny_bind (wpAny_load hu ?there)
  simp only [kind, if_true]
  refine W.KFB.if_so (by decide) (wpAny_bind (check_bound_init F.excBase_ValueError.toExcCallFacts hC he rfl (wpAny_bind (wpAny_pure (wpAny_pure ?_)))))
  refine ⟨Code.quiet_builtin _ (by decide +kernel), codeAny_builtin F.excBase_ValueError.initEntry ?_⟩
  rw [Around.under_plainId F.excBase_ValueError.init.plain _]
  wp_walk
  exact hq _ h.objs.size (fun b o hb ho => (Heap.get?_update_other _ _ (Ne.symm hb)).trans (Heap.get?_push_of_some _ ho)) (by rw [Heap.get?_update_self _ (Heap.get?_push_of_some _ he) rfl]; rfl)

/-- what the written part says of such a class at C: what __init__ of it leans on -/
structure SupC (prog : Program) (K : Frag) (C fI cc cda : Addr) : Prop where
  cls : ∃ c : ClsP, K.lookup C = some (c.ob C) ∧ refsVE c.bm = true
  sa : findIn K (.ref C) "__setattr__" = some (some (.builtin "object.__setattr__"))
  sup : ks_superIn K C C "__init__" = some (some (.builtin "ValueError.__init__"))
  iC : findIn K (.ref C) "__init__" = some (some (.ref fI))
  tC : typeIn K (.ref fI) = some (.type "function")
  kC : keepIn K (.ref C) = true
  sVE : subIn K (.ref C) (.type "ValueError") = some true
  sC : mroIn K C (.ref C) = some true
  op : nsIn K cStatics "thirdparty.any" = some none
  cell : ∃ cl cld csl, K.lookup cc = some ⟨cl, cld, .cell (some (.ref C)), csl⟩
  code : ∃ ccl cdd vs ccs file tf, K.lookup cda = some ⟨ccl, cdd, .fields vs, ccs⟩ ∧ vs[2]? = some (.str file tf) ∧ ((prog.main.file : Str) == file) = true

/-- what __init__ leaves of a fresh exception at x -/
structure InitEnd (h h' : Heap) (x C dx t1 : Addr) (m : Str → Option Value) : Prop where
  keep : ∀ b o, b ≠ x → h.get? b = some o → h'.get? b = some o
  obj : ∃ t1, h'.get? x = some { cls := .ref C, dict := some dx, data := .fields #[.ref t1, .none, .none, .none, .bool false, .none] }
  dbig : h.objs.size ≤ dx
  dne : dx ≠ x
  ns : h'.Ns1 dx m
end SupX
end PySem
end
section
namespace PySem
namespace SupX
open PySem.W PySem.Calls PyProof.Rows PySem.HandSPX
theorem ev_meth {o : Expr} {name : Str} {apos pos : Pos} {args : List Expr} {env : Env} (hf : methodCallForm args.length (backTo pos (starEach args env)) (backToKw pos (keywordEach [] env)) = true) (hpos : (apos.endLine == pos.line) = true) :
    eval (.Call (.Attribute o name apos) args [] pos) env = (do
      let u0 ← attributeBase o name env (eval o env)
      standAt apos.atName
      let (f, first) ← holding [u0] (getMethod u0 name (do return (← importBound o env).getD true))
      callWith pos f first (backTo pos (starEach args env)) []) := by
  show (do
    let u0 ← attributeBase o name env (eval o env)
    standAt apos.atName
    methodCall o name apos pos env u0 (args.length + 0) (backTo pos (starEach args env)) (backToKw pos (keywordEach [] env))) = _
  unfold methodCall
  rw [Nat.add_zero, hf]
  unfold calleeOf methodCallPos
  rw [hpos]
  rfl
section
variable {prog : Program} {w : World} {A : Around} {E : Value → Shared → Prop} {K : Frag} {C fI cc cda : Addr}
/-- a class's own data -/
theorem SupC.cd (T : SupC prog K C fI cc cda) : ∃ cd, clsIn K C = some cd ∧ refsVE cd.mro = true ∧ cd.hasDict = true ∧ ∃ c : ClsP, K.lookup C = some (c.ob C) ∧ refsVE c.bm = true := by
  obtain ⟨c, hC, hbm⟩ := T.cls
  refine ⟨{ name := c.nm, bases := c.bs, mro := .ref C :: c.bm, ns := c.N, qualname := c.q, hasDict := true, slotNames := c.sn, subclasses := c.sub, abstract := c.ab, collection := c.col, hasDel := false }, ?_, hbm, rfl, ⟨c, hC, hbm⟩⟩
  unfold clsIn; rw [hC] <;> rfl

/-- super().__init__(p ..) in the body of __init__: what is asked of the args -/
theorem sup_stmt (T : SupC prog K C fI cc cda) {fd : FuncData} {oc : Value} {od : Option Addr} {osl : Array (Option Value)} {qual : Str} {scope : Scope} {L x t0 : Addr} {m mg mb : Str → Option Value} {body : List Stmt}
    {q0 q1 q2 q4 q5 : Pos} {e : Expr} {es : List Expr} {rest : List Value} {hp : Heap} {g : Array GenState} {d : Drawn} {t : Nat} {os : OsState} {Q : Flow → Shared → Prop} {pl : Sem Bool}
    (X : K.In hp) (hgl : hp.Ns mainGlobals mg) (hmg : mg "super" = none) (hbl : hp.Ns builtinsNs mb) (hmb : mb "super" = some (.type "super"))
    (hn : hp.Ns L m) (hself : m "self" = some (.ref x)) (hx : hp.get? x = some (excO C t0))
    (hfI : K.lookup fI = some ⟨oc, od, .func fd, osl⟩) (hpar : ∃ a, (fd.params.posonlyargs ++ fd.params.args).head? = some { arg := "self", annotation := none, pos := a })
    (htop : (prog.main.scope.names.lookup ("super" : Str)).isSome = false)
    (hk : scope.kind = .function) (hks : scope.names.lookup ("super" : Str) = some .globalImplicit) (hkc : scope.names.lookup ("__class__" : Str) = some .free) (hka : scope.names.lookup ("self" : Str) = some .local)
    (hargs : ∀ (hp' : Heap) (t' : Nat) (Q' : List Value → Shared → Prop), (∀ b o, hp.get? b = some o → hp'.get? b = some o) → Q' rest ⟨hp', g, d, t', os⟩ → wpAny (model prog w) A (spliced (backTo q4 (starEach (e :: es) (ksEnv qual scope L fI (.ref cda) cc)))) Q' E ⟨hp', g, d, t', os⟩)
    (hrest : rest.length ≤ sizeLine)
    (hq : ∀ h' t' t1, (∀ b o, b ≠ x → hp.get? b = some o → h'.get? b = some o) → h'.get? x = some (excO C t1) → hp.objs.size ≤ h'.objs.size → Q .next ⟨h', g, d, t', os⟩)
    (hev : eval (.Call (.Attribute (.Call (.Name "super" q0) [] [] q1) "__init__" q2) (e :: es) [] q4) (ksEnv qual scope L fI (.ref cda) cc) = (do
      let u0 ← attributeBase (.Call (.Name "super" q0) [] [] q1) "__init__" (ksEnv qual scope L fI (.ref cda) cc) (eval (.Call (.Name "super" q0) [] [] q1) (ksEnv qual scope L fI (.ref cda) cc))
      standAt q2.atName
      let (f, first) ← holding [u0] (getMethod u0 "__init__" pl)
      callWith q4 f first (backTo q4 (starEach (e :: es) (ksEnv qual scope L fI (.ref cda) cc))) []) := by rfl)
    (hsw : swapsWith (.Call (.Attribute (.Call (.Name "super" q0) [] [] q1) "__init__" q2) (e :: es) [] q4) none q5.line (ksEnv qual scope L fI (.ref cda) cc) = pure false := by rfl)
    (he : starEach (e :: es) (ksEnv qual scope L fI (.ref cda) cc) = (false, eval e (ksEnv qual scope L fI (.ref cda) cc)) :: starEach es (ksEnv qual scope L fI (.ref cda) cc) := by rfl)
    (hplain : (backTo q4 (starEach es (ksEnv qual scope L fI (.ref cda) cc))).any (·.1) = false := by rfl)
    (hint : interactive (ksEnv qual scope L fI (.ref cda) cc) = false := by rfl) :
    _root_.PySem.wpAt (model prog w) A (.func body (ksEnv qual scope L fI (.ref cda) cc)) (exec (.Expr (.Call (.Attribute (.Call (.Name "super" q0) [] [] q1) "__init__" q2) (e :: es) [] q4) q5) (ksEnv qual scope L fI (.ref cda) cc)) Q E ⟨hp, g, d, t, os⟩ := by
  obtain ⟨cd, hcd, hmro, hdict, cp, hC, hbm⟩ := T.cd
  obtain ⟨ccl, cdd, vs, ccs, file, tf, hcode, hvs, hfile⟩ := T.code
  obtain ⟨cl, cld, csl, hcell⟩ := T.cell
  obtain ⟨ap, hpar⟩ := hpar
  obtain ⟨oD, hD1, hD2⟩ : ∃ oD, hp.get? C = some oD ∧ oD.data = .cls cd := by
    unfold clsIn at hcd
    split at hcd
    · rename_i c d cd' sl ho
      cases hcd
      exact ⟨_, X _ _ ho, rfl⟩
    · cases hcd
  refine ks_wpAt_Expr_any (ks_wpAt_MethodCall ?_ hev) hint hsw
  refine ks_wpAt_super_base (env := ksEnv qual scope L fI (.ref cda) cc) hks hkc (by rfl) rfl (X _ _ hfI) rfl hpar rfl (X _ _ hcode) rfl hvs hfile htop ?_
  refine ks_loadName_global hk hks (loadGlobal_builtin (env := ksEnv qual scope L fI (.ref cda) cc) hgl hmg hbl hmb ⟨rfl, ?_⟩)
  refine wpAny_loadName_free hk hkc rfl ⟨_, X _ _ hcell, rfl⟩ ?there
  refine wpAny_loadName_local hk hka hn hself ?_
  refine ks_wpAny_isType_cls hD1 hD2 ⟨rfl, ?after⟩
  refine ks_wpAny_call_super hD1 hD2 hx rfl (fun c e => by cases e) (looks_mroIn X T.sC) (fun h1 e1 kp1 => ?_)
  have X1 : K.In h1 := X.keeps kp1
  have hx1 := kp1 _ _ hx
  have hxC : x ≠ C := by
    rintro rfl
    rw [X _ _ hC] at hx
    cases hx
  have I1 : InstAt h1 x (excO C t0) C none := ⟨hx1, rfl, rfl, trivial⟩
  have hI1 : Looks (model prog w) h1 (isInstance (.ref x) (.type "ValueError")) true := I1.type.andThen (looks_subIn X1 T.sVE)
  have hsup := T.sup
  unfold ks_superIn at hsup
  rw [hcd] at hsup
  refine kxs_getMethod kxs_ValueError e1 (looks_opaque X1 T.op) (l₀ := cd.mro) (fun A Q E s k q => wpAny_bind ((looks_clsIn X1 hcd) A _ E s k (wpAny_pure q))) rfl X1 hsup hI1 hxC (by decide) ?_
  have hs1 : hp.objs.size ≤ h1.objs.size := by
    have z := Heap.lt_size e1
    exact Nat.le_of_lt z
  have kp2 : ∀ b o, hp.get? b = some o → (h1.push (kxs_mw "ValueError.__init__" x)).get? b = some o := fun b o q => Heap.get?_push_of_some _ (kp1 b o q)
  rw [he]
  have hmw : (h1.push (kxs_mw "ValueError.__init__" x)).get? h1.objs.size = some (kxs_mw "ValueError.__init__" x) := Heap.get?_push_at rfl rfl
  refine kxs_callWith (i := "ValueError.__init__") (x := x) (by show (false || (backTo q4 (starEach es (ksEnv qual scope L fI (.ref cda) cc))).any (·.1)) = false; rw [hplain]; rfl) (evalArgs_plain ?_)
  have ha := hargs (h1.push (kxs_mw "ValueError.__init__" x)) (t + 1) (fun vs s₁ => KxsAt "ValueError.__init__" h1.objs.size x s₁.heap ∧ wpAny (model prog w) A (call (.ref h1.objs.size) ([] ++ vs) []) (fun _ => Q .next) E s₁) kp2 ⟨hmw, ?_⟩
  · rw [he] at ha
    exact ha
  · refine call_mw (kp2 _ _ (X _ _ hC)) (kp2 _ _ hx) hmw hrest fun h' t1 k' e' => ?_
    refine hq h' (t + 1) t1 (fun b o hb ho => k' b o hb (kp2 b o ho)) e' ?_
    have z := k' hp.objs.size _ (Nat.ne_of_gt (Heap.lt_size hx)) (Heap.get?_push_of_some _ e1)
    exact Nat.le_of_lt (Heap.lt_size z)
end
end SupX
end PySem
end
section
namespace PySem
namespace SupX
open PySem.W PySem.Calls PyProof.Rows PySem.HandSPX
/-- the text of __init__(self, p), its function -/
structure Init1 (K : Frag) (fI cc cda : Addr) (qual p : Str) (fd : FuncData) : Prop where
  ex : ∃ (oc : Value) (od : Option Addr) (doc pm : Value) (an : Option Addr) (ct : Value) (osl : Array (Option Value)) (a b q0 q1 q2 q3 q4 q5 q6 q7 q8 q9 : Pos),
    (q2.endLine == q4.line) = true ∧ fd = ksFn "__init__" qual (iA p a b) (iB p q0 q1 q2 q3 q4 q5 q6 q7 q8 q9) (iS p) .none .none doc pm an (.ref cda) ct cc ∧ K.lookup fI = some ⟨oc, od, .func fd, osl⟩ ∧ codeIn K (.ref cda) qual = true
  self : (p == ("self" : Str)) = false
  cls : (p == ("__class__" : Str)) = false
  sup : (p == ("super" : Str)) = false
  dbg : (p == ("__debug__" : Str)) = false
section
variable {prog : Program} {w : World} {A : Around} {E : Value → Shared → Prop} {R : Result → Shared → Prop} {s : Shared} {K : Frag} {C fI cc cda : Addr} {mg mb : Str → Option Value} {qual p : Str} {fd : FuncData}
theorem init1 (T : SupC prog K C fI cc cda) (I : Init1 K fI cc cda qual p fd) (hno : findIn K (.ref C) p = some none) {x t0 : Addr} {v : Value} {args : Args}
    (X : K.In s.heap) (hgl : s.heap.Ns mainGlobals mg) (hmg : mg "super" = none) (hbl : s.heap.Ns builtinsNs mb) (hmb : mb "super" = some (.type "super")) (htop : (prog.main.scope.names.lookup ("super" : Str)).isSome = false)
    (hlim : s.heap.NoLimit) (hx : s.heap.get? x = some (excO C t0)) (hnx : K.lookup x = none) (hroom : A.depth < recursionLimit)
    (hbind : BindsTo s fd args [("self", .ref x), (p, v)])
    (hq : ∀ h' tk dx, InitEnd s.heap h' x C dx t0 (fun y => if y = p then some v else none) → R (.ok (.ret .none)) { s with heap := h', toks := tk }) :
    codeAny (model prog w) A (.call (.ref fI) args) R s := by
  obtain ⟨cd, hcd, hmro, hdict, _⟩ := T.cd
  obtain ⟨oc, od, doc, pm, an, ct, osl, a, b, q0, q1, q2, q3, q4, q5, q6, q7, q8, q9, hpos, rfl, hfI, hcode⟩ := I.ex
  have e1 := I.self
  have e2 := I.cls
  have e3 := I.sup
  have hloc : (iS p).names.lookup p = some .local := by
    unfold iS
    simp [List.lookup, e1]
  have hsup : (iS p).names.lookup ("super" : Str) = some .globalImplicit := by
    unfold iS
    have e3' : (("super" : Str) == p) = false := by rw [beq_eq_false_iff_ne] at e3 ⊢; exact fun z => e3 z.symm
    simp [List.lookup, e3']
    decide
  have hcls : (iS p).names.lookup ("__class__" : Str) = some .free := by
    unfold iS
    have e3' : (("__class__" : Str) == p) = false := by rw [beq_eq_false_iff_ne] at e2 ⊢; exact fun z => e2 z.symm
    simp [List.lookup, e3']
    decide
  have hself : (iS p).names.lookup ("self" : Str) = some .local := by
    unfold iS
    simp [List.lookup]
  obtain ⟨hp, g, d, t, os⟩ := s
  refine ks_codeAny_call_defAt (fd := ksFn "__init__" qual (iA p a b) (iB p q0 q1 q2 q3 q4 q5 q6 q7 q8 q9) (iS p) .none .none doc pm an (.ref cda) ct cc) hroom (X _ _ hfI) rfl hlim (codeRec_of X hcode) rfl hbind ?_ ?_ (fun h₁ hn hk₁ => ?_)
  · intro y hy
    have hy' : y ∈ [(PySem.Str.ofString "self", NameKind.local), (p, NameKind.local), (PySem.Str.ofString "__class__", NameKind.free), (PySem.Str.ofString "super", NameKind.globalImplicit)] := hy
    simp only [List.mem_cons, List.mem_nil_iff, or_false] at hy'
    rcases hy' with rfl | rfl | rfl | rfl <;> (intro z; cases z)
  · intro y hy
    simp only [List.mem_cons, List.mem_nil_iff, or_false] at hy
    rcases hy with rfl | rfl
    · exact hself
    · exact hloc
  · have X₁ : K.In h₁ := X.keeps hk₁
    have hx₁ := hk₁ _ _ hx
    have hxe : x ≠ hp.objs.size := Nat.ne_of_lt (Heap.lt_size hx)
    have mself : (fun y => List.lookup y ([(("self" : Str), Value.ref x), (p, v)] : List (Str × Value)).reverse) ("self" : Str) = some (.ref x) := by
      have e1' : (("self" : Str) == p) = false := by rw [beq_eq_false_iff_ne] at e1 ⊢; exact fun z => e1 z.symm
      simp [List.lookup, e1']
    have mp : (fun y => List.lookup y ([(("self" : Str), Value.ref x), (p, v)] : List (Str × Value)).reverse) p = some v := by
      simp [List.lookup]
    refine ks_wpAt_execs_cons ?_
    refine sup_stmt (rest := [v]) (e := .Name p q3) (es := []) (m := fun y => List.lookup y ([(("self" : Str), Value.ref x), (p, v)] : List (Str × Value)).reverse) T X₁ (hgl.keeps hk₁) hmg (hbl.keeps hk₁) hmb hn mself hx₁ hfI ⟨_, rfl⟩ htop rfl hsup hcls hself ?_ (by show 1 ≤ sizeLine; rw [sizeLine_eq]; omega) ?_ (ev_meth (by rfl) hpos)
    · intro hp' t' Q' kk hQ
      refine spliced_cons (wpAny_Name (wpAny_loadName_local rfl hloc (hn.keeps kk) mp ?_) I.dbg)
      exact spliced_nil hQ
    · intro h' t' t1 k' hx' hsz
      refine ks_wpAt_execs_cons ?_
      refine ks_wpAt_Assign_Attr ?_
      have X₂ : K.In h' := fun b o e => k' b o (fun z => by rw [z, hnx] at e; cases e) (X₁ _ _ e)
      have hn' : h'.Ns hp.objs.size (fun y => List.lookup y ([(("self" : Str), Value.ref x), (p, v)] : List (Str × Value)).reverse) := by
        obtain ⟨o, es, ep, ho, r⟩ := hn
        exact ⟨o, es, ep, k' _ _ (Ne.symm hxe) ho, r⟩
      refine wpAt_of_wpAny (wpAny_Name (wpAny_loadName_local rfl hloc hn' mp ?_) I.dbg)
      refine wpAny_Name (wpAny_loadName_local rfl hself hn' mself ?_)
      refine set_plain X₂ (ox := excO C t1) (od := none) ⟨hx', rfl, rfl, trivial⟩ T.sa ?_
      refine exc_osa X₂ hx' hcd hmro hdict hno (fun h₃ tk₃ dx k₃ dn dne hx₃ hn₃ => ?_)
      refine wpAt_of_wpAny (wpAny_execs_nil ?_)
      refine hq h₃ tk₃ dx ⟨fun b o hb e => k₃ b o hb (k' b o hb (hk₁ b o e)), ⟨t1, hx₃⟩, Nat.le_trans (Nat.le_trans ?_ hsz) dn, dne, hn₃⟩
      exact Nat.le_of_lt hn.lt
end

/-- __init__(self, row, word): both kept -/
def jA (a b c : Pos) : Arguments := { posonlyargs := [], args := [{ arg := "self", annotation := none, pos := a }, { arg := "row", annotation := none, pos := b }, { arg := "word", annotation := none, pos := c }], vararg := none, kwonlyargs := [], kw_defaults := [], kwarg := none, defaults := [] }
def jB (q0 q1 q2 q3 q3' q4 q5 q6 q7 q8 q9 r6 r7 r8 r9 : Pos) : List Stmt :=
  [.Expr (.Call (.Attribute (.Call (.Name "super" q0) [] [] q1) "__init__" q2) [.Name "row" q3, .Name "word" q3'] [] q4) q5, .Assign [.Attribute (.Name "self" q6) "row" q7] (.Name "row" q8) q9, .Assign [.Attribute (.Name "self" r6) "word" r7] (.Name "word" r8) r9]
def jS : Scope := { kind := .function, names := [(PySem.Str.ofString "self", .local), (PySem.Str.ofString "row", .local), (PySem.Str.ofString "word", .local), (PySem.Str.ofString "__class__", .free), (PySem.Str.ofString "super", .globalImplicit)], isGenerator := false, isCoroutine := false, more := [] }
structure Init2 (K : Frag) (fI cc cda : Addr) (qual : Str) (fd : FuncData) : Prop where
  ex : ∃ (oc : Value) (od : Option Addr) (doc pm : Value) (an : Option Addr) (ct : Value) (osl : Array (Option Value)) (a b c q0 q1 q2 q3 q3' q4 q5 q6 q7 q8 q9 r6 r7 r8 r9 : Pos), (q2.endLine == q4.line) = true ∧
    fd = ksFn "__init__" qual (jA a b c) (jB q0 q1 q2 q3 q3' q4 q5 q6 q7 q8 q9 r6 r7 r8 r9) jS .none .none doc pm an (.ref cda) ct cc ∧ K.lookup fI = some ⟨oc, od, .func fd, osl⟩ ∧ codeIn K (.ref cda) qual = true
section
variable {prog : Program} {w : World} {A : Around} {E : Value → Shared → Prop} {R : Result → Shared → Prop} {s : Shared} {K : Frag} {C fI cc cda : Addr} {mg mb : Str → Option Value} {qual : Str} {fd : FuncData}
theorem init2 (T : SupC prog K C fI cc cda) (I : Init2 K fI cc cda qual fd) (hno : findIn K (.ref C) "row" = some none) (hno2 : findIn K (.ref C) "word" = some none) {x t0 : Addr} {v v2 : Value} {args : Args}
    (X : K.In s.heap) (hgl : s.heap.Ns mainGlobals mg) (hmg : mg "super" = none) (hbl : s.heap.Ns builtinsNs mb) (hmb : mb "super" = some (.type "super")) (htop : (prog.main.scope.names.lookup ("super" : Str)).isSome = false)
    (hlim : s.heap.NoLimit) (hx : s.heap.get? x = some (excO C t0)) (hnx : K.lookup x = none) (hroom : A.depth < recursionLimit)
    (hbind : BindsTo s fd args [("self", .ref x), ("row", v), ("word", v2)])
    (hq : ∀ h' tk dx, InitEnd s.heap h' x C dx t0 (fun y => if y = "word" then some v2 else if y = "row" then some v else none) → R (.ok (.ret .none)) { s with heap := h', toks := tk }) :
    codeAny (model prog w) A (.call (.ref fI) args) R s := by
  obtain ⟨cd, hcd, hmro, hdict, _⟩ := T.cd
  obtain ⟨oc, od, doc, pm, an, ct, osl, a, b, c, q0, q1, q2, q3, q3', q4, q5, q6, q7, q8, q9, r6, r7, r8, r9, hpos, rfl, hfI, hcode⟩ := I.ex
  obtain ⟨hp, g, d, t, os⟩ := s
  have hself : jS.names.lookup ("self" : Str) = some .local := by decide
  have hrow : jS.names.lookup ("row" : Str) = some .local := by decide
  have hword : jS.names.lookup ("word" : Str) = some .local := by decide
  refine ks_codeAny_call_defAt (fd := ksFn "__init__" qual (jA a b c) (jB q0 q1 q2 q3 q3' q4 q5 q6 q7 q8 q9 r6 r7 r8 r9) jS .none .none doc pm an (.ref cda) ct cc) hroom (X _ _ hfI) rfl hlim (codeRec_of X hcode) rfl hbind (by show ∀ x ∈ jS.names, x.2 ≠ .cell; decide) ?_ (fun h₁ hn hk₁ => ?_)
  · intro y hy
    simp only [List.mem_cons, List.mem_nil_iff, or_false] at hy
    rcases hy with rfl | rfl | rfl
    · exact hself
    · exact hrow
    · exact hword
  · have X₁ : K.In h₁ := X.keeps hk₁
    have hx₁ := hk₁ _ _ hx
    have hxe : x ≠ hp.objs.size := Nat.ne_of_lt (Heap.lt_size hx)
    let m : Str → Option Value := fun y => List.lookup y ([(("self" : Str), Value.ref x), ("row", v), ("word", v2)] : List (Str × Value)).reverse
    have mself : m ("self" : Str) = some (.ref x) := by rfl
    have mrow : m ("row" : Str) = some v := by rfl
    have mword : m ("word" : Str) = some v2 := by rfl
    refine ks_wpAt_execs_cons ?_
    refine sup_stmt (rest := [v, v2]) (e := .Name "row" q3) (es := [.Name "word" q3']) (m := m) T X₁ (hgl.keeps hk₁) hmg (hbl.keeps hk₁) hmb hn mself hx₁ hfI ⟨_, rfl⟩ htop rfl (by show jS.names.lookup ("super" : Str) = some .globalImplicit; decide) (by show jS.names.lookup ("__class__" : Str) = some .free; decide) hself ?_ (by show 2 ≤ sizeLine; rw [sizeLine_eq]; omega) ?_ (ev_meth (by rfl) hpos)
    · intro hp' t' Q' kk hQ
      refine spliced_cons (wpAny_Name (wpAny_loadName_local rfl hrow (hn.keeps kk) mrow ?_) (by decide))
      refine spliced_cons (wpAny_Name (wpAny_loadName_local rfl hword (hn.keeps kk) mword ?_) (by decide))
      exact spliced_nil hQ
    · intro h' t' t1 k' hx' hsz
      refine ks_wpAt_execs_cons ?_
      refine ks_wpAt_Assign_Attr ?_
      have X₂ : K.In h' := fun b o e => k' b o (fun z => by rw [z, hnx] at e; cases e) (X₁ _ _ e)
      have hn' : h'.Ns hp.objs.size m := by
        obtain ⟨o, es, ep, ho, r⟩ := hn
        exact ⟨o, es, ep, k' _ _ (Ne.symm hxe) ho, r⟩
      refine wpAt_of_wpAny (wpAny_Name (wpAny_loadName_local rfl hrow hn' mrow ?_) (by decide))
      refine wpAny_Name (wpAny_loadName_local rfl hself hn' mself ?_)
      refine set_plain X₂ (ox := excO C t1) (od := none) ⟨hx', rfl, rfl, trivial⟩ T.sa ?_
      refine exc_osa X₂ hx' hcd hmro hdict hno (fun h₃ tk₃ dx k₃ dn dne hx₃ hn₃ => ?_)
      refine ks_wpAt_execs_cons ?_
      refine ks_wpAt_Assign_Attr ?_
      have X₃ : K.In h₃ := fun b o e => k₃ b o (fun z => by rw [z, hnx] at e; cases e) (X₂ _ _ e)
      have hn'' : h₃.Ns hp.objs.size m := by
        obtain ⟨o, es, ep, ho, r⟩ := hn'
        exact ⟨o, es, ep, k₃ _ _ (Ne.symm hxe) ho, r⟩
      have ns3 := hn₃
      obtain ⟨oD, esD, epD, hoD, hdD, hcD⟩ := hn₃.count (Within.cons "row" v Within.nil)
      refine wpAt_of_wpAny (wpAny_Name (wpAny_loadName_local rfl hword hn'' mword ?_) (by decide))
      refine wpAny_Name (wpAny_loadName_local rfl hself hn'' mself ?_)
      refine set_plain X₃ (ox := { cls := .ref C, dict := some dx, data := .fields #[.ref t1, .none, .none, .none, .bool false, .none] }) (od := some oD) ⟨hx₃, rfl, rfl, hoD⟩ T.sa ?_
      refine OEX.osa_old X₃ hx₃ ns3 (Within.cons "row" v Within.nil) (by decide) hcd hmro hdict hno2 (fun h₄ tk₄ k₄ hn₄ => ?_)
      refine wpAt_of_wpAny (wpAny_execs_nil ?_)
      have nx4 : x ≠ dx := Ne.symm dne
      refine hq h₄ tk₄ dx ⟨fun b o hb e => ?_, ⟨t1, k₄ _ _ nx4 hx₃⟩, Nat.le_trans (Nat.le_trans ?_ hsz) dn, dne, hn₄⟩
      · have e1 := hk₁ b o e
        have hbd : b ≠ dx := fun z => by
          have z1 := Heap.lt_size e1
          rw [z] at z1
          exact absurd (Nat.lt_of_lt_of_le (Nat.lt_of_lt_of_le z1 hsz) dn) (Nat.lt_irrefl _)
        exact k₄ b o hbd (k₃ b o hb (k' b o hb e1))
      · exact Nat.le_of_lt hn.lt
end
end SupX
end PySem
end
section
/-! C(..) of such a class, by position or by name. -/
namespace PySem
namespace SupX
open PySem.W PySem.Calls PyProof.Rows PySem.HandSPX
abbrev VF := F.excBase_ValueError
/-- the heap behind the making: the args' tuple, the bare exception -/
abbrev bare (h : Heap) (C : Addr) (vs : List Value) : Heap := (h.push (W.kdv_tup vs)).push (excO C h.objs.size)
theorem bare_keeps {h : Heap} {C : Addr} {vs : List Value} : ∀ b o, h.get? b = some o → (bare h C vs).get? b = some o := fun _ _ e => Heap.get?_push_of_some _ (Heap.get?_push_of_some _ e)
theorem bare_at {h : Heap} {C : Addr} {vs : List Value} : (bare h C vs).get? (h.objs.size + 1) = some (excO C h.objs.size) := by heap_get
section
variable {prog : Program} {w : World} {A : Around} {E : Value → Shared → Prop} {R : Result → Shared → Prop} {hp : Heap} {gs : Array GenState} {dr : Drawn} {tk : Nat} {os : OsState} {c : ClsP} {C fI : Addr} {vs : List Value} {kw : List (Str × Value)}
theorem cls_has (c : ClsP) (hb : refsVE c.bm = true) (T : String) : (Value.ref C :: c.bm).contains (.type T) = veTail.contains (.type T) := by
  rw [List.contains_cons, c.has hb T]
  rfl
/-- the look at the call of __new__ -/
theorem look_new {M : Model} {Q : Unit → Shared → Prop} (hb : refsVE c.bm = true) (hC : hp.get? C = some (c.ob C)) (k : Q () ⟨hp, gs, dr, tk, os⟩) : wpAny M A (checkBuiltinCall "ValueError.__new__" ⟨.ref C :: vs, kw⟩) Q E ⟨hp, gs, dr, tk, os⟩ := by
  have own := (cls_has (C := C) c hb "ValueError").trans (by decide : veTail.contains (Value.type "ValueError") = true)
  have noS := VF.noStar
  simp only [checkBuiltinCall, VF.newKind, VF.newSplit, VF.newRow]
  repeat (first
    | refine wpAny_loadPart_at hC ?_
    | (refine wpAny_isSubtype_exc hC ?_; rw [own])
    | refine wpAny_staticBase_exc hC ?_
    | refine wpAny_madeBy_exc hC ?_
    | simp only [bne_self_eq_false, Bool.false_eq_true, if_false]
    | wp_step)
  exact k
/-- __new__ itself: what is given by name it lets pass -/
theorem run_new (hb : refsVE c.bm = true) (hC : hp.get? C = some (c.ob C)) (hz : vs.length ≤ sizeLine) (k : R (.ok (.ret (.ref (hp.objs.size + 1)))) ⟨bare hp C vs, gs, dr, tk, os⟩) :
    codeAny (model prog w) A (.builtin "ValueError.__new__" ⟨.ref C :: vs, kw⟩) R ⟨hp, gs, dr, tk, os⟩ := by
  have ends := VF.ends
  have isV := (cls_has (C := C) c hb "ValueError").trans (by decide : veTail.contains (Value.type "ValueError") = true)
  have noA := (cls_has (C := C) c hb "AttributeError").trans (by decide : veTail.contains (Value.type "AttributeError") = false)
  have noN := (cls_has (C := C) c hb "NameError").trans (by decide : veTail.contains (Value.type "NameError") = false)
  refine codeAny_builtinAt VF.entry ?_; unfold Builtin.«BaseException.__new__»
  refine wpAt_bind (show wpAt _ _ _ (stack >>= _) _ _ _ from wpAt_bind (wpAt_stack fun _ _ => wpAt_of_wpAny ?_))
  wp_walk
  refine wpAt_of_wpAny ?_
  rw [VF.owner]
  repeat (first
    | with_reducible refine wpAny_madeHere_exc VF.canon hC ?_
    | with_reducible refine wpAny_loadPart_at hC ?_
    | (with_reducible refine wpAny_isSubtype_exc hC ?_; first | rw [isV] | rw [noA] | rw [noN])
    | wp_step)
  have e : (hp.push (W.kdv_tup vs)).objs.size = hp.objs.size + 1 := Heap.size_push _ _
  show R (.ok (.ret (.ref (hp.push (W.kdv_tup vs)).objs.size))) _
  rw [e]
  exact k
/-- type.__call__: __new__, then the own __init__ -/
theorem run_type (hb : refsVE c.bm = true) (hC : hp.get? C = some (c.ob C)) (hz : vs.length ≤ sizeLine) {Q : Fin → Shared → Prop}
    (hi : Looks (model prog w) hp (typeLookup (.ref C) "__init__") (some (.ref fI))) (hf : ∀ self, Looks (model prog w) hp (bindSpecial (.ref fI) self) (.ref fI, [self]))
    (k : codeAny (model prog w) A (.call (.ref fI) ⟨.ref (hp.objs.size + 1) :: vs, kw⟩)
      (fun r s' => match r with | .ok (.ret v) => v = .none ∧ Q (.done (.ret (.ref (hp.objs.size + 1)))) s' | .ok _ => False | .error e => E e s') ⟨bare hp C vs, gs, dr, tk, os⟩) :
    wpAny (model prog w) A (Builtin.«type.__call__» ⟨.ref C :: vs, kw⟩) Q E ⟨hp, gs, dr, tk, os⟩ := by
  repeat (first | with_reducible refine wpAny_madeBy_exc hC ?_ | with_reducible refine wpAny_loadPart_at hC ?_ | wp_step)
  refine codeAny_call_builtin_code (Code.quiet_builtin _ VF.quiet) (look_new hb hC (run_new hb hC hz (show wpAny _ _ _ _ _ _ from ?_)))
  have at1 : (bare hp C vs).get? (hp.objs.size + 1) = some (excO C hp.objs.size) := bare_at
  have atC := bare_keeps (C := C) (vs := vs) _ _ hC
  have self : (Value.ref C :: c.bm).contains (.ref C) = true := by simp
  unfold isInstance
  repeat (first | with_reducible refine wpAny_loadPart_at at1 ?_ | (with_reducible refine wpAny_isSubtype_exc atC ?_; rw [self]) | wp_step)
  refine (hi.keeps bare_keeps).at (wpAny_holding (wpAny_bind (((hf _).keeps bare_keeps).at (wpAny_bind (wpAny_call (codeAny_mono k fun r s' z => ?_))))))
  cases r with
  | error e => exact z
  | ok f =>
    cases f with
    | ret v =>
      obtain ⟨rfl, z⟩ := z
      first
        | exact wpAny_pure (wpAny_pure (by exact z))
        | (wp_walk; exact z)
    | next => exact False.elim z
    | brk => exact False.elim z
    | cont => exact False.elim z
theorem run_cls (hb : refsVE c.bm = true) (hC : hp.get? C = some (c.ob C)) (hz : vs.length ≤ sizeLine)
    (hi : Looks (model prog w) hp (typeLookup (.ref C) "__init__") (some (.ref fI))) (hf : ∀ self, Looks (model prog w) hp (bindSpecial (.ref fI) self) (.ref fI, [self]))
    (k : codeAny (model prog w) (A.under (.builtin "type.__call__" ⟨.ref C :: vs, kw⟩)) (.call (.ref fI) ⟨.ref (hp.objs.size + 1) :: vs, kw⟩) (W.InitBack (hp.objs.size + 1) R) ⟨bare hp C vs, gs, dr, tk, os⟩) :
    codeAny (model prog w) A (.call (.ref C) ⟨vs, kw⟩) R ⟨hp, gs, dr, tk, os⟩ := by
  have l1 := tc_lookup
  have l2 := tc_bind (.ref C)
  have isT : (⟨hp, gs, dr, tk, os⟩ : Shared).TypeIs (.ref C) "type" := ⟨c.ob C, hC, rfl⟩
  refine codeAny_of_tree (show wpAny _ _ (callAny (.ref C) ⟨vs, kw⟩) _ _ _ from ?_)
  repeat (any_goals (first | with_reducible refine wpAny_loadPart_at hC ?_ | assumption | wp_step))
  refine ⟨rfl, codeAny_call_builtin_at (Code.quiet_builtin _ (by decide +kernel)) entry_typeCall (wpAny_check_type_call_sub hC (run_type hb hC hz hi hf (codeAny_mono k fun r s' z => ?_)))⟩
  cases r with
  | error e => exact z
  | ok f => cases f <;> exact z
end
/-- a made exception of the class at C: its own dict at d is m -/
structure Made (h h' : Heap) (e C d : Addr) (m : Str → Option Value) : Prop where
  keep : ∀ b o, h.get? b = some o → h'.get? b = some o
  new : h.objs.size ≤ e
  obj : ∃ t, h'.get? e = some { cls := .ref C, dict := some d, data := .fields #[.ref t, .none, .none, .none, .bool false, .none] }
  dbig : h.objs.size ≤ d
  dne : d ≠ e
  ns : h'.Ns1 d m
section
variable {prog : Program} {w : World} {A : Around} {E : Value → Shared → Prop} {R : Result → Shared → Prop} {s : Shared} {K : Frag} {C fI cc cda : Addr} {mg mb : Str → Option Value} {qual p : Str} {fd : FuncData}
theorem bare_no {h : Heap} (X : K.In h) : K.lookup (h.objs.size + 1) = none := by
  cases e : K.lookup (h.objs.size + 1) with
  | none => rfl
  | some o => exact absurd (Nat.lt_of_succ_lt (Heap.lt_size (X _ _ e))) (Nat.lt_irrefl _)
theorem made1 (T : SupC prog K C fI cc cda) (I : Init1 K fI cc cda qual p fd) (hno : findIn K (.ref C) p = some none) {v : Value} {vs : List Value} {kw : List (Str × Value)} (hz : vs.length ≤ sizeLine)
    (X : K.In s.heap) (hgl : s.heap.Ns mainGlobals mg) (hmg : mg "super" = none) (hbl : s.heap.Ns builtinsNs mb) (hmb : mb "super" = some (.type "super")) (htop : (prog.main.scope.names.lookup ("super" : Str)).isSome = false)
    (hlim : s.heap.NoLimit) (hroom : A.depth + 1 < recursionLimit) (hbind : ∀ (s : Shared) (x : Addr), BindsTo s fd ⟨.ref x :: vs, kw⟩ [("self", .ref x), (p, v)])
    (hq : ∀ h' tk e d, Made s.heap h' e C d (fun y => if y = p then some v else none) → R (.ok (.ret (.ref e))) { s with heap := h', toks := tk }) : codeAny (model prog w) A (.call (.ref C) ⟨vs, kw⟩) R s := by
  obtain ⟨c, hC, hb⟩ := T.cls
  obtain ⟨hp, g, dr, tk, os⟩ := s
  refine run_cls hb (X _ _ hC) hz (looks_findIn X T.iC) (fun self => bind_fn X self T.tC) ?_
  refine init1 (mg := mg) (mb := mb) (s := ⟨bare hp C vs, g, dr, tk, os⟩) T I hno (X.keeps bare_keeps) (hgl.keeps bare_keeps) hmg (hbl.keeps bare_keeps) hmb htop (hlim.keeps bare_keeps) bare_at (bare_no X) hroom (hbind _ _) fun h' tk' dx ⟨k', ⟨t1, hx⟩, dn, dne, hns⟩ => ?_
  have dn' : hp.objs.size + 1 + 1 ≤ dx := by
    have q := dn
    simp only [Heap.size_push] at q
    exact q
  exact ⟨rfl, hq h' tk' (hp.objs.size + 1) dx ⟨fun b o e => k' b o (Nat.ne_of_lt (Nat.lt_succ_of_lt (Heap.lt_size e))) (bare_keeps b o e), Nat.le_succ _, ⟨t1, hx⟩, Nat.le_trans (Nat.le_trans (Nat.le_succ _) (Nat.le_succ _)) dn', dne, hns⟩⟩
theorem made2 (T : SupC prog K C fI cc cda) (I : Init2 K fI cc cda qual fd) (hno : findIn K (.ref C) "row" = some none) (hno2 : findIn K (.ref C) "word" = some none) {v v2 : Value} {vs : List Value} {kw : List (Str × Value)} (hz : vs.length ≤ sizeLine)
    (X : K.In s.heap) (hgl : s.heap.Ns mainGlobals mg) (hmg : mg "super" = none) (hbl : s.heap.Ns builtinsNs mb) (hmb : mb "super" = some (.type "super")) (htop : (prog.main.scope.names.lookup ("super" : Str)).isSome = false)
    (hlim : s.heap.NoLimit) (hroom : A.depth + 1 < recursionLimit) (hbind : ∀ (s : Shared) (x : Addr), BindsTo s fd ⟨.ref x :: vs, kw⟩ [("self", .ref x), ("row", v), ("word", v2)])
    (hq : ∀ h' tk e d, Made s.heap h' e C d (fun y => if y = "word" then some v2 else if y = "row" then some v else none) → R (.ok (.ret (.ref e))) { s with heap := h', toks := tk }) : codeAny (model prog w) A (.call (.ref C) ⟨vs, kw⟩) R s := by
  obtain ⟨c, hC, hb⟩ := T.cls
  obtain ⟨hp, g, dr, tk, os⟩ := s
  refine run_cls hb (X _ _ hC) hz (looks_findIn X T.iC) (fun self => bind_fn X self T.tC) ?_
  refine init2 (mg := mg) (mb := mb) (s := ⟨bare hp C vs, g, dr, tk, os⟩) T I hno hno2 (X.keeps bare_keeps) (hgl.keeps bare_keeps) hmg (hbl.keeps bare_keeps) hmb htop (hlim.keeps bare_keeps) bare_at (bare_no X) hroom (hbind _ _) fun h' tk' dx ⟨k', ⟨t1, hx⟩, dn, dne, hns⟩ => ?_
  have dn' : hp.objs.size + 1 + 1 ≤ dx := by
    have q := dn
    simp only [Heap.size_push] at q
    exact q
  exact ⟨rfl, hq h' tk' (hp.objs.size + 1) dx ⟨fun b o e => k' b o (Nat.ne_of_lt (Nat.lt_succ_of_lt (Heap.lt_size e))) (bare_keeps b o e), Nat.le_succ _, ⟨t1, hx⟩, Nat.le_trans (Nat.le_trans (Nat.le_succ _) (Nat.le_succ _)) dn', dne, hns⟩⟩
end
end SupX
end PySem
end
section
/-! Own errors as values: what is tracked of one, its class asked, its fields read, its making. -/
namespace Exv
open PySem PySem.Spec PyProof.Rows L2
/-- an error object of the class at C with the own dict d (none: it has none), at a -/
def ExV (C : Addr) (d : Option Addr) (a : Addr) : HO := .ext fun h => ∃ (oe : Obj) (vs : Array Value), h.get? a = some oe ∧ oe.cls = .ref C ∧ oe.dict = d ∧ oe.data = .fields vs
theorem exV_ok {P : Program} {w : World} {H : Hp} {h : Heap} {a C : Addr} {d : Option Addr} {oe : Obj} {vs : Array Value} (e : h.get? a = some oe) (h1 : oe.cls = .ref C) (h2 : oe.dict = d) (h3 : oe.data = .fields vs) : ObjOk P w H h a (ExV C d a) :=
  ⟨⟨oe, vs, e, h1, h2, h3⟩, ⟨oe, e⟩, fun _ _ ⟨o, v, q, r⟩ k => ⟨o, v, k o q, r⟩⟩
/-- an error of the class at C with the fields fs stands at a -/
def ExAt (H : Hp) (a C : Addr) (fs : List (Str × V)) : Prop := (fs = [] ∧ H a = some (ExV C none a)) ∨ ∃ d, H a = some (ExV C (some d) a) ∧ H d = some (.xd fs)
theorem ExAt.keep {H H' : Hp} {a C : Addr} {fs : List (Str × V)} (x : ExAt H a C fs) (k : ∀ b o, H b = some o → H' b = some o) : ExAt H' a C fs := by
  rcases x with ⟨e, x⟩ | ⟨d, x, y⟩
  · exact .inl ⟨e, k _ _ x⟩
  · exact .inr ⟨d, k _ _ x, k _ _ y⟩
/-- what the class at C must say -/
structure ExK (K : PySem.W.Frag) (C : Addr) : Prop where
  hg : PySem.W.findIn K (.ref C) "__getattribute__" = some (some (.builtin "BaseException.__getattribute__"))
  hk : PySem.W.findIn K (.ref C) "__getattr__" = some none
  hs : PySem.W.subIn K (.ref C) (.type "BaseException") = some true
  hc : (PySem.W.clsIn K C).isSome = true
  (hd : PySem.W.hasDictIn K C = true) (ha : PySem.W.findIn K (.ref C) "__class__" = some (some (.builtin "object.__class__")))
  (hm : PySem.W.mroIn K C (.type "object") = some true) (hn : PySem.W.specialIn K (.builtin "object.__class__") "__get__" = some (some (.builtin "getset_descriptor.__get__")))
  (ht : PySem.W.takesIn K (.builtin "object.__class__") = some true)
section
variable {X : Cx} {pins : List (Addr × Obj)} {σ : L2.St} {H : Hp} {s : Shared} {a C : Addr} {fs : List (Str × V)}
theorem ExAt.inst (x : ExAt H a C fs) (I : Inv X pins σ H s) : ∃ (ox : Obj) (od : Option Obj), PySem.W.InstAt s.heap a ox C od ∧ ∀ n v, fs.lookup n = some v → ∃ o u, od = some o ∧ RelV v u ∧ PySem.W.lookIn n o = some (some u) := by
  rcases x with ⟨rfl, x⟩ | ⟨d, x, y⟩
  · obtain ⟨⟨oe, vs, e, h1, h2, h3⟩, _⟩ := I.hok a _ x
    refine ⟨oe, none, ⟨e, h1, by unfold PySem.W.notCls; rw [h3], by rw [h2]; trivial⟩, fun n v h => ?_⟩
    cases h
  · obtain ⟨⟨oe, vs, e, h1, h2, h3⟩, _⟩ := I.hok a _ x
    obtain ⟨mA, hns, hr⟩ := (show ObjOk X.prog X.w H s.heap d (.xd fs) from I.hok d _ y)
    obtain ⟨od, ho, hl⟩ := lookIn_ns hns
    refine ⟨oe, some od, ⟨e, h1, by unfold PySem.W.notCls; rw [h3], by rw [h2]; exact ho⟩, fun n v h => ?_⟩
    obtain ⟨u, hu, ru⟩ := RelO.some_of (v := v) (o := mA n) (by rw [← h]; exact hr n)
    exact ⟨od, u, rfl, ru, by rw [hl, hu]⟩
end
/-- isinstance(e, c) | isinstance(e, (c1, ..)) -/
def rIsX (K : PySem.W.Frag) : List V → Hp → VK → Prop := fun xs H Q => ∃ (a C : Addr) (fs : List (Str × V)) (c : V) (cv : Value) (b : Bool), xs = [.ref a, c] ∧ ExAt H a C fs ∧ ExK K C ∧ ClsV c cv ∧ PySem.W.kitOne K (.ref C) cv = some b ∧ Q (.bl b) H
def rIsXT (K : PySem.W.Frag) : List V → Hp → VK → Prop := fun xs H Q => ∃ (a C tp : Addr) (fs : List (Str × V)) (cs : List V) (us : List Value) (b : Bool), xs = [.ref a, .ref tp] ∧ H tp = some (.tup cs) ∧ Paired ClsV cs us ∧ ExAt H a C fs ∧ ExK K C ∧ PySem.W.kitAny K (.ref C) us = some b ∧ Q (.bl b) H
section
variable {X : Cx}
theorem call_isX : CallR X (.builtin "isinstance") (rIsX X.K) := by
  rintro pins s σ H xs us Q I r ⟨a, C, fs, c, cv, b, rfl, x, T, k, e, q⟩
  obtain ⟨u1, u2, rfl, r1, r2⟩ := vals2 r; cases (show u1 = Value.ref a from r1)
  have e2 := k.eq r2
  subst e2
  obtain ⟨ox, od, J, _⟩ := x.inst I
  exact PySem.W.kia_one (PySem.W.kitx_exc T.hc T.hg T.hk T.hs T.ha T.hn T.ht T.hm) I.kIn J e (fun z => nomatch z) fun tk => ⟨.bl b, H, I.tok tk, rfl, q⟩
theorem call_isXT : CallR X (.builtin "isinstance") (rIsXT X.K) := by
  rintro pins s σ H xs us Q I r ⟨a, C, tp, fs, cs, ws, b, rfl, hT, k, x, T, e, q⟩
  obtain ⟨u1, u2, rfl, r1, r2⟩ := vals2 r; cases (show u1 = Value.ref a from r1); cases (show u2 = Value.ref tp from r2)
  obtain ⟨ox, od, J, _⟩ := x.inst I
  obtain ⟨_, its, rv, ⟨oc, odd, dt, sl⟩, h1, h2, n, h3⟩ := (show ObjOk X.prog X.w H s.heap tp (.tup cs) from I.hok tp _ hT)
  have e3 := ClsV.all k rv
  subst e3
  simp only at h2 h3
  subst h2 h3
  exact PySem.W.kia_tup (PySem.W.kitx_exc T.hc T.hg T.hk T.hs T.ha T.hn T.ht T.hm) I.kIn J h1 e (fun z => nomatch z) fun tk => ⟨.bl b, H, I.tok tk, rfl, q⟩
/-- e.n -/
def tXa (K : PySem.W.Frag) (n : Str) (te : TE) : TE := fun σ H Q => te σ H fun x H1 => ∃ (a C : Addr) (fs : List (Str × V)) (v : V), x = .ref a ∧ ExAt H1 a C fs ∧ ExK K C ∧ PySem.W.findIn K (.ref C) n = some none ∧ fs.lookup n = some v ∧ Q v H1
theorem pe_xa {e : Expr} {te : TE} {pos : Pos} {n : Str} (he : PE X e te) (hb : attributeBase e n X.env (eval e X.env) = eval e X.env := by rfl) : PE X (.Attribute e n pos) (tXa X.K n te) := by
  refine ⟨fun pins s σ H Q I h => attr_of hb (thn (he.run pins s σ H _ I h) fun u s1 hh => ?_)⟩
  obtain ⟨x, H1, I1, rx, a, C, fs, v, ex, xa, T, no, l, q⟩ := hh
  subst ex
  obtain rfl : u = Value.ref a := rx
  obtain ⟨ox, od, J, get⟩ := xa.inst I1
  obtain ⟨o, u, rfl, ru, hl⟩ := get n v l
  exact PySem.HandSPX.exc_get I1.kIn J T.hg T.hk T.hs (PySem.W.findObj_own T.hd no rfl hl) (handed_of ru) ⟨v, H1, I1.tok _, ru, q⟩
end
end Exv
end
section
/-! C(a), C(n = a) of own errors, as expressions. -/
namespace Exv
open PySem PySem.Spec PyProof.Rows L2 SupX
section
variable {fs ex : List Addr} {H : Hp} {h h' : Heap} {a d : Addr} {o u : HO} {P : Program} {w : World}
/-- two new objects at once -/
theorem un_two (k : ∀ b v, h.get? b = some v → h'.get? b = some v) (ha : h.objs.size ≤ a) (hd : h.objs.size ≤ d) (na : H a = none) (nd : H d = none) : Un fs ex H (upd (upd H d u) a o) h h' where
  keep := fun b v q _ _ _ => k b v q
  slot := fun b v q _ _ _ => ⟨v.slots, k b v q⟩
  free := fun b v q n _ => by
    have z := Heap.lt_size q
    rw [upd_ne (Nat.ne_of_lt (Nat.lt_of_lt_of_le z ha)), upd_ne (Nat.ne_of_lt (Nat.lt_of_lt_of_le z hd))]
    exact n
  there := fun b v q _ => ⟨v, k b v q⟩
  tups := fun b xs q => by rw [upd_ne (ne_of_none q na), upd_ne (ne_of_none q nd)]; exact q
  frzs := fun b v xs q => by rw [upd_ne (ne_of_none q na), upd_ne (ne_of_none q nd)]; exact q
  tbls := fun b ps q => ⟨#[], by rw [upd_ne (ne_of_none q na), upd_ne (ne_of_none q nd), q]; simp⟩
theorem ok_two (x : HOk P w H h) (k : ∀ b v, h.get? b = some v → h'.get? b = some v) (na : H a = none) (nd : H d = none) (ne : d ≠ a) (h1 : ObjOk P w (upd (upd H d u) a o) h' d u) (h2 : ObjOk P w (upd (upd H d u) a o) h' a o) : HOk P w (upd (upd H d u) a o) h' := fun b v e => by
  by_cases hb : b = a
  · subst hb
    rw [upd_same] at e
    cases e
    exact h2
  · rw [upd_ne hb] at e
    by_cases hc : b = d
    · subst hc
      rw [upd_same] at e
      cases e
      exact h1
    · rw [upd_ne hc] at e
      refine (x b v e).stay (fun c z _ q => k c z q) (fun c q => ?_) fun c xs q => ?_
      · rw [upd_ne (ne_of_none q na), upd_ne (ne_of_none q nd)]; exact q
      · rw [upd_ne (ne_of_none q na), upd_ne (ne_of_none q nd)]; exact q
end
theorem relO_1 {v : V} {v' : Value} {p : Str} (r : RelV v v') (f : Str) : RelO (List.lookup f [(p, v)]) (if f = p then some v' else none) := by
  by_cases hw : f = p
  · subst hw
    have q : List.lookup f [(f, v)] = some v := by simp [List.lookup]
    rw [if_pos rfl, q]
    exact r
  · have q : (f == p) = false := by simpa using hw
    rw [if_neg hw]
    simp [List.lookup, q, RelO]
/-- a class with __init__(self, p) that hands p on and keeps it -/
structure Sup1 (P : Program) (K : PySem.W.Frag) (mg : Str → Option Value) (x p : Str) (C : Addr) : Prop where
  gC : mg x = some (.ref C)
  ex : ∃ (fI cc cda : Addr) (qual : Str) (fd : FuncData), SupC P K C fI cc cda ∧ Init1 K fI cc cda qual p fd ∧ (∀ (s : Shared) (y : Addr) (v : Value), BindsTo s fd ⟨[.ref y, v], []⟩ [("self", .ref y), (p, v)]) ∧ (∀ (s : Shared) (y : Addr) (v : Value), BindsTo s fd ⟨[.ref y], [(p, v)]⟩ [("self", .ref y), (p, v)])
  no : PySem.W.findIn K (.ref C) p = some none
  (kC : PySem.W.keepIn K (.ref C) = true)
/-- what the module says of super -/
structure SupG (P : Program) (mg : Str → Option Value) : Prop where
  su : mg "super" = none
  top : (P.main.scope.names.lookup ("super" : Str)).isSome = false
theorem boot_super : bootBuiltins "super" = some (.type "super") := by kernel_rfl
/-- C(a): a new error and its dict -/
def tMk1 (C : Addr) (p : Str) (ta : TA) : TE := fun σ H Q => ta σ H fun vs H1 => ∃ v, vs = [v] ∧ ∀ e d, H1 e = none → H1 d = none → d ≠ e → Q (.ref e) (upd (upd H1 d (.xd [(p, v)])) e (ExV C (some d) e))
section
variable {X : Cx} {x p : Str} {C : Addr} {q pos kp : Pos} {a : Expr} {ta : TA}
theorem made_inv {pins : List (Addr × Obj)} {σ : L2.St} {H : Hp} {s : Shared} {h' : Heap} {tk : Nat} {e d : Addr} {m : Str → Option Value} {gs : List (Str × V)} (I : Inv X pins σ H s) (M : Made s.heap h' e C d m) (hm : ∀ f, RelO (gs.lookup f) (m f)) :
    H e = none ∧ H d = none ∧ Inv X pins σ (upd (upd H d (.xd gs)) e (ExV C (some d) e)) { s with heap := h', toks := tk } := by
  obtain ⟨t, he⟩ := M.obj
  have ne := I.hok.fresh M.new
  have nd := I.hok.fresh M.dbig
  exact ⟨ne, nd, I.un (un_two M.keep M.new M.dbig ne nd) (ok_two I.hok M.keep ne nd M.dne ⟨m, M.ns, hm⟩ (exV_ok he rfl rfl rfl))⟩
theorem mk1_run (S : Sup1 X.prog X.K X.mg x p C) (G : SupG X.prog X.mg) (hd : X.A.depth + 1 < recursionLimit) {pins : List (Addr × Obj)} {σ : L2.St} {H : Hp} {s : Shared} {Q : VK} {v : V} {u : Value} (I : Inv X pins σ H s) (r : RelV v u)
    (k : ∀ e d, H e = none → H d = none → d ≠ e → Q (.ref e) (upd (upd H d (.xd [(p, v)])) e (ExV C (some d) e))) :
    wpAny (model X.prog X.w) X.A (call (.ref C) [u] []) (EP X pins σ Q) X.xe s ∧ wpAny (model X.prog X.w) X.A (call (.ref C) [] [(p, u)]) (EP X pins σ Q) X.xe s := by
  obtain ⟨fI, cc, cda, qual, fd, T, J, bp, bk⟩ := S.ex
  obtain ⟨mb, hb, hbb⟩ := I.mod.blt
  have hmb : mb "super" = some (.type "super") := (hbb _ (by decide)).trans boot_super
  have fin : ∀ h' tk e d, Made s.heap h' e C d (fun y => if y = p then some u else none) → EP X pins σ Q (.ref e) { s with heap := h', toks := tk } := fun h' tk e d M => by
    obtain ⟨ne, nd, I2⟩ := made_inv (tk := tk) I M (gs := [(p, v)]) (relO_1 r)
    exact ⟨.ref e, _, I2, rfl, k e d ne nd M.dne⟩
  exact ⟨wpAny_call (made1 T J S.no (v := u) (vs := [u]) (kw := []) (by show 1 ≤ sizeLine; rw [sizeLine_eq]; omega) I.kIn (I.mod.glob.keeps I.bk) G.su (hb.keeps I.bk) hmb G.top I.nolimit hd (fun s y => bp s y u) fin),
    wpAny_call (made1 T J S.no (v := u) (vs := []) (kw := [(p, u)]) (Nat.zero_le _) I.kIn (I.mod.glob.keeps I.bk) G.su (hb.keeps I.bk) hmb G.top I.nolimit hd (fun s y => bk s y u) fin)⟩
theorem pe_mk1 (S : Sup1 X.prog X.K X.mg x p C) (G : SupG X.prog X.mg) (hd : X.A.depth + 1 < recursionLimit) (ha : PA X [a] ta) (hg : Gl X x := by rfl) (hdb : (x == ("__debug__" : Str)) = false := by decide)
    (he : starEach [a] X.env = (false, eval a X.env) :: starEach [] X.env := by rfl) (hpl : (backTo pos (starEach [] X.env)).any (·.1) = false := by rfl) : PE X (.Call (.Name x q) [a] [] pos) (tMk1 C p ta) := by
  refine ⟨fun pins s σ H Q I h => wpAny_Call_Name_kw (ld_glob I hg S.gC ?_ hdb)⟩
  refine PySem.W.callWith_K (h₀ := X.base) I.ok.mod.kin S.kC (thn (ha.run pos pins s σ H _ I h) fun us s1 hh => ?_) he hpl
  obtain ⟨vs, H1, I1, r1, v, ev, k⟩ := hh
  subst ev
  obtain ⟨u, rfl, r⟩ := vals1 r1
  exact ⟨I1.kIn, (mk1_run S G hd I1 r k).1⟩
theorem pe_mk1k (S : Sup1 X.prog X.K X.mg x p C) (G : SupG X.prog X.mg) (hd : X.A.depth + 1 < recursionLimit) (ha : PK X [⟨some p, a, kp⟩] ta) (hg : Gl X x := by rfl) (hdb : (x == ("__debug__" : Str)) = false := by decide)
    (hall : (backToKw pos (keywordEach [⟨some p, a, kp⟩] X.env)).all (·.1.isSome) = true := by rfl) (hks : (backToKw pos (keywordEach [⟨some p, a, kp⟩] X.env)).filterMap (·.1) = [p] := by rfl)
    (hpl : ((backTo pos (starEach [] X.env)).any (·.1) || (backToKw pos (keywordEach [⟨some p, a, kp⟩] X.env)).any (·.1.isNone)) = false := by rfl) : PE X (.Call (.Name x q) [] [⟨some p, a, kp⟩] pos) (tMk1 C p ta) := by
  refine ⟨fun pins s σ H Q I h => wpAny_Call_Name_kw (ld_glob I hg S.gC ?_ hdb)⟩
  refine PySem.W.callWith_KW0 (h₀ := X.base) I.ok.mod.kin S.kC hall (thn (ha.run pos pins s σ H _ I h) fun us s1 hh => ?_) hpl
  obtain ⟨vs, H1, I1, r1, v, ev, k⟩ := hh
  subst ev
  obtain ⟨u, rfl, r⟩ := vals1 r1
  rw [hks]
  exact ⟨I1.kIn, (mk1_run S G hd I1 r k).2⟩
/-! ### two fields -/
theorem relO_2 {v v2 : V} {u u2 : Value} (r : RelV v u) (r2 : RelV v2 u2) (f : Str) : RelO (List.lookup f [(("row" : Str), v), ("word", v2)]) (if f = "word" then some u2 else if f = "row" then some u else none) := by
  by_cases hw : f = "word"
  · subst hw
    rw [if_pos rfl]
    exact r2
  · rw [if_neg hw]
    by_cases hv : f = "row"
    · subst hv
      rw [if_pos rfl]
      exact r
    · rw [if_neg hv]
      have q1 : (f == ("row" : Str)) = false := by simpa using hv
      have q2 : (f == ("word" : Str)) = false := by simpa using hw
      simp [List.lookup, q1, q2, RelO]
structure Sup2 (P : Program) (K : PySem.W.Frag) (mg : Str → Option Value) (x : Str) (C : Addr) : Prop where
  gC : mg x = some (.ref C)
  ex : ∃ (fI cc cda : Addr) (qual : Str) (fd : FuncData), SupC P K C fI cc cda ∧ Init2 K fI cc cda qual fd ∧ (∀ (s : Shared) (y : Addr) (v v2 : Value), BindsTo s fd ⟨[.ref y, v, v2], []⟩ [("self", .ref y), ("row", v), ("word", v2)]) ∧
    (∀ (s : Shared) (y : Addr) (v v2 : Value), BindsTo s fd ⟨[.ref y], [("row", v), ("word", v2)]⟩ [("self", .ref y), ("row", v), ("word", v2)])
  no : PySem.W.findIn K (.ref C) "row" = some none
  no2 : PySem.W.findIn K (.ref C) "word" = some none
  (kC : PySem.W.keepIn K (.ref C) = true)
def tMk2 (C : Addr) (ta : TA) : TE := fun σ H Q => ta σ H fun vs H1 => ∃ v v2, vs = [v, v2] ∧ ∀ e d, H1 e = none → H1 d = none → d ≠ e → Q (.ref e) (upd (upd H1 d (.xd [("row", v), ("word", v2)])) e (ExV C (some d) e))
variable {b : Expr} {kp2 : Pos}
theorem mk2_run (S : Sup2 X.prog X.K X.mg x C) (G : SupG X.prog X.mg) (hd : X.A.depth + 1 < recursionLimit) {pins : List (Addr × Obj)} {σ : L2.St} {H : Hp} {s : Shared} {Q : VK} {v v2 : V} {u u2 : Value} (I : Inv X pins σ H s) (r : RelV v u) (r2 : RelV v2 u2)
    (k : ∀ e d, H e = none → H d = none → d ≠ e → Q (.ref e) (upd (upd H d (.xd [("row", v), ("word", v2)])) e (ExV C (some d) e))) :
    wpAny (model X.prog X.w) X.A (call (.ref C) [u, u2] []) (EP X pins σ Q) X.xe s ∧ wpAny (model X.prog X.w) X.A (call (.ref C) [] [("row", u), ("word", u2)]) (EP X pins σ Q) X.xe s := by
  obtain ⟨fI, cc, cda, qual, fd, T, J, bp, bk⟩ := S.ex
  obtain ⟨mb, hb, hbb⟩ := I.mod.blt
  have hmb : mb "super" = some (.type "super") := (hbb _ (by decide)).trans boot_super
  have fin : ∀ h' tk e d, Made s.heap h' e C d (fun y => if y = "word" then some u2 else if y = "row" then some u else none) → EP X pins σ Q (.ref e) { s with heap := h', toks := tk } := fun h' tk e d M => by
    obtain ⟨ne, nd, I2⟩ := made_inv (tk := tk) I M (gs := [("row", v), ("word", v2)]) (relO_2 r r2)
    exact ⟨.ref e, _, I2, rfl, k e d ne nd M.dne⟩
  exact ⟨wpAny_call (made2 T J S.no S.no2 (v := u) (v2 := u2) (vs := [u, u2]) (kw := []) (by show 2 ≤ sizeLine; rw [sizeLine_eq]; omega) I.kIn (I.mod.glob.keeps I.bk) G.su (hb.keeps I.bk) hmb G.top I.nolimit hd (fun s y => bp s y u u2) fin),
    wpAny_call (made2 T J S.no S.no2 (v := u) (v2 := u2) (vs := []) (kw := [("row", u), ("word", u2)]) (Nat.zero_le _) I.kIn (I.mod.glob.keeps I.bk) G.su (hb.keeps I.bk) hmb G.top I.nolimit hd (fun s y => bk s y u u2) fin)⟩
theorem pe_mk2 (S : Sup2 X.prog X.K X.mg x C) (G : SupG X.prog X.mg) (hd : X.A.depth + 1 < recursionLimit) (ha : PA X [a, b] ta) (hg : Gl X x := by rfl) (hdb : (x == ("__debug__" : Str)) = false := by decide)
    (he : starEach [a, b] X.env = (false, eval a X.env) :: starEach [b] X.env := by rfl) (hpl : (backTo pos (starEach [b] X.env)).any (·.1) = false := by rfl) : PE X (.Call (.Name x q) [a, b] [] pos) (tMk2 C ta) := by
  refine ⟨fun pins s σ H Q I h => wpAny_Call_Name_kw (ld_glob I hg S.gC ?_ hdb)⟩
  refine PySem.W.callWith_K (h₀ := X.base) I.ok.mod.kin S.kC (thn (ha.run pos pins s σ H _ I h) fun us s1 hh => ?_) he hpl
  obtain ⟨vs, H1, I1, r1, v, v2, ev, k⟩ := hh
  subst ev
  obtain ⟨u, u2, rfl, r, r2⟩ := vals2 r1
  exact ⟨I1.kIn, (mk2_run S G hd I1 r r2 k).1⟩
theorem pe_mk2k (S : Sup2 X.prog X.K X.mg x C) (G : SupG X.prog X.mg) (hd : X.A.depth + 1 < recursionLimit) (ha : PK X [⟨some "row", a, kp⟩, ⟨some "word", b, kp2⟩] ta) (hg : Gl X x := by rfl) (hdb : (x == ("__debug__" : Str)) = false := by decide)
    (hall : (backToKw pos (keywordEach [⟨some "row", a, kp⟩, ⟨some "word", b, kp2⟩] X.env)).all (·.1.isSome) = true := by rfl) (hks : (backToKw pos (keywordEach [⟨some "row", a, kp⟩, ⟨some "word", b, kp2⟩] X.env)).filterMap (·.1) = (["row", "word"] : List Str) := by rfl)
    (hpl : ((backTo pos (starEach [] X.env)).any (·.1) || (backToKw pos (keywordEach [⟨some "row", a, kp⟩, ⟨some "word", b, kp2⟩] X.env)).any (·.1.isNone)) = false := by rfl) : PE X (.Call (.Name x q) [] [⟨some "row", a, kp⟩, ⟨some "word", b, kp2⟩] pos) (tMk2 C ta) := by
  refine ⟨fun pins s σ H Q I h => wpAny_Call_Name_kw (ld_glob I hg S.gC ?_ hdb)⟩
  refine PySem.W.callWith_KW0 (h₀ := X.base) I.ok.mod.kin S.kC hall (thn (ha.run pos pins s σ H _ I h) fun us s1 hh => ?_) hpl
  obtain ⟨vs, H1, I1, r1, v, v2, ev, k⟩ := hh
  subst ev
  obtain ⟨u, u2, rfl, r, r2⟩ := vals2 r1
  rw [hks]
  exact ⟨I1.kIn, (mk2_run S G hd I1 r r2 k).2⟩
/-! ### none -/
/-- a class without __init__ -/
structure Sup0 (K : PySem.W.Frag) (mg : Str → Option Value) (x : Str) (C : Addr) : Prop where
  gC : mg x = some (.ref C)
  ex : PySem.W.excIn K C PySem.HandSPX.veTail "ValueError.__new__" = true
  (kC : PySem.W.keepIn K (.ref C) = true)
def tMk0 (C : Addr) : TE := fun _ H Q => ∀ e, H e = none → Q (.ref e) (upd H e (ExV C none e))
theorem pe_mk0 (S : Sup0 X.K X.mg x C) (hg : Gl X x := by rfl) (hdb : (x == ("__debug__" : Str)) = false := by decide) : PE X (.Call (.Name x q) [] [] pos) (tMk0 C) := by
  refine ⟨fun pins s σ H Q I h => wpAny_Call_Name_kw (ld_glob I hg S.gC ?_ hdb)⟩
  refine PySem.W.callWith_K0 I.kIn S.kC ?_
  obtain ⟨bm, N, nm, qn, bs, hdct, sn, sub, ab, col, dd, k0, k1, k2, k3, k5, mN, hC, hN, hni, T⟩ := exc_obj I.kIn S.ex
  show wpAny _ _ (call (.ref C) []) _ _ _
  obtain ⟨hp, g, dr, tk, os⟩ := s
  refine wpAny_call_exc_subT F.excBase_ValueError T hC hN hni (fun h' e hm => ?_) (Nat.zero_le _)
  obtain ⟨t, he, _, _⟩ := hm.there
  have ne := I.hok.gone hm.new
  have k1 : ObjOk X.prog X.w (upd H e (ExV C none e)) h' e (ExV C none e) := exV_ok he rfl rfl rfl
  exact ⟨.ref e, _, I.un (t' := tk) (Un.laidN hm.keeps hm.new ne) (HOk.laidN I.hok hm.keeps ne k1), rfl, h e ne⟩
end
end Exv
end
section
/-! repr of data at any depth, empty dicts among them; defs that are called where no repr is under way. -/
namespace Exv
open PySem PySem.Spec PyProof.Rows L2
mutual
/-- the value is the datum -/
inductive Dq (K : PySem.W.Frag) (H : Hp) : V → PyData → Prop
  | non : Dq K H .non .none
  | bl (b : Bool) : Dq K H (.bl b) (.bool b)
  | int (i : Int) : Dq K H (.int i) (.int i)
  | str (x : Str) : Dq K H (.str x) (.str x)
  | lst {a : Addr} {xs : List V} {ds : List PyData} : SqL K H a xs → a ≠ sysModules → DqAll K H xs ds → Dq K H (.ref a) (.list ds)
  | tup {a : Addr} {xs : List V} {ds : List PyData} : SqT K H a xs → DqAll K H xs ds → Dq K H (.ref a) (.tuple ds)
  | dict {a : Addr} : H a = some (.dK []) → Dq K H (.ref a) (.dict [])
inductive DqAll (K : PySem.W.Frag) (H : Hp) : List V → List PyData → Prop
  | nil : DqAll K H [] []
  | cons {v : V} {vs : List V} {d : PyData} {ds : List PyData} : Dq K H v d → DqAll K H vs ds → DqAll K H (v :: vs) (d :: ds)
end
section
variable {X : Cx} {pins : List (Addr × Obj)} {s : Shared} {σ : L2.St} {H : Hp}
mutual
theorem Dq.reads (I : Inv X pins σ H s) : ∀ (d : PyData) (v : V) (u : Value), Dq X.K H v d → RelV v u → ∃ as, Reads s.heap u d as ∧ sysModules ∉ as
  | .none, _, _, h, r => by
    cases h
    cases r
    exact ⟨_, Reads.none, by simp⟩
  | .bool b, _, _, h, r => by
    cases h
    cases r
    exact ⟨_, Reads.bool b, by simp⟩
  | .int i, _, _, h, r => by
    cases h
    obtain ⟨t, rfl⟩ := r
    exact ⟨_, Reads.int i t, by simp⟩
  | .str x, _, _, h, r => by
    cases h
    obtain ⟨t, rfl⟩ := r
    exact ⟨_, Reads.str x t, by simp⟩
  | .list ds, _, _, h, r => by
    cases h with
    | lst hs ne ha =>
      cases r; obtain ⟨its, rv, ⟨o, n, ho, hc, _, hd⟩, _⟩ := I.list hs
      obtain ⟨as, hr, no⟩ := Dq.readsAll I ds _ its ha rv
      exact ⟨_, Reads.list ho hc hd hr, by
        rw [List.mem_cons]
        rintro (z | z)
        · exact ne z.symm
        · exact no z⟩
  | .tuple ds, _, _, h, r => by
    cases h with
    | tup hs ha =>
      cases r; obtain ⟨its, rv, ⟨o, ho, hc, n, hd⟩, _⟩ := I.tuple hs
      obtain ⟨as, hr, no⟩ := Dq.readsAll I ds _ its ha rv
      exact ⟨_, Reads.tuple ho hc hd hr, no⟩
  | .dict [], v, _, h, r => by
    cases h with
    | dict ha =>
      rename_i a
      cases r
      obtain ⟨_, hsys, vs, kv, o, es, ep, h1, h2, h3, h4⟩ := (show ObjOk X.prog X.w H s.heap a (.dK []) from I.hok a _ ha)
      cases kv
      obtain ⟨_, hp, _⟩ := h4
      have e : es.toList = [] := by
        cases q : es.toList with
        | nil => rfl
        | cons y ys =>
          rw [q] at hp
          cases hp
      have c : o.cls = .type "dict" := h2.1
      refine ⟨_, Reads.dict (kvs := []) h1 c h3 (by rw [e]; exact ReadsAll.nil) (by rw [e]; exact ReadsAll.nil), ?_⟩
      intro z
      have z' : sysModules = a := by simpa using z
      rw [← z'] at hsys
      cases hsys
  | .dict (_ :: _), _, _, h, _ => by cases h
theorem Dq.readsAll (I : Inv X pins σ H s) : ∀ (ds : List PyData) (vs : List V) (us : List Value), DqAll X.K H vs ds → Vals vs us → ∃ as, ReadsAll s.heap us ds as ∧ sysModules ∉ as
  | [], _, _, h, r => by
    cases h
    cases r
    exact ⟨_, ReadsAll.nil, by simp⟩
  | d :: ds, _, _, h, r => by
    cases h with
    | cons h1 h2 =>
      cases r with
      | cons r1 r2 =>
        obtain ⟨as, q1, n1⟩ := Dq.reads I d _ _ h1 r1
        obtain ⟨bs, q2, n2⟩ := Dq.readsAll I ds _ _ h2 r2
        exact ⟨_, ReadsAll.cons q1 q2, by
          rw [List.mem_append]
          rintro (z | z)
          · exact n1 z
          · exact n2 z⟩
end
theorem rd_keep {H H' : Hp} (k : ∀ b o, H b = some o → H' b = some o) {a : Addr} {u : HO} (h : Rd H a u) : Rd H' a u := by
  rcases h with h | ⟨o, h⟩
  · exact .inl (k _ _ h)
  · exact .inr ⟨o, k _ _ h⟩
theorem sqL_keep {K : PySem.W.Frag} {H H' : Hp} (k : ∀ b o, H b = some o → H' b = some o) {a : Addr} {xs : List V} (h : SqL K H a xs) : SqL K H' a xs := h.elim (fun h => .inl (rd_keep k h)) .inr
theorem sqT_keep {K : PySem.W.Frag} {H H' : Hp} (k : ∀ b o, H b = some o → H' b = some o) {a : Addr} {xs : List V} (h : SqT K H a xs) : SqT K H' a xs := h.elim (fun h => .inl (rd_keep k h)) .inr
mutual
theorem Dq.keep {K : PySem.W.Frag} {H H' : Hp} (k : ∀ b o, H b = some o → H' b = some o) : ∀ (d : PyData) (v : V), Dq K H v d → Dq K H' v d
  | .none, _, h => by cases h; exact .non
  | .bool _, _, h => by cases h; exact .bl _
  | .int _, _, h => by cases h; exact .int _
  | .str _, _, h => by cases h; exact .str _
  | .list ds, _, h => by
    cases h with
    | lst h1 ne h2 => exact .lst (sqL_keep k h1) ne (DqAll.keep k ds _ h2)
  | .tuple ds, _, h => by
    cases h with
    | tup h1 h2 => exact .tup (sqT_keep k h1) (DqAll.keep k ds _ h2)
  | .dict [], _, h => by
    cases h with
    | dict h1 => exact .dict (k _ _ h1)
  | .dict (_ :: _), _, h => by cases h
theorem DqAll.keep {K : PySem.W.Frag} {H H' : Hp} (k : ∀ b o, H b = some o → H' b = some o) : ∀ (ds : List PyData) (vs : List V), DqAll K H vs ds → DqAll K H' vs ds
  | [], _, h => by cases h; exact .nil
  | d :: ds, _, h => by
    cases h with
    | cons h1 h2 => exact .cons (Dq.keep k d _ h1) (DqAll.keep k ds _ h2)
end
/-- a new list: it is not the dict of the modules -/
def tLstB (t : TA) : TE := fun σ H Q => t σ H fun xs H1 => xs.length ≤ sizeLine ∧ ∀ p, H1 p = none → p ≠ sysModules → Q (.ref p) (upd H1 p (.lst xs))
theorem pe_lstB {es : List Expr} {t : TA} {pos : Pos} (h : PA X es t) : PE X (.List es pos) (tLstB t) := by
  refine ⟨fun pins s σ H Q I hq => wpAny_List_spliced (thn (h.run pos pins s σ H _ I hq) fun us s1 hh => ?_)⟩
  obtain ⟨xs, H1, I1, r, z, q⟩ := hh
  have new := I1.hok.fresh (Nat.le_refl s1.heap.objs.size)
  refine ⟨by rw [← r.length]; exact z, .ref s1.heap.objs.size, upd H1 s1.heap.objs.size (.lst xs), I1.laid (t' := s1.toks) (fun b u e => Heap.get?_push_of_some _ e) (Nat.le_refl _) ⟨z, us, 0, r, Heap.get?_push_size _ rfl⟩, rfl, q _ new ?_⟩
  exact Nat.ne_of_gt I1.big
/-- repr(x), x of such data, where no repr is under way -/
def rReprD (K : PySem.W.Frag) : List V → Hp → VK → Prop := fun xs H Q => ∃ x d, xs = [x] ∧ Dq K H x d ∧ d.showable = true ∧ d.depth ≤ 40 ∧ d.shown.length ≤ sizeLine ∧ Q (.str d.shown) H
theorem call_reprD (hg : X.A.guards = some []) (hu : X.A.units + 64 < cLine) : CallR X (.builtin "repr") (rReprD X.K) := by
  rintro pins s σ H xs us Q I r ⟨x, d, rfl, hd, hs, hdep, hz, q⟩
  obtain ⟨u, rfl, ru⟩ := vals1 r; have all := hd
  cases hd with
  | non => cases ru; exact PySem.P.repr_of_none ⟨.str _, H, I.tok _, ⟨_, rfl⟩, q⟩
  | bl b => cases ru; exact PySem.P.repr_of_bool ⟨.str _, H, I.tok _, ⟨_, rfl⟩, q⟩
  | int i =>
    obtain ⟨t, rfl⟩ := ru
    exact PySem.P.repr_of_int (of_decide_eq_true hs) ⟨.str _, H, I.tok _, ⟨_, rfl⟩, q⟩
  | str z =>
    obtain ⟨t, rfl⟩ := ru
    exact PySem.P.repr_of_str ⟨.str _, H, I.tok _, ⟨_, rfl⟩, q⟩ hz
  | _ =>
    cases ru
    obtain ⟨as, hr, no⟩ := Dq.reads I _ _ _ all rfl
    exact PySem.repr_of_reads' hr hs (fun _ => no) hg (by omega) (fun _ _ e => e) (fun h' u tk k => ⟨.str _, H, I.kept (t' := tk) k, ⟨_, rfl⟩, q⟩) hz
end
end Exv
end
section
/-! What an evaluation comes to, told by what is true of it (Gv, Ga); the rows of errors. -/
namespace Exv
open PySem PySem.Spec PyProof.Rows L2
abbrev Ex := Evl.Ex
def Gv (te : TE) (σ : L2.St) (H : Hp) (P : V → Hp → Prop) : Prop := ∀ H1, Ex H H1 → ∀ Q : VK, (∀ v H2, Ex H1 H2 → P v H2 → Q v H2) → te σ H1 Q
def Ga (ta : TA) (σ : L2.St) (H : Hp) (P : List V → Hp → Prop) : Prop := ∀ H1, Ex H H1 → ∀ Q : List V → Hp → Prop, (∀ vs H2, Ex H1 H2 → P vs H2 → Q vs H2) → ta σ H1 Q
def Stb {α : Type} (P : α → Hp → Prop) : Prop := ∀ v H H', Ex H H' → P v H → P v H'
section
variable {σ : L2.St} {H H' : Hp} {te : TE} {ta : TA} {P : V → Hp → Prop} {R : List V → Hp → Prop} {v : V} {C : Addr} {p : Str}
theorem Gv.mono (e : Ex H H') (h : Gv te σ H P) : Gv te σ H' P := fun H1 a Q q => h H1 (e.trans a) Q q
theorem gv_imp {P' : V → Hp → Prop} (h : Gv te σ H P) (k : ∀ v H, P v H → P' v H) : Gv te σ H P' := fun H1 a Q q => h H1 a Q fun v H2 e x => q v H2 e (k v H2 x)
theorem ga_imp {R' : List V → Hp → Prop} (h : Ga ta σ H R) (k : ∀ v H, R v H → R' v H) : Ga ta σ H R' := fun H1 a Q q => h H1 a Q fun v H2 e x => q v H2 e (k v H2 x)
theorem gv_var {i : Nat} (h : σ[i]? = some (some v)) : Gv (tVar i) σ H (fun x _ => x = v) := fun H1 _ _ q => ⟨v, h, q v H1 (Evl.Ex.refl H1) rfl⟩
theorem gv_c : Gv (tC v) σ H (fun x _ => x = v) := fun H1 _ _ q => q v H1 (Evl.Ex.refl H1) rfl
theorem ga_nil : Ga tNil σ H (fun vs _ => vs = []) := fun H1 _ _ q => q [] H1 (Evl.Ex.refl H1) rfl
theorem ga_cons (h : Gv te σ H P) (st : Stb P) (hr : Ga ta σ H R) : Ga (tCons te ta) σ H (fun vs H => ∃ v r, vs = v :: r ∧ P v H ∧ R r H) := fun H1 e Q q =>
  h H1 e _ fun v H2 e2 pv => hr H2 (e.trans e2) _ fun r H3 e3 pr => q (v :: r) H3 (e2.trans e3) ⟨v, r, rfl, st v _ _ e3 pv, pr⟩
theorem ga_eq {ys : List V} (h : Gv te σ H (fun x _ => x = v)) (hr : Ga ta σ H (fun vs _ => vs = ys)) : Ga (tCons te ta) σ H (fun vs _ => vs = v :: ys) := fun H1 e Q q =>
  h H1 e _ fun x H2 e2 px => hr H2 (e.trans e2) _ fun r H3 e3 pr => q (x :: r) H3 (e2.trans e3) (by rw [px, pr])
theorem gv_lst (h : Ga ta σ H R) (st : Stb R) (hl : ∀ vs H, R vs H → vs.length ≤ 100000) : Gv (tLst ta) σ H (fun v H => ∃ a vs, v = .ref a ∧ H a = some (.lst vs) ∧ R vs H) := fun H1 e Q q =>
  h H1 e _ fun vs H2 e2 r => ⟨Evl.sz_of (hl vs H2 r), fun a ha => q (.ref a) _ (e2.trans (Evl.Ex.new ha)) ⟨a, vs, rfl, upd_same, st vs _ _ (Evl.Ex.new ha) r⟩⟩
theorem gv_lstB (h : Ga ta σ H R) (st : Stb R) (hl : ∀ vs H, R vs H → vs.length ≤ 100000) : Gv (tLstB ta) σ H (fun v H => ∃ a vs, v = .ref a ∧ a ≠ sysModules ∧ H a = some (.lst vs) ∧ R vs H) := fun H1 e Q q =>
  h H1 e _ fun vs H2 e2 r => ⟨Evl.sz_of (hl vs H2 r), fun a ha hb => q (.ref a) _ (e2.trans (Evl.Ex.new ha)) ⟨a, vs, rfl, hb, upd_same, st vs _ _ (Evl.Ex.new ha) r⟩⟩
theorem gv_tup (h : Ga ta σ H R) (st : Stb R) (hl : ∀ vs H, R vs H → vs.length ≤ 100000) : Gv (tTup ta) σ H (fun v H => ∃ a vs, v = .ref a ∧ H a = some (.tup vs) ∧ R vs H) := fun H1 e Q q =>
  h H1 e _ fun vs H2 e2 r => ⟨Evl.sz_of (hl vs H2 r), fun a ha => q (.ref a) _ (e2.trans (Evl.Ex.new ha)) ⟨a, vs, rfl, upd_same, st vs _ _ (Evl.Ex.new ha) r⟩⟩
theorem exAt_ex {a : Addr} {fs : List (Str × V)} (x : ExAt H a C fs) (e : Ex H H') : ExAt H' a C fs := x.keep e
theorem gv_mk1 (h : Ga ta σ H (fun vs _ => vs = [v])) : Gv (tMk1 C p ta) σ H (fun x H => ∃ e, x = .ref e ∧ ExAt H e C [(p, v)]) := fun H1 e Q q =>
  h H1 e _ fun vs H2 e2 r => ⟨v, r, fun a d na nd ne => by
    have k : Ex H2 (upd (upd H2 d (.xd [(p, v)])) a (ExV C (some d) a)) := (Evl.Ex.new nd).trans (Evl.Ex.new (by rw [upd_ne (Ne.symm ne)]; exact na))
    exact q (.ref a) _ (e2.trans k) ⟨a, rfl, .inr ⟨d, upd_same, by rw [upd_ne ne]; exact upd_same⟩⟩⟩
theorem gv_mk2 (h : Ga ta σ H R) (st : Stb R) (two : ∀ vs H, R vs H → ∃ v v2, vs = [v, v2]) : Gv (tMk2 C ta) σ H (fun x H => ∃ e v v2, x = .ref e ∧ R [v, v2] H ∧ ExAt H e C [("row", v), ("word", v2)]) := fun H1 e Q q =>
  h H1 e _ fun vs H2 e2 r => by
    obtain ⟨v, v2, rfl⟩ := two vs H2 r
    refine ⟨v, v2, rfl, fun a d na nd ne => ?_⟩
    have k : Ex H2 (upd (upd H2 d (.xd [("row", v), ("word", v2)])) a (ExV C (some d) a)) := (Evl.Ex.new nd).trans (Evl.Ex.new (by rw [upd_ne (Ne.symm ne)]; exact na))
    exact q (.ref a) _ (e2.trans k) ⟨a, v, v2, rfl, st _ _ _ k r, .inr ⟨d, upd_same, by rw [upd_ne ne]; exact upd_same⟩⟩
theorem gv_mk0 : Gv (tMk0 C) σ H (fun x H => ∃ e, x = .ref e ∧ ExAt H e C []) := fun H1 e Q q a na =>
  q (.ref a) _ (Evl.Ex.new na) ⟨a, rfl, .inl ⟨rfl, upd_same⟩⟩
end
/-! ### the rows of errors -/
/-- what the error of the word w keeps -/
def FsOk (t : V) (w : Str) (fs : List (Str × V)) (H : Hp) : Prop :=
  (w = "given" ∧ fs = [(("given" : Str), t)]) ∨ (w = "index" ∧ fs = [(("index" : Str), t)]) ∨ (w = "reason" ∧ fs = [(("reason" : Str), t)]) ∨ (w = "row" ∧ ∃ l, fs = [(("row" : Str), t), ("word", .ref l)] ∧ l ≠ sysModules ∧ H l = some (.lst [t])) ∨ (w = "" ∧ fs = [])
def ErrAt (t : V) (w : Str) (C : Addr) : V → Hp → Prop := fun v H => ∃ e fs, v = .ref e ∧ ExAt H e C fs ∧ FsOk t w fs H
def RowAt (t : V) (w : Str) (C : Addr) : V → Hp → Prop := fun v H => ∃ a x y, v = .ref a ∧ H a = some (.lst [.str w, x, y]) ∧ ErrAt t w C x H ∧ ErrAt t w C y H
inductive RowsAt (t : V) : List (Str × Addr) → List V → Hp → Prop
  | nil {H : Hp} : RowsAt t [] [] H
  | cons {w : Str} {C : Addr} {tab : List (Str × Addr)} {v : V} {vs : List V} {H : Hp} : RowAt t w C v H → RowsAt t tab vs H → RowsAt t ((w, C) :: tab) (v :: vs) H
theorem FsOk.ex {t : V} {w : Str} {fs : List (Str × V)} {H H' : Hp} (e : Ex H H') (h : FsOk t w fs H) : FsOk t w fs H' := by
  rcases h with h | h | h | ⟨h, l, h1, hb, h2⟩ | h
  · exact .inl h
  · exact .inr (.inl h)
  · exact .inr (.inr (.inl h))
  · exact .inr (.inr (.inr (.inl ⟨h, l, h1, hb, e _ _ h2⟩)))
  · exact .inr (.inr (.inr (.inr h)))
theorem errAt_st {t : V} {w : Str} {C : Addr} : Stb (ErrAt t w C) := fun v H H' e ⟨a, fs, h1, h2, h3⟩ => ⟨a, fs, h1, h2.keep e, h3.ex e⟩
theorem rowAt_st {t : V} {w : Str} {C : Addr} : Stb (RowAt t w C) := fun v H H' e ⟨a, x, y, h1, h2, h3, h4⟩ => ⟨a, x, y, h1, e _ _ h2, errAt_st _ _ _ e h3, errAt_st _ _ _ e h4⟩
theorem rowsAt_st {t : V} {tab : List (Str × Addr)} : Stb (RowsAt t tab) := fun vs H H' e h => by
  induction h with
  | nil => exact .nil
  | cons r _ ih => exact .cons (rowAt_st _ _ _ e r) (ih e)
theorem RowsAt.len {t : V} {tab : List (Str × Addr)} {vs : List V} {H : Hp} (h : RowsAt t tab vs H) : vs.length = tab.length := by
  induction h with
  | nil => rfl
  | cons _ _ ih => simp [ih]
theorem RowsAt.app {t : V} {tab tab2 : List (Str × Addr)} {vs vs2 : List V} {H : Hp} (h : RowsAt t tab vs H) (k : RowsAt t tab2 vs2 H) : RowsAt t (tab ++ tab2) (vs ++ vs2) H := by
  induction h with
  | nil => exact k
  | cons r _ ih => exact .cons r (ih k)
theorem RowsAt.at {t : V} : ∀ {tab : List (Str × Addr)} {vs : List V} {H : Hp} {i : Nat} {v : V}, RowsAt t tab vs H → vs[i]? = some v → ∃ w C, tab[i]? = some (w, C) ∧ RowAt t w C v H
  | _, _, _, _, _, .nil, e => by simp at e
  | _, _, _, 0, v, .cons r _, e => by
    simp at e
    subst e
    exact ⟨_, _, rfl, r⟩
  | _, _, _, i + 1, v, .cons _ k, e => by
    obtain ⟨w, C, h1, h2⟩ := RowsAt.at (i := i) (v := v) k (by simpa using e)
    exact ⟨w, C, by simpa using h1, h2⟩
section
variable {σ : L2.St} {H : Hp} {te t1 t2 : TE} {ta : TA} {t : V} {w : Str} {C : Addr} {tab : List (Str × Addr)}
theorem ga_rows0 : Ga tNil σ H (RowsAt t []) := fun H1 _ _ q => q [] H1 (Evl.Ex.refl H1) .nil
theorem ga_rows (h : Gv te σ H (RowAt t w C)) (hr : Ga ta σ H (RowsAt t tab)) : Ga (tCons te ta) σ H (RowsAt t ((w, C) :: tab)) := fun H1 e Q q =>
  h H1 e _ fun v H2 e2 pv => hr H2 (e.trans e2) _ fun r H3 e3 pr => q (v :: r) H3 (e2.trans e3) (.cons (rowAt_st _ _ _ e3 pv) pr)
/-- [w, e1, e2] -/
theorem gv_row (h1 : Gv t1 σ H (ErrAt t w C)) (h2 : Gv t2 σ H (ErrAt t w C)) : Gv (tLst (tCons (tC (.str w)) (tCons t1 (tCons t2 tNil)))) σ H (RowAt t w C) := by
  refine gv_imp (gv_lst (R := fun vs H => ∃ x y, vs = [.str w, x, y] ∧ ErrAt t w C x H ∧ ErrAt t w C y H) ?_ ?_ ?_) ?_
  · intro H1 e Q q
    refine gv_c (H := H) H1 e _ fun v H2 e2 pv => h1 H2 (e.trans e2) _ fun x H3 e3 px => h2 H3 ((e.trans e2).trans e3) _ fun y H4 e4 py => ga_nil (H := H) H4 (((e.trans e2).trans e3).trans e4) _ fun vs H5 e5 pz => ?_
    subst pv pz
    exact q _ H5 (((e2.trans e3).trans e4).trans e5) ⟨x, y, rfl, errAt_st _ _ _ (e4.trans e5) px, errAt_st _ _ _ e5 py⟩
  · rintro vs H H' e ⟨x, y, rfl, h1, h2⟩
    exact ⟨x, y, rfl, errAt_st _ _ _ e h1, errAt_st _ _ _ e h2⟩
  · rintro vs H ⟨x, y, rfl, _⟩
    show 3 ≤ 100000
    decide
  · rintro v H ⟨a, vs, rfl, h, x, y, rfl, h1, h2⟩
    exact ⟨a, x, y, rfl, h, h1, h2⟩
end
end Exv
end
section
/-! Defs called where no repr is under way (FnG); defs called in an except suite upon the very error (FnHp). -/
namespace Exv
open PySem PySem.Spec PyProof.Rows L2
/-! ### no repr under way -/
structure FnG (P : Program) (w : World) (K : PySem.W.Frag) (mg : Str → Option Value) (base : Heap) (k : Nat) (f : Addr) (fd : FuncData) (ps : List Str) (sp : Sp) : Prop where
  (len : ∀ us H Q E, sp us H Q E → us.length = ps.length)
  run : ∀ (A : Around) (outer : List Env) (s : Shared) (H : Hp) (args : Args) (us : List Value) (vs : List V) (Q : VK) (E : XK), A.guards = some [] → Room k A → Env0 P w K mg base A outer s H → BindsTo s fd args (ps.zip us) → Vals vs us → sp vs H Q E →
    codeAny (model P w) A (.call (.ref f) args) (CR CX0 outer P w H s Q E) s
section
variable {P : Program} {w : World} {K : PySem.W.Frag} {mg : Str → Option Value} {base : Heap}
theorem okG {x qual : Str} {st : Stmt} {f : Addr} {fd : FuncData} {N ps : List Str} {k : Nat} {sp : Sp} (F : Fun K x qual st f fd) (S : FnScope N ps (defScope st)) (len : ∀ vs H Q E, sp vs H Q E → vs.length = ps.length)
    (hbody : ∀ (cdv : Value) (A : Around) (outer : List Env) (s : Shared) (H : Hp) (vs : List V) (Q : VK) (E : XK), (A.deeper (envOfC qual (defScope st) s.heap.objs.size f cdv)).guards = some [] → Room k (A.deeper (envOfC qual (defScope st) s.heap.objs.size f cdv)) → sp vs H Q E →
      ∃ t, PSs (cxOf CX0 P w K mg base N qual (defScope st) f cdv A outer s H E).nox (defBody st) t ∧ t { nx := fun _ H' => Q .non H', rt := Q } (start N vs) H) : FnG P w K mg base (k + 1) f fd ps sp := by
  obtain ⟨_, _, _, doc, pm, an, cdv, ct, _, rfl, lk, hcd⟩ := F.ex
  refine ⟨len, fun A outer s H args us vs Q E hgd hr e0 hb r hsp => ?_⟩
  have inK : K.In s.heap := e0.mod.kin.keeps fun b o e => (e0.bs b o e).1
  have noL : s.heap.NoLimit := e0.mod.nolimit.keeps fun b o e => (e0.bs b o e).1
  refine codeAny_call_function hr.depth (inK _ _ lk) rfl S.co S.gen rfl (PySem.W.codeRec_of inK hcd) (hb _ _ _ _ (wpAny_newFunctionEnv_cells S.kind ?_ fun env he s1 x => ?_))
  · rintro ⟨n, v⟩ hy
    exact (S.par n (List.of_mem_zip hy).1).imp id fun q => ⟨q, PySem.W.cellsFrom_some _ _ _ (.inl q)⟩
  · subst he
    obtain ⟨t, ht, hq⟩ := hbody cdv A outer s H vs Q E hgd (hr.deeper _) hsp
    have I := inv_start (CX := CX0) (N := N) (E := E) S hr.hd e0 (len _ _ _ _ hsp) r x
    refine ⟨noL.keeps x.toInCall.keep, codeAny_func (wpAny_mono (ht.nox.run [] s1 (start N vs) H _ I hq) (fun fl s' hs => ?_) fun e s' hs => hs)⟩
    have fin : ∀ {σ' : L2.St} {H' : Hp} {v : V} {u : Value}, Inv (cxOf CX0 P w K mg base N qual (defScope st) f cdv A outer s H E) [] σ' H' s' → RelV v u → Q v H' → CE outer P w H s Q u s' := fun {σ' H' v u} J rv q => ⟨v, H', J.os, J.bare, J.base, J.hok, rv, q⟩
    cases fl with
    | ret u =>
      obtain ⟨_, _, _, J, rv, q⟩ := hs
      exact fin J rv q
    | next =>
      obtain ⟨σ', H', J, q⟩ := hs
      exact fin (u := Value.none) (v := V.non) J rfl q
    | brk => obtain ⟨_, _, _, q⟩ := hs; exact q.elim
    | cont => obtain ⟨_, _, _, q⟩ := hs; exact q.elim
end
section
variable {X : Cx} {k : Nat} {f : Addr} {fd : FuncData} {ps : List Str} {sp : Sp} {E : XK} {x : Str} {p pos : Pos} {e : Expr} {es : List Expr} {t : TA}
theorem pe_callG (F : FnG X.prog X.w X.K X.mg X.base k f fd ps sp) (hgd : X.A.guards = some []) (hr : Room k X.A) (hg : Gl X x) (hm : X.mg x = some (.ref f)) (hk : PySem.W.keepIn X.K (.ref f) = true) (hb : Binds X.K fd ps []) (ha : PA X (e :: es) t)
    (hdg : (x == ("__debug__" : Str)) = false := by decide) (he : starEach (e :: es) X.env = (false, eval e X.env) :: starEach es X.env := by rfl) (hnos : (backTo pos (starEach es X.env)).any (·.1) = false := by rfl) :
    PE X (.Call (.Name x p) (e :: es) [] pos) (tCall sp [] E t) := by
  refine ⟨fun pins s σ H Q I h => wpAny_Call_Name_kw (ld_glob I hg hm ?_ hdg)⟩
  refine PySem.W.callWith_K (h₀ := X.base) I.ok.mod.kin hk (thn (ha.run pos pins s σ H _ I h) fun us s1 ⟨vs, H1, I1, r, q⟩ => ⟨I1.kIn, ?_⟩) he hnos
  have q : sp (vs ++ []) H1 Q E := q
  rw [List.append_nil] at q
  have bd := hb s1 us I1.kIn (by rw [List.append_nil, ← r.length]; exact F.len _ _ _ _ q)
  rw [List.append_nil] at bd
  refine wpAny_call (codeAny_mono (F.run X.A X.stack s1 H1 ⟨us, []⟩ us vs Q E hgd hr I1.env0 bd r q) fun r' s' hq => ?_)
  cases r' with
  | error _ => exact hq.elim
  | ok fl =>
    cases fl with
    | ret u => exact I1.after hq
    | _ => exact False.elim hq
end
/-! ### upon the error that is handled -/
structure FnHp (P : Program) (w : World) (K : PySem.W.Frag) (mg : Str → Option Value) (base : Heap) (k : Nat) (f : Addr) (fd : FuncData) (ps : List Str) (Pc : Addr × Obj → Prop) (sp : Sp) : Prop where
  (len : ∀ us H Q E, sp us H Q E → us.length = ps.length)
  run : ∀ (A : Around) (outer : List Env) (s : Shared) (H : Hp) (args : Args) (us : List Value) (vs : List V) (Q : VK) (E : XK) (p : Addr × Obj), L2H.RoomH k A → L2H.PinOk outer H s p → Pc p → Env0 P w K mg base A outer s H → BindsTo s fd args (ps.zip us) → Vals vs us → sp vs H Q E →
    codeAny (model P w) A (.call (.ref f) args) (CR CX0 outer P w H s Q E) s
section
variable {P : Program} {w : World} {K : PySem.W.Frag} {mg : Str → Option Value} {base : Heap}
theorem okHp {x qual : Str} {st : Stmt} {f : Addr} {fd : FuncData} {N ps : List Str} {k : Nat} {Pc : Addr × Obj → Prop} {sp : Sp} (F : Fun K x qual st f fd) (S : FnScope N ps (defScope st)) (len : ∀ vs H Q E, sp vs H Q E → vs.length = ps.length)
    (hbody : ∀ (cdv : Value) (A : Around) (outer : List Env) (s : Shared) (H : Hp) (vs : List V) (Q : VK) (E : XK) (p : Addr × Obj), Pc p → L2H.RoomH k (A.deeper (envOfC qual (defScope st) s.heap.objs.size f cdv)) → sp vs H Q E →
      ∃ t, PSs (L2H.cxH CX0 P w K mg base N qual (defScope st) f cdv A outer s H E p) (defBody st) t ∧ t { nx := fun _ H' => Q .non H', rt := Q } (start N vs) H) : FnHp P w K mg base (k + 1) f fd ps Pc sp := by
  obtain ⟨_, _, _, doc, pm, an, cdv, ct, _, rfl, lk, hcd⟩ := F.ex
  refine ⟨len, fun A outer s H args us vs Q E p hr hpin pc e0 hb r hsp => ?_⟩
  have inK : K.In s.heap := e0.mod.kin.keeps fun b o e => (e0.bs b o e).1
  have noL : s.heap.NoLimit := e0.mod.nolimit.keeps fun b o e => (e0.bs b o e).1
  refine codeAny_call_function hr.depth (inK _ _ lk) rfl S.co S.gen rfl (PySem.W.codeRec_of inK hcd) (hb _ _ _ _ (wpAny_newFunctionEnv_cells S.kind ?_ fun env he s1 x => ?_))
  · rintro ⟨n, v⟩ hy
    exact (S.par n (List.of_mem_zip hy).1).imp id fun q => ⟨q, PySem.W.cellsFrom_some _ _ _ (.inl q)⟩
  · subst he
    obtain ⟨t, ht, hq⟩ := hbody cdv A outer s H vs Q E p pc (hr.deeper _) hsp
    have I := L2H.inv_startH (CX := CX0) (N := N) (E := E) S hpin e0 (len _ _ _ _ hsp) r x
    refine ⟨noL.keeps x.toInCall.keep, codeAny_func (wpAny_mono (ht.run [] s1 (start N vs) H _ I hq) (fun fl s' hs => ?_) fun e s' hs => hs)⟩
    have fin : ∀ {σ' : L2.St} {H' : Hp} {v : V} {u : Value}, Inv (L2H.cxH CX0 P w K mg base N qual (defScope st) f cdv A outer s H E p) [] σ' H' s' → RelV v u → Q v H' → CE outer P w H s Q u s' := fun {σ' H' v u} J rv q => ⟨v, H', J.os, J.bare, J.base, J.hok, rv, q⟩
    cases fl with
    | ret u =>
      obtain ⟨_, _, _, J, rv, q⟩ := hs
      exact fin J rv q
    | next =>
      obtain ⟨σ', H', J, q⟩ := hs
      exact fin (u := Value.none) (v := V.non) J rfl q
    | brk => obtain ⟨_, _, _, q⟩ := hs; exact q.elim
    | cont => obtain ⟨_, _, _, q⟩ := hs; exact q.elim
end
section
variable {X : Cx} {k : Nat} {f : Addr} {fd : FuncData} {ps : List Str} {sp : Sp} {E : XK} {x : Str} {p pos : Pos} {e : Expr} {es : List Expr} {t : TA} {a : Addr × Obj} {Pc : Addr × Obj → Prop}
theorem pe_callHp (F : FnHp X.prog X.w X.K X.mg X.base k f fd ps Pc sp) (hp : a ∈ X.pn) (pc : Pc a) (hr : L2H.RoomH k X.A) (hg : Gl X x) (hm : X.mg x = some (.ref f)) (hk : PySem.W.keepIn X.K (.ref f) = true) (hb : Binds X.K fd ps []) (ha : PA X (e :: es) t)
    (hdg : (x == ("__debug__" : Str)) = false := by decide) (he : starEach (e :: es) X.env = (false, eval e X.env) :: starEach es X.env := by rfl) (hnos : (backTo pos (starEach es X.env)).any (·.1) = false := by rfl) :
    PE X (.Call (.Name x p) (e :: es) [] pos) (tCall sp [] E t) := by
  refine ⟨fun pins s σ H Q I h => wpAny_Call_Name_kw (ld_glob I hg hm ?_ hdg)⟩
  refine PySem.W.callWith_K (h₀ := X.base) I.ok.mod.kin hk (thn (ha.run pos pins s σ H _ I h) fun us s1 ⟨vs, H1, I1, r, q⟩ => ⟨I1.kIn, ?_⟩) he hnos
  have q : sp (vs ++ []) H1 Q E := q
  rw [List.append_nil] at q
  have bd := hb s1 us I1.kIn (by rw [List.append_nil, ← r.length]; exact F.len _ _ _ _ q)
  rw [List.append_nil] at bd
  have P1 := I1.pin a (List.mem_append_left _ hp)
  have hpin : L2H.PinOk X.stack H1 s1 a := ⟨P1.1, P1.2.1, fun hm => (List.mem_cons.mp (I1.stkSub a.1 hm)).elim P1.2.2.1 P1.2.2.2.1, P1.2.2.2.2⟩
  refine wpAny_call (codeAny_mono (F.run X.A X.stack s1 H1 ⟨us, []⟩ us vs Q E a hr hpin pc I1.env0 bd r q) fun r' s' hq => ?_)
  cases r' with
  | error _ => exact hq.elim
  | ok fl =>
    cases fl with
    | ret u => exact I1.after hq
    | _ => exact False.elim hq
end
/-- the pinned error (a, oe): class C, own dict d (tracked as a dict of fields, or none) -/
def PinX (C : Addr) (d : Option Addr) (a : Addr) (p : Addr × Obj) : Prop := p.1 = a ∧ p.2.cls = .ref C ∧ p.2.dict = d ∧ ∃ vs, p.2.data = .fields vs
def DictX (d : Option Addr) (H : Hp) : Prop := match d with
  | none => True
  | some dd => ∃ fs, H dd = some (.xd fs)
/-- isinstance(e, c) | isinstance(e, (c1, ..)), e the pinned error -/
def rIsP (K : PySem.W.Frag) (a C : Addr) (d : Option Addr) : List V → Hp → VK → Prop := fun xs H Q => ∃ (c : V) (cv : Value) (b : Bool), xs = [.ref a, c] ∧ DictX d H ∧ ExK K C ∧ ClsV c cv ∧ PySem.W.kitOne K (.ref C) cv = some b ∧ Q (.bl b) H
def rIsPT (K : PySem.W.Frag) (a C : Addr) (d : Option Addr) : List V → Hp → VK → Prop := fun xs H Q => ∃ (tp : Addr) (cs : List V) (us : List Value) (b : Bool), xs = [.ref a, .ref tp] ∧ H tp = some (.tup cs) ∧ Paired ClsV cs us ∧ DictX d H ∧ ExK K C ∧ PySem.W.kitAny K (.ref C) us = some b ∧ Q (.bl b) H
section
variable {X : Cx} {C a : Addr} {d : Option Addr} {p : Addr × Obj}
theorem pin_inst {pins : List (Addr × Obj)} {σ : L2.St} {H : Hp} {s : Shared} (I : Inv X pins σ H s) (hp : p ∈ X.pn) (px : PinX C d a p) (hd : DictX d H) : ∃ od, PySem.W.InstAt s.heap a p.2 C od := by
  obtain ⟨e, _⟩ := I.pin p (List.mem_append_left _ hp)
  obtain ⟨rfl, h1, h2, vs, h3⟩ := px
  cases d with
  | none => exact ⟨none, e, h1, by unfold PySem.W.notCls; rw [h3], by rw [h2]; trivial⟩
  | some dd =>
    obtain ⟨fs, y⟩ := hd
    obtain ⟨mA, hns, hr⟩ := (show ObjOk X.prog X.w H s.heap dd (.xd fs) from I.hok dd _ y)
    obtain ⟨od, ho, hl⟩ := lookIn_ns hns
    exact ⟨some od, e, h1, by unfold PySem.W.notCls; rw [h3], by rw [h2]; exact ho⟩
theorem call_isP (hp : p ∈ X.pn) (px : PinX C d a p) : CallR X (.builtin "isinstance") (rIsP X.K a C d) := by
  rintro pins s σ H xs us Q I r ⟨c, cv, b, rfl, x, T, k, e, q⟩
  obtain ⟨u1, u2, rfl, r1, r2⟩ := vals2 r; cases (show u1 = Value.ref a from r1)
  have e2 := k.eq r2
  subst e2
  obtain ⟨od, J⟩ := pin_inst I hp px x
  exact PySem.W.kia_one (PySem.W.kitx_exc T.hc T.hg T.hk T.hs T.ha T.hn T.ht T.hm) I.kIn J e (fun z => nomatch z) fun tk => ⟨.bl b, H, I.tok tk, rfl, q⟩
theorem call_isPT (hp : p ∈ X.pn) (px : PinX C d a p) : CallR X (.builtin "isinstance") (rIsPT X.K a C d) := by
  rintro pins s σ H xs us Q I r ⟨tp, cs, ws, b, rfl, hT, k, x, T, e, q⟩
  obtain ⟨u1, u2, rfl, r1, r2⟩ := vals2 r; cases (show u1 = Value.ref a from r1); cases (show u2 = Value.ref tp from r2)
  obtain ⟨od, J⟩ := pin_inst I hp px x
  obtain ⟨_, its, rv, ⟨oc, odd, dt, sl⟩, h1, h2, n, h3⟩ := (show ObjOk X.prog X.w H s.heap tp (.tup cs) from I.hok tp _ hT)
  have e3 := ClsV.all k rv
  subst e3
  simp only at h2 h3
  subst h2 h3
  exact PySem.W.kia_tup (PySem.W.kitx_exc T.hc T.hg T.hk T.hs T.ha T.hn T.ht T.hm) I.kIn J h1 e (fun z => nomatch z) fun tk => ⟨.bl b, H, I.tok tk, rfl, q⟩
end
end Exv
end
section
/-! Readings of statements by Gv. -/
namespace Exv
open PySem PySem.Spec PyProof.Rows L2
section
variable {te tb : TE} {ta : TA} {σ : L2.St} {H : Hp} {P : V → Hp → Prop} {D : Ends} {u t : TS} {i : Nat}
theorem set_gv (g : Gv te σ H P) (k : ∀ v H2, Ex H H2 → P v H2 → u D (σ.set i (some v)) H2) : tSeq (tAsg te (gName i)) u D σ H := g H (Evl.Ex.refl H) _ k
theorem ret_gv (g : Gv te σ H P) (k : ∀ v H2, Ex H H2 → P v H2 → D.rt v H2) : tRet te D σ H := g H (Evl.Ex.refl H) _ k
/-- return x + e, x a list at slot i -/
theorem ret_cat {l : Addr} {xs ys : List V} (hi : σ[i]? = some (some (.ref l))) (hl : H l = some (.lst xs)) (hz : xs.length + ys.length ≤ 100000)
    (g : Gv tb σ H (fun v H => ∃ m vs, v = .ref m ∧ H m = some (.lst vs) ∧ vs = ys)) (k : ∀ q H2, Ex H H2 → H2 q = some (.lst (xs ++ ys)) → D.rt (.ref q) H2) : tRet (tOp rCat (tVar i) tb) D σ H :=
  ⟨_, hi, g H (Evl.Ex.refl H) _ fun v H2 e2 ⟨m, vs, ev, hm, evs⟩ => by
    subst ev evs
    exact ⟨l, m, _, _, rfl, rfl, e2 _ _ hl, hm, Evl.sz_of hz, fun q hq => k q _ (e2.trans (Evl.Ex.new hq)) upd_same⟩⟩
end
end Exv
end
section
namespace K01
open PySem PySem.Spec PyProof.Rows L2 Exv
def top (i : Nat) : Stmt := PySem.Challenge.pw_motiontongue_k01_errors_each_of_its_own.main.body.getD i (.Pass ⟨0, 0, 0, 0⟩)
abbrev sPurse : Stmt := top 27
abbrev sTake : Stmt := top 28
abbrev sPick : Stmt := top 29
abbrev sGiven : Stmt := top 30
abbrev sIndex : Stmt := top 31
abbrev sKinds : Stmt := top 32
abbrev sKept : Stmt := top 33
abbrev sPlain : Stmt := top 34
abbrev sCaught : Stmt := top 35
abbrev sRight : Stmt := top 36
abbrev sLaw : Stmt := top 37
/-- the five built-in classes that none of the errors stands under -/
def five : List Value := [.type "LookupError", .type "ArithmeticError", .type "TypeError", .type "AttributeError", .type "RuntimeError"]
/-- what the top has written: the classes at C 0 .. C 23, the base at C 24 -/
structure Txt (P : Program) (K : PySem.W.Frag) (mg : Str → Option Value) (C : Nat → Addr) : Prop where
  sg : SupG P mg
  s0 : Sup1 P K mg "InvalidText" "given" (C 0)
  s1 : Sup1 P K mg "InvalidProgram" "given" (C 1)
  s2 : Sup1 P K mg "InvalidTree" "given" (C 2)
  s3 : Sup1 P K mg "InvalidUnits" "given" (C 3)
  s4 : Sup1 P K mg "InvalidNumber" "given" (C 4)
  s5 : Sup1 P K mg "InvalidName" "given" (C 5)
  s6 : Sup1 P K mg "InvalidSetting" "given" (C 6)
  s7 : Sup1 P K mg "InvalidGivens" "given" (C 7)
  s8 : Sup1 P K mg "InvalidStep" "given" (C 8)
  s9 : Sup1 P K mg "InvalidSum" "given" (C 9)
  s10 : Sup1 P K mg "InvalidCode" "given" (C 10)
  s11 : Sup1 P K mg "InvalidTable" "given" (C 11)
  s12 : Sup1 P K mg "InvalidLot" "given" (C 12)
  s13 : Sup1 P K mg "InvalidWord" "given" (C 13)
  s14 : Sup1 P K mg "InvalidLine" "given" (C 14)
  s15 : Sup1 P K mg "NotADesk" "given" (C 15)
  s16 : Sup2 P K mg "NotWellRead" (C 16)
  s17 : Sup1 P K mg "InvalidRows" "index" (C 17)
  s18 : Sup1 P K mg "InvalidDeed" "index" (C 18)
  s19 : Sup1 P K mg "Barred" "reason" (C 19)
  s20 : Sup0 K mg "NothingToUndo" (C 20)
  s21 : Sup0 K mg "NotFree" (C 21)
  s22 : Sup0 K mg "NoForm" (C 22)
  s23 : Sup0 K mg "TooGreat" (C 23)
  s24 : Sup0 K mg "MotionError" (C 24)
  ek : ∀ i, i ≤ 24 → ExK K (C i)
  kk : ∀ i j, i ≤ 24 → j < 24 → PySem.W.kitOne K (.ref (C i)) (.ref (C j)) = some (decide (i = j))
  kM : ∀ i, i ≤ 24 → PySem.W.kitOne K (.ref (C i)) (.ref (C 24)) = some true
  kV : ∀ i, i ≤ 24 → PySem.W.kitOne K (.ref (C i)) (.type "ValueError") = some true
  k5 : ∀ i, i ≤ 24 → PySem.W.kitAny K (.ref (C i)) five = some false
  kx : ∀ i, i ≤ 24 → PySem.W.exmOne K (.ref (C i)) (.ref (C 24)) = some true
  ty : ∀ i, i ≤ 24 → PySem.W.typeIn K (.ref (C i)) = some (.type "type")
  isi : mg "isinstance" = none
  rep : mg "repr" = none
  int : mg "int" = none
  abs : mg "abs" = none
  len : mg "len" = none
  rng : mg "range" = none
  max : mg "max" = none
  min : mg "min" = none
  all : mg "all" = none
  bV : mg "ValueError" = none
  b1 : mg "LookupError" = none
  b2 : mg "ArithmeticError" = none
  b3 : mg "TypeError" = none
  b4 : mg "AttributeError" = none
  b5 : mg "RuntimeError" = none

def tab1 (C : Nat → Addr) : List (Str × Addr) := [("given", C 0), ("given", C 1), ("given", C 2), ("given", C 3), ("given", C 4), ("given", C 5), ("given", C 6), ("given", C 7), ("given", C 8), ("given", C 9), ("given", C 10), ("given", C 11), ("given", C 12), ("given", C 13), ("given", C 14), ("given", C 15)]
def tab2 (C : Nat → Addr) : List (Str × Addr) := [("row", C 16), ("index", C 17), ("index", C 18), ("reason", C 19), ("", C 20), ("", C 21), ("", C 22), ("", C 23)]
/-- _law_given_ones(thing), _law_index_ones(thing): a new list of the rows -/
def spRows (tab : List (Str × Addr)) : Sp := fun vs H Q _ => ∃ t, vs = [t] ∧ ∀ H' p rows, Ex H H' → H' p = some (.lst rows) → RowsAt t tab rows H' → Q (.ref p) H'
section
variable {P : Program} {w : World} {K : PySem.W.Frag} {mg : Str → Option Value} {base : Heap} {C : Nat → Addr}
theorem err1 {t : V} {n : Str} {c : Addr} {σ : L2.St} {H : Hp} {ta : TA} (hn : n = "given" ∨ n = "index" ∨ n = "reason") (h : Ga ta σ H (fun vs _ => vs = [t])) : Gv (tMk1 c n ta) σ H (ErrAt t n c) :=
  gv_imp (gv_mk1 h) fun v H ⟨e, h1, h2⟩ => ⟨e, _, h1, h2, by
    rcases hn with rfl | rfl | rfl
    · exact .inl ⟨rfl, rfl⟩
    · exact .inr (.inl ⟨rfl, rfl⟩)
    · exact .inr (.inr (.inl ⟨rfl, rfl⟩))⟩
theorem err0 {t : V} {c : Addr} {σ : L2.St} {H : Hp} : Gv (tMk0 c) σ H (ErrAt t "" c) :=
  gv_imp gv_mk0 fun v H ⟨e, h1, h2⟩ => ⟨e, _, h1, h2, .inr (.inr (.inr (.inr ⟨rfl, rfl⟩)))⟩
theorem err2 {t : V} {c : Addr} {σ : L2.St} {H : Hp} {te : TE} {t2 : TA} (h : Gv te σ H (fun x _ => x = t)) (h2 : Ga t2 σ H (fun vs _ => vs = [t])) : Gv (tMk2 c (tCons te (tCons (tLstB t2) tNil))) σ H (ErrAt t "row" c) := by
  refine gv_imp (gv_mk2 (R := fun vs H => ∃ l, vs = [t, .ref l] ∧ l ≠ sysModules ∧ H l = some (.lst [t])) ?_ ?_ ?_) ?_
  · intro H1 e Q q
    refine h H1 e _ fun x H2 e2 px => gv_lstB h2 (fun _ _ _ _ z => z) (fun vs H z => by rw [z]; show 1 ≤ 100000; decide) H2 (e.trans e2) _ fun v H3 e3 pv => ga_nil (H := H) H3 ((e.trans e2).trans e3) _ fun vs H4 e4 pz => ?_
    obtain ⟨l, ws, rfl, hb, hl, rfl⟩ := pv
    subst px pz
    exact q _ H4 ((e2.trans e3).trans e4) ⟨l, rfl, hb, e4 _ _ hl⟩
  · rintro vs H H' e ⟨l, h1, hb, h2⟩
    exact ⟨l, h1, hb, e _ _ h2⟩
  · rintro vs H ⟨l, h1, _⟩
    exact ⟨t, .ref l, h1⟩
  · rintro v H ⟨a, x, y, rfl, ⟨l, h1, hb, h2⟩, h3⟩
    cases h1
    exact ⟨a, _, rfl, h3, .inr (.inr (.inr (.inl ⟨rfl, l, rfl, hb, h2⟩)))⟩
theorem one_t {t : V} {σ : L2.St} {H : Hp} {i : Nat} (h : σ[i]? = some (some t)) : Ga (tCons (tVar i) tNil) σ H (fun vs _ => vs = [t]) := ga_eq (gv_var h) ga_nil
theorem scG : FnScope ["thing"] ["thing"] (defScope sGiven) := ⟨rfl, rfl, rfl, by decide +kernel, rfl, by decide +kernel, by decide +kernel⟩
theorem scI : FnScope ["thing"] ["thing"] (defScope sIndex) := ⟨rfl, rfl, rfl, by decide +kernel, rfl, by decide +kernel, by decide +kernel⟩
theorem ok_given {f : Addr} {fd : FuncData} (F : Fun K "_law_given_ones" "_law_given_ones" sGiven f fd) (T : Txt P K mg C) : FnOk P w K mg base CX0 1 f fd ["thing"] (spRows (tab1 C)) := by
  refine F.ok scG (fun vs H Q E h => ?_) (fun cdv A outer s H vs Q E hr h => ?_)
  · obtain ⟨t, rfl, _⟩ := h
    rfl
  · obtain ⟨t, rfl, k⟩ := h
    have hd : (A.deeper (envOfC "_law_given_ones" (defScope sGiven) s.heap.objs.size f cdv)).depth + 1 < recursionLimit := by have := hr.dp; omega
    refine ⟨_, pss_one (ps_ret (pe_lst (pa_cons (pe_lst (pa_cons pe_str (pa_cons (pe_mk1 T.s0 T.sg hd (pa_cons (pv 0) pa_nil)) (pa_cons (pe_mk1k T.s0 T.sg hd (pk_cons (pv 0) pk_nil)) pa_nil))))
      (pa_cons (pe_lst (pa_cons pe_str (pa_cons (pe_mk1 T.s1 T.sg hd (pa_cons (pv 0) pa_nil)) (pa_cons (pe_mk1k T.s1 T.sg hd (pk_cons (pv 0) pk_nil)) pa_nil))))
      (pa_cons (pe_lst (pa_cons pe_str (pa_cons (pe_mk1 T.s2 T.sg hd (pa_cons (pv 0) pa_nil)) (pa_cons (pe_mk1k T.s2 T.sg hd (pk_cons (pv 0) pk_nil)) pa_nil))))
      (pa_cons (pe_lst (pa_cons pe_str (pa_cons (pe_mk1 T.s3 T.sg hd (pa_cons (pv 0) pa_nil)) (pa_cons (pe_mk1k T.s3 T.sg hd (pk_cons (pv 0) pk_nil)) pa_nil))))
      (pa_cons (pe_lst (pa_cons pe_str (pa_cons (pe_mk1 T.s4 T.sg hd (pa_cons (pv 0) pa_nil)) (pa_cons (pe_mk1k T.s4 T.sg hd (pk_cons (pv 0) pk_nil)) pa_nil))))
      (pa_cons (pe_lst (pa_cons pe_str (pa_cons (pe_mk1 T.s5 T.sg hd (pa_cons (pv 0) pa_nil)) (pa_cons (pe_mk1k T.s5 T.sg hd (pk_cons (pv 0) pk_nil)) pa_nil))))
      (pa_cons (pe_lst (pa_cons pe_str (pa_cons (pe_mk1 T.s6 T.sg hd (pa_cons (pv 0) pa_nil)) (pa_cons (pe_mk1k T.s6 T.sg hd (pk_cons (pv 0) pk_nil)) pa_nil))))
      (pa_cons (pe_lst (pa_cons pe_str (pa_cons (pe_mk1 T.s7 T.sg hd (pa_cons (pv 0) pa_nil)) (pa_cons (pe_mk1k T.s7 T.sg hd (pk_cons (pv 0) pk_nil)) pa_nil))))
      (pa_cons (pe_lst (pa_cons pe_str (pa_cons (pe_mk1 T.s8 T.sg hd (pa_cons (pv 0) pa_nil)) (pa_cons (pe_mk1k T.s8 T.sg hd (pk_cons (pv 0) pk_nil)) pa_nil))))
      (pa_cons (pe_lst (pa_cons pe_str (pa_cons (pe_mk1 T.s9 T.sg hd (pa_cons (pv 0) pa_nil)) (pa_cons (pe_mk1k T.s9 T.sg hd (pk_cons (pv 0) pk_nil)) pa_nil))))
      (pa_cons (pe_lst (pa_cons pe_str (pa_cons (pe_mk1 T.s10 T.sg hd (pa_cons (pv 0) pa_nil)) (pa_cons (pe_mk1k T.s10 T.sg hd (pk_cons (pv 0) pk_nil)) pa_nil))))
      (pa_cons (pe_lst (pa_cons pe_str (pa_cons (pe_mk1 T.s11 T.sg hd (pa_cons (pv 0) pa_nil)) (pa_cons (pe_mk1k T.s11 T.sg hd (pk_cons (pv 0) pk_nil)) pa_nil))))
      (pa_cons (pe_lst (pa_cons pe_str (pa_cons (pe_mk1 T.s12 T.sg hd (pa_cons (pv 0) pa_nil)) (pa_cons (pe_mk1k T.s12 T.sg hd (pk_cons (pv 0) pk_nil)) pa_nil))))
      (pa_cons (pe_lst (pa_cons pe_str (pa_cons (pe_mk1 T.s13 T.sg hd (pa_cons (pv 0) pa_nil)) (pa_cons (pe_mk1k T.s13 T.sg hd (pk_cons (pv 0) pk_nil)) pa_nil))))
      (pa_cons (pe_lst (pa_cons pe_str (pa_cons (pe_mk1 T.s14 T.sg hd (pa_cons (pv 0) pa_nil)) (pa_cons (pe_mk1k T.s14 T.sg hd (pk_cons (pv 0) pk_nil)) pa_nil))))
      (pa_cons (pe_lst (pa_cons pe_str (pa_cons (pe_mk1 T.s15 T.sg hd (pa_cons (pv 0) pa_nil)) (pa_cons (pe_mk1k T.s15 T.sg hd (pk_cons (pv 0) pk_nil)) pa_nil))))
      pa_nil)))))))))))))))))), ?_⟩
    have g : Gv _ (start ["thing"] [t]) H (fun v H => ∃ a vs, v = .ref a ∧ H a = some (.lst vs) ∧ RowsAt t (tab1 C) vs H) := gv_lst (σ := start ["thing"] [t]) (ga_rows (gv_row (err1 (.inl rfl) (one_t (i := 0) rfl)) (err1 (.inl rfl) (one_t (i := 0) rfl)))
      (ga_rows (gv_row (err1 (.inl rfl) (one_t (i := 0) rfl)) (err1 (.inl rfl) (one_t (i := 0) rfl)))
      (ga_rows (gv_row (err1 (.inl rfl) (one_t (i := 0) rfl)) (err1 (.inl rfl) (one_t (i := 0) rfl)))
      (ga_rows (gv_row (err1 (.inl rfl) (one_t (i := 0) rfl)) (err1 (.inl rfl) (one_t (i := 0) rfl)))
      (ga_rows (gv_row (err1 (.inl rfl) (one_t (i := 0) rfl)) (err1 (.inl rfl) (one_t (i := 0) rfl)))
      (ga_rows (gv_row (err1 (.inl rfl) (one_t (i := 0) rfl)) (err1 (.inl rfl) (one_t (i := 0) rfl)))
      (ga_rows (gv_row (err1 (.inl rfl) (one_t (i := 0) rfl)) (err1 (.inl rfl) (one_t (i := 0) rfl)))
      (ga_rows (gv_row (err1 (.inl rfl) (one_t (i := 0) rfl)) (err1 (.inl rfl) (one_t (i := 0) rfl)))
      (ga_rows (gv_row (err1 (.inl rfl) (one_t (i := 0) rfl)) (err1 (.inl rfl) (one_t (i := 0) rfl)))
      (ga_rows (gv_row (err1 (.inl rfl) (one_t (i := 0) rfl)) (err1 (.inl rfl) (one_t (i := 0) rfl)))
      (ga_rows (gv_row (err1 (.inl rfl) (one_t (i := 0) rfl)) (err1 (.inl rfl) (one_t (i := 0) rfl)))
      (ga_rows (gv_row (err1 (.inl rfl) (one_t (i := 0) rfl)) (err1 (.inl rfl) (one_t (i := 0) rfl)))
      (ga_rows (gv_row (err1 (.inl rfl) (one_t (i := 0) rfl)) (err1 (.inl rfl) (one_t (i := 0) rfl)))
      (ga_rows (gv_row (err1 (.inl rfl) (one_t (i := 0) rfl)) (err1 (.inl rfl) (one_t (i := 0) rfl)))
      (ga_rows (gv_row (err1 (.inl rfl) (one_t (i := 0) rfl)) (err1 (.inl rfl) (one_t (i := 0) rfl)))
      (ga_rows (gv_row (err1 (.inl rfl) (one_t (i := 0) rfl)) (err1 (.inl rfl) (one_t (i := 0) rfl)))
      ga_rows0)))))))))))))))) rowsAt_st (fun vs H z => by rw [z.len]; show 16 ≤ 100000; decide)
    refine g H (Evl.Ex.refl H) _ fun v H2 e2 ⟨p, rows, e, h1, h2⟩ => ?_
    subst e
    exact k H2 p rows e2 h1 h2
theorem ok_index {f : Addr} {fd : FuncData} (F : Fun K "_law_index_ones" "_law_index_ones" sIndex f fd) (T : Txt P K mg C) : FnOk P w K mg base CX0 1 f fd ["thing"] (spRows (tab2 C)) := by
  refine F.ok scI (fun vs H Q E h => ?_) (fun cdv A outer s H vs Q E hr h => ?_)
  · obtain ⟨t, rfl, _⟩ := h
    rfl
  · obtain ⟨t, rfl, k⟩ := h
    have hd : (A.deeper (envOfC "_law_index_ones" (defScope sIndex) s.heap.objs.size f cdv)).depth + 1 < recursionLimit := by have := hr.dp; omega
    refine ⟨_, pss_one (ps_ret (pe_lst (pa_cons (pe_lst (pa_cons pe_str (pa_cons (pe_mk2 T.s16 T.sg hd (pa_cons (pv 0) (pa_cons (pe_lstB (pa_cons (pv 0) pa_nil)) pa_nil))) (pa_cons (pe_mk2k T.s16 T.sg hd (pk_cons (pv 0) (pk_cons (pe_lstB (pa_cons (pv 0) pa_nil)) pk_nil))) pa_nil))))
      (pa_cons (pe_lst (pa_cons pe_str (pa_cons (pe_mk1 T.s17 T.sg hd (pa_cons (pv 0) pa_nil)) (pa_cons (pe_mk1k T.s17 T.sg hd (pk_cons (pv 0) pk_nil)) pa_nil))))
      (pa_cons (pe_lst (pa_cons pe_str (pa_cons (pe_mk1 T.s18 T.sg hd (pa_cons (pv 0) pa_nil)) (pa_cons (pe_mk1k T.s18 T.sg hd (pk_cons (pv 0) pk_nil)) pa_nil))))
      (pa_cons (pe_lst (pa_cons pe_str (pa_cons (pe_mk1 T.s19 T.sg hd (pa_cons (pv 0) pa_nil)) (pa_cons (pe_mk1k T.s19 T.sg hd (pk_cons (pv 0) pk_nil)) pa_nil))))
      (pa_cons (pe_lst (pa_cons pe_str (pa_cons (pe_mk0 T.s20) (pa_cons (pe_mk0 T.s20) pa_nil))))
      (pa_cons (pe_lst (pa_cons pe_str (pa_cons (pe_mk0 T.s21) (pa_cons (pe_mk0 T.s21) pa_nil))))
      (pa_cons (pe_lst (pa_cons pe_str (pa_cons (pe_mk0 T.s22) (pa_cons (pe_mk0 T.s22) pa_nil))))
      (pa_cons (pe_lst (pa_cons pe_str (pa_cons (pe_mk0 T.s23) (pa_cons (pe_mk0 T.s23) pa_nil))))
      pa_nil)))))))))), ?_⟩
    have g : Gv _ (start ["thing"] [t]) H (fun v H => ∃ a vs, v = .ref a ∧ H a = some (.lst vs) ∧ RowsAt t (tab2 C) vs H) := gv_lst (σ := start ["thing"] [t]) (ga_rows (gv_row (err2 (gv_var (i := 0) rfl) (one_t (i := 0) rfl)) (err2 (gv_var (i := 0) rfl) (one_t (i := 0) rfl)))
      (ga_rows (gv_row (err1 (.inr (.inl rfl)) (one_t (i := 0) rfl)) (err1 (.inr (.inl rfl)) (one_t (i := 0) rfl)))
      (ga_rows (gv_row (err1 (.inr (.inl rfl)) (one_t (i := 0) rfl)) (err1 (.inr (.inl rfl)) (one_t (i := 0) rfl)))
      (ga_rows (gv_row (err1 (.inr (.inr rfl)) (one_t (i := 0) rfl)) (err1 (.inr (.inr rfl)) (one_t (i := 0) rfl)))
      (ga_rows (gv_row (err0) (err0))
      (ga_rows (gv_row (err0) (err0))
      (ga_rows (gv_row (err0) (err0))
      (ga_rows (gv_row (err0) (err0))
      ga_rows0)))))))) rowsAt_st (fun vs H z => by rw [z.len]; show 8 ≤ 100000; decide)
    refine g H (Evl.Ex.refl H) _ fun v H2 e2 ⟨p, rows, e, h1, h2⟩ => ?_
    subst e
    exact k H2 p rows e2 h1 h2
end
end K01
end
section
namespace K01
open PySem PySem.Spec PyProof.Rows L2 Exv
theorem bt_VE : bootBuiltins "ValueError" = some (.type "ValueError") := by kernel_rfl
theorem bt_LE : bootBuiltins "LookupError" = some (.type "LookupError") := by kernel_rfl
theorem bt_AE : bootBuiltins "ArithmeticError" = some (.type "ArithmeticError") := by kernel_rfl
theorem bt_TE : bootBuiltins "TypeError" = some (.type "TypeError") := by kernel_rfl
theorem bt_AT : bootBuiltins "AttributeError" = some (.type "AttributeError") := by kernel_rfl
theorem bt_RE : bootBuiltins "RuntimeError" = some (.type "RuntimeError") := by kernel_rfl
theorem bt_isi : bootBuiltins "isinstance" = some (.builtin "isinstance") := by kernel_rfl
theorem bt_rep : bootBuiltins "repr" = some (.builtin "repr") := by kernel_rfl
/-- the truths that _law_kinds tells of the i-th class -/
def kindsOf (i : Nat) : List V := (List.range 24).map fun j => V.bl (decide (i = j))
def kinds1 (i : Nat) : List V := [V.bl (decide (i = 0)), V.bl (decide (i = 1)), V.bl (decide (i = 2)), V.bl (decide (i = 3)), V.bl (decide (i = 4)), V.bl (decide (i = 5)), V.bl (decide (i = 6)), V.bl (decide (i = 7)), V.bl (decide (i = 8)), V.bl (decide (i = 9)), V.bl (decide (i = 10)), V.bl (decide (i = 11)), V.bl (decide (i = 12))]
def kinds2 (i : Nat) : List V := [V.bl (decide (i = 13)), V.bl (decide (i = 14)), V.bl (decide (i = 15)), V.bl (decide (i = 16)), V.bl (decide (i = 17)), V.bl (decide (i = 18)), V.bl (decide (i = 19)), V.bl (decide (i = 20)), V.bl (decide (i = 21)), V.bl (decide (i = 22)), V.bl (decide (i = 23))]
theorem kinds_is (i : Nat) : kinds1 i ++ kinds2 i = kindsOf i := rfl
/-- isinstance(e, c) -/
theorem gv_isX {K : PySem.W.Frag} {σ : L2.St} {H : Hp} {a c ci : Addr} {fs : List (Str × V)} {b : Bool} {k : Nat} (hk : σ[k]? = some (some (.ref a))) (x : ExAt H a c fs) (T : ExK K c) (e : PySem.W.kitOne K (.ref c) (.ref ci) = some b) :
    Gv (tCB (rIsX K) (tCons (tVar k) (tCons (tC (.ref ci)) tNil))) σ H (fun v _ => v = .bl b) := fun H1 e1 Q q =>
  ⟨_, hk, a, c, fs, .ref ci, .ref ci, b, rfl, x.keep e1, T, .own _, e, q _ H1 (Evl.Ex.refl H1) rfl⟩
theorem gv_isP {K : PySem.W.Frag} {σ : L2.St} {H : Hp} {a c ci : Addr} {d : Option Addr} {b : Bool} {k : Nat} (hk : σ[k]? = some (some (.ref a))) (x : ∀ H1, Ex H H1 → DictX d H1) (T : ExK K c) (e : PySem.W.kitOne K (.ref c) (.ref ci) = some b) :
    Gv (tCB (rIsP K a c d) (tCons (tVar k) (tCons (tC (.ref ci)) tNil))) σ H (fun v _ => v = .bl b) := fun H1 e1 Q q =>
  ⟨_, hk, .ref ci, .ref ci, b, rfl, x H1 e1, T, .own _, e, q _ H1 (Evl.Ex.refl H1) rfl⟩
theorem dictX_ex {d : Option Addr} {H : Hp} (h : DictX d H) : ∀ H1, Ex H H1 → DictX d H1 := fun H1 e => by
  cases d with
  | none => trivial
  | some dd =>
    obtain ⟨fs, y⟩ := h
    exact ⟨fs, e _ _ y⟩
/-- _law_kinds(e) -/
def spKinds (C : Nat → Addr) : Sp := fun vs H Q _ => ∃ a i fs, vs = [.ref a] ∧ i ≤ 24 ∧ ExAt H a (C i) fs ∧ ∀ H' p, Ex H H' → H' p = some (.lst (kindsOf i)) → Q (.ref p) H'
def spKindsP (i : Nat) (a : Addr) (d : Option Addr) : Sp := fun vs H Q _ => vs = [.ref a] ∧ DictX d H ∧ ∀ H' p, Ex H H' → H' p = some (.lst (kindsOf i)) → Q (.ref p) H'
/-- _law_is_plain(e) -/
def spPlain (C : Nat → Addr) : Sp := fun vs H Q _ => ∃ a i fs, vs = [.ref a] ∧ i ≤ 24 ∧ ExAt H a (C i) fs ∧ ∀ H', Ex H H' → Q (.bl true) H'
def spPlainP (a : Addr) (d : Option Addr) : Sp := fun vs H Q _ => vs = [.ref a] ∧ DictX d H ∧ ∀ H', Ex H H' → Q (.bl true) H'
theorem scKi : FnScope ["e", "found"] ["e"] (defScope sKinds) := ⟨rfl, rfl, rfl, by decide +kernel, rfl, by decide +kernel, by decide +kernel⟩
theorem scPl : FnScope ["e"] ["e"] (defScope sPlain) := ⟨rfl, rfl, rfl, by decide +kernel, rfl, by decide +kernel, by decide +kernel⟩
section
variable {P : Program} {w : World} {K : PySem.W.Frag} {mg : Str → Option Value} {base : Heap} {C : Nat → Addr}
theorem ok_kinds {f : Addr} {fd : FuncData} (F : Fun K "_law_kinds" "_law_kinds" sKinds f fd) (T : Txt P K mg C) : FnOk P w K mg base CX0 1 f fd ["e"] (spKinds C) := by
  refine F.ok scKi (fun vs H Q E h => ?_) (fun cdv A outer s H vs Q E hr h => ?_)
  · obtain ⟨a, i, fs, rfl, _⟩ := h
    rfl
  · obtain ⟨a, i, fs, rfl, hi, HX, k⟩ := h
    refine ⟨_, pss_cons (ps_set (i := 1) scKi.nd rfl (Or.inl rfl) (pe_lst (pa_cons (pe_callB call_isX (by rfl) T.isi bt_isi (pa_cons (pv 0) (pa_cons (pe_glob (v := .ref (C 0)) rfl T.s0.gC rfl) pa_nil)))
      (pa_cons (pe_callB call_isX (by rfl) T.isi bt_isi (pa_cons (pv 0) (pa_cons (pe_glob (v := .ref (C 1)) rfl T.s1.gC rfl) pa_nil)))
      (pa_cons (pe_callB call_isX (by rfl) T.isi bt_isi (pa_cons (pv 0) (pa_cons (pe_glob (v := .ref (C 2)) rfl T.s2.gC rfl) pa_nil)))
      (pa_cons (pe_callB call_isX (by rfl) T.isi bt_isi (pa_cons (pv 0) (pa_cons (pe_glob (v := .ref (C 3)) rfl T.s3.gC rfl) pa_nil)))
      (pa_cons (pe_callB call_isX (by rfl) T.isi bt_isi (pa_cons (pv 0) (pa_cons (pe_glob (v := .ref (C 4)) rfl T.s4.gC rfl) pa_nil)))
      (pa_cons (pe_callB call_isX (by rfl) T.isi bt_isi (pa_cons (pv 0) (pa_cons (pe_glob (v := .ref (C 5)) rfl T.s5.gC rfl) pa_nil)))
      (pa_cons (pe_callB call_isX (by rfl) T.isi bt_isi (pa_cons (pv 0) (pa_cons (pe_glob (v := .ref (C 6)) rfl T.s6.gC rfl) pa_nil)))
      (pa_cons (pe_callB call_isX (by rfl) T.isi bt_isi (pa_cons (pv 0) (pa_cons (pe_glob (v := .ref (C 7)) rfl T.s7.gC rfl) pa_nil)))
      (pa_cons (pe_callB call_isX (by rfl) T.isi bt_isi (pa_cons (pv 0) (pa_cons (pe_glob (v := .ref (C 8)) rfl T.s8.gC rfl) pa_nil)))
      (pa_cons (pe_callB call_isX (by rfl) T.isi bt_isi (pa_cons (pv 0) (pa_cons (pe_glob (v := .ref (C 9)) rfl T.s9.gC rfl) pa_nil)))
      (pa_cons (pe_callB call_isX (by rfl) T.isi bt_isi (pa_cons (pv 0) (pa_cons (pe_glob (v := .ref (C 10)) rfl T.s10.gC rfl) pa_nil)))
      (pa_cons (pe_callB call_isX (by rfl) T.isi bt_isi (pa_cons (pv 0) (pa_cons (pe_glob (v := .ref (C 11)) rfl T.s11.gC rfl) pa_nil)))
      (pa_cons (pe_callB call_isX (by rfl) T.isi bt_isi (pa_cons (pv 0) (pa_cons (pe_glob (v := .ref (C 12)) rfl T.s12.gC rfl) pa_nil)))
      pa_nil)))))))))))))))
      (pss_one (ps_ret (pe_op op_cat (pv 1) (pe_lst (pa_cons (pe_callB call_isX (by rfl) T.isi bt_isi (pa_cons (pv 0) (pa_cons (pe_glob (v := .ref (C 13)) rfl T.s13.gC rfl) pa_nil)))
      (pa_cons (pe_callB call_isX (by rfl) T.isi bt_isi (pa_cons (pv 0) (pa_cons (pe_glob (v := .ref (C 14)) rfl T.s14.gC rfl) pa_nil)))
      (pa_cons (pe_callB call_isX (by rfl) T.isi bt_isi (pa_cons (pv 0) (pa_cons (pe_glob (v := .ref (C 15)) rfl T.s15.gC rfl) pa_nil)))
      (pa_cons (pe_callB call_isX (by rfl) T.isi bt_isi (pa_cons (pv 0) (pa_cons (pe_glob (v := .ref (C 16)) rfl T.s16.gC rfl) pa_nil)))
      (pa_cons (pe_callB call_isX (by rfl) T.isi bt_isi (pa_cons (pv 0) (pa_cons (pe_glob (v := .ref (C 17)) rfl T.s17.gC rfl) pa_nil)))
      (pa_cons (pe_callB call_isX (by rfl) T.isi bt_isi (pa_cons (pv 0) (pa_cons (pe_glob (v := .ref (C 18)) rfl T.s18.gC rfl) pa_nil)))
      (pa_cons (pe_callB call_isX (by rfl) T.isi bt_isi (pa_cons (pv 0) (pa_cons (pe_glob (v := .ref (C 19)) rfl T.s19.gC rfl) pa_nil)))
      (pa_cons (pe_callB call_isX (by rfl) T.isi bt_isi (pa_cons (pv 0) (pa_cons (pe_glob (v := .ref (C 20)) rfl T.s20.gC rfl) pa_nil)))
      (pa_cons (pe_callB call_isX (by rfl) T.isi bt_isi (pa_cons (pv 0) (pa_cons (pe_glob (v := .ref (C 21)) rfl T.s21.gC rfl) pa_nil)))
      (pa_cons (pe_callB call_isX (by rfl) T.isi bt_isi (pa_cons (pv 0) (pa_cons (pe_glob (v := .ref (C 22)) rfl T.s22.gC rfl) pa_nil)))
      (pa_cons (pe_callB call_isX (by rfl) T.isi bt_isi (pa_cons (pv 0) (pa_cons (pe_glob (v := .ref (C 23)) rfl T.s23.gC rfl) pa_nil)))
      pa_nil))))))))))))))), ?_⟩
    refine set_gv (gv_lst (σ := start ["e", "found"] [.ref a]) (R := fun vs _ => vs = kinds1 i) (ga_eq (gv_isX (k := 0) rfl HX (T.ek i hi) (T.kk i 0 hi (by decide)))
      (ga_eq (gv_isX (k := 0) rfl HX (T.ek i hi) (T.kk i 1 hi (by decide)))
      (ga_eq (gv_isX (k := 0) rfl HX (T.ek i hi) (T.kk i 2 hi (by decide)))
      (ga_eq (gv_isX (k := 0) rfl HX (T.ek i hi) (T.kk i 3 hi (by decide)))
      (ga_eq (gv_isX (k := 0) rfl HX (T.ek i hi) (T.kk i 4 hi (by decide)))
      (ga_eq (gv_isX (k := 0) rfl HX (T.ek i hi) (T.kk i 5 hi (by decide)))
      (ga_eq (gv_isX (k := 0) rfl HX (T.ek i hi) (T.kk i 6 hi (by decide)))
      (ga_eq (gv_isX (k := 0) rfl HX (T.ek i hi) (T.kk i 7 hi (by decide)))
      (ga_eq (gv_isX (k := 0) rfl HX (T.ek i hi) (T.kk i 8 hi (by decide)))
      (ga_eq (gv_isX (k := 0) rfl HX (T.ek i hi) (T.kk i 9 hi (by decide)))
      (ga_eq (gv_isX (k := 0) rfl HX (T.ek i hi) (T.kk i 10 hi (by decide)))
      (ga_eq (gv_isX (k := 0) rfl HX (T.ek i hi) (T.kk i 11 hi (by decide)))
      (ga_eq (gv_isX (k := 0) rfl HX (T.ek i hi) (T.kk i 12 hi (by decide)))
      ga_nil)))))))))))))
      (fun _ _ _ _ z => z) (fun vs H z => by rw [z]; show 13 ≤ 100000; decide)) fun v H2 e2 hv => ?_
    obtain ⟨l, vs1, ev, h1, h2⟩ := hv
    subst ev h2
    replace HX := HX.keep e2
    refine ret_cat (l := l) (xs := kinds1 i) (ys := kinds2 i) rfl h1 (by show 13 + 11 ≤ 100000; decide) (gv_lst (σ := (start ["e", "found"] [.ref a]).set 1 (some (.ref l))) (R := fun vs _ => vs = kinds2 i) (ga_eq (gv_isX (k := 0) rfl HX (T.ek i hi) (T.kk i 13 hi (by decide)))
      (ga_eq (gv_isX (k := 0) rfl HX (T.ek i hi) (T.kk i 14 hi (by decide)))
      (ga_eq (gv_isX (k := 0) rfl HX (T.ek i hi) (T.kk i 15 hi (by decide)))
      (ga_eq (gv_isX (k := 0) rfl HX (T.ek i hi) (T.kk i 16 hi (by decide)))
      (ga_eq (gv_isX (k := 0) rfl HX (T.ek i hi) (T.kk i 17 hi (by decide)))
      (ga_eq (gv_isX (k := 0) rfl HX (T.ek i hi) (T.kk i 18 hi (by decide)))
      (ga_eq (gv_isX (k := 0) rfl HX (T.ek i hi) (T.kk i 19 hi (by decide)))
      (ga_eq (gv_isX (k := 0) rfl HX (T.ek i hi) (T.kk i 20 hi (by decide)))
      (ga_eq (gv_isX (k := 0) rfl HX (T.ek i hi) (T.kk i 21 hi (by decide)))
      (ga_eq (gv_isX (k := 0) rfl HX (T.ek i hi) (T.kk i 22 hi (by decide)))
      (ga_eq (gv_isX (k := 0) rfl HX (T.ek i hi) (T.kk i 23 hi (by decide)))
      ga_nil)))))))))))
      (fun _ _ _ _ z => z) (fun vs H z => by rw [z]; show 11 ≤ 100000; decide)) fun q H3 e3 hq => ?_
    rw [kinds_is] at hq
    exact k _ q (e2.trans e3) hq
theorem ok_kindsP {f : Addr} {fd : FuncData} (F : Fun K "_law_kinds" "_law_kinds" sKinds f fd) (T : Txt P K mg C) {i : Nat} (hi : i ≤ 24) (a : Addr) (d : Option Addr) : FnHp P w K mg base 1 f fd ["e"] (PinX (C i) d a) (spKindsP i a d) := by
  refine okHp F scKi (fun vs H Q E h => ?_) (fun cdv A outer s H vs Q E p px hr h => ?_)
  · obtain ⟨rfl, _⟩ := h
    rfl
  · obtain ⟨rfl, dx, k⟩ := h
    have hx := dictX_ex dx
    refine ⟨_, pss_cons (ps_set (i := 1) scKi.nd rfl (Or.inl rfl) (pe_lst (pa_cons (pe_callB (call_isP (p := p) (by exact List.mem_singleton.mpr rfl) px) (by rfl) T.isi bt_isi (pa_cons (pv 0) (pa_cons (pe_glob (v := .ref (C 0)) rfl T.s0.gC rfl) pa_nil)))
      (pa_cons (pe_callB (call_isP (p := p) (by exact List.mem_singleton.mpr rfl) px) (by rfl) T.isi bt_isi (pa_cons (pv 0) (pa_cons (pe_glob (v := .ref (C 1)) rfl T.s1.gC rfl) pa_nil)))
      (pa_cons (pe_callB (call_isP (p := p) (by exact List.mem_singleton.mpr rfl) px) (by rfl) T.isi bt_isi (pa_cons (pv 0) (pa_cons (pe_glob (v := .ref (C 2)) rfl T.s2.gC rfl) pa_nil)))
      (pa_cons (pe_callB (call_isP (p := p) (by exact List.mem_singleton.mpr rfl) px) (by rfl) T.isi bt_isi (pa_cons (pv 0) (pa_cons (pe_glob (v := .ref (C 3)) rfl T.s3.gC rfl) pa_nil)))
      (pa_cons (pe_callB (call_isP (p := p) (by exact List.mem_singleton.mpr rfl) px) (by rfl) T.isi bt_isi (pa_cons (pv 0) (pa_cons (pe_glob (v := .ref (C 4)) rfl T.s4.gC rfl) pa_nil)))
      (pa_cons (pe_callB (call_isP (p := p) (by exact List.mem_singleton.mpr rfl) px) (by rfl) T.isi bt_isi (pa_cons (pv 0) (pa_cons (pe_glob (v := .ref (C 5)) rfl T.s5.gC rfl) pa_nil)))
      (pa_cons (pe_callB (call_isP (p := p) (by exact List.mem_singleton.mpr rfl) px) (by rfl) T.isi bt_isi (pa_cons (pv 0) (pa_cons (pe_glob (v := .ref (C 6)) rfl T.s6.gC rfl) pa_nil)))
      (pa_cons (pe_callB (call_isP (p := p) (by exact List.mem_singleton.mpr rfl) px) (by rfl) T.isi bt_isi (pa_cons (pv 0) (pa_cons (pe_glob (v := .ref (C 7)) rfl T.s7.gC rfl) pa_nil)))
      (pa_cons (pe_callB (call_isP (p := p) (by exact List.mem_singleton.mpr rfl) px) (by rfl) T.isi bt_isi (pa_cons (pv 0) (pa_cons (pe_glob (v := .ref (C 8)) rfl T.s8.gC rfl) pa_nil)))
      (pa_cons (pe_callB (call_isP (p := p) (by exact List.mem_singleton.mpr rfl) px) (by rfl) T.isi bt_isi (pa_cons (pv 0) (pa_cons (pe_glob (v := .ref (C 9)) rfl T.s9.gC rfl) pa_nil)))
      (pa_cons (pe_callB (call_isP (p := p) (by exact List.mem_singleton.mpr rfl) px) (by rfl) T.isi bt_isi (pa_cons (pv 0) (pa_cons (pe_glob (v := .ref (C 10)) rfl T.s10.gC rfl) pa_nil)))
      (pa_cons (pe_callB (call_isP (p := p) (by exact List.mem_singleton.mpr rfl) px) (by rfl) T.isi bt_isi (pa_cons (pv 0) (pa_cons (pe_glob (v := .ref (C 11)) rfl T.s11.gC rfl) pa_nil)))
      (pa_cons (pe_callB (call_isP (p := p) (by exact List.mem_singleton.mpr rfl) px) (by rfl) T.isi bt_isi (pa_cons (pv 0) (pa_cons (pe_glob (v := .ref (C 12)) rfl T.s12.gC rfl) pa_nil)))
      pa_nil)))))))))))))))
      (pss_one (ps_ret (pe_op op_cat (pv 1) (pe_lst (pa_cons (pe_callB (call_isP (p := p) (by exact List.mem_singleton.mpr rfl) px) (by rfl) T.isi bt_isi (pa_cons (pv 0) (pa_cons (pe_glob (v := .ref (C 13)) rfl T.s13.gC rfl) pa_nil)))
      (pa_cons (pe_callB (call_isP (p := p) (by exact List.mem_singleton.mpr rfl) px) (by rfl) T.isi bt_isi (pa_cons (pv 0) (pa_cons (pe_glob (v := .ref (C 14)) rfl T.s14.gC rfl) pa_nil)))
      (pa_cons (pe_callB (call_isP (p := p) (by exact List.mem_singleton.mpr rfl) px) (by rfl) T.isi bt_isi (pa_cons (pv 0) (pa_cons (pe_glob (v := .ref (C 15)) rfl T.s15.gC rfl) pa_nil)))
      (pa_cons (pe_callB (call_isP (p := p) (by exact List.mem_singleton.mpr rfl) px) (by rfl) T.isi bt_isi (pa_cons (pv 0) (pa_cons (pe_glob (v := .ref (C 16)) rfl T.s16.gC rfl) pa_nil)))
      (pa_cons (pe_callB (call_isP (p := p) (by exact List.mem_singleton.mpr rfl) px) (by rfl) T.isi bt_isi (pa_cons (pv 0) (pa_cons (pe_glob (v := .ref (C 17)) rfl T.s17.gC rfl) pa_nil)))
      (pa_cons (pe_callB (call_isP (p := p) (by exact List.mem_singleton.mpr rfl) px) (by rfl) T.isi bt_isi (pa_cons (pv 0) (pa_cons (pe_glob (v := .ref (C 18)) rfl T.s18.gC rfl) pa_nil)))
      (pa_cons (pe_callB (call_isP (p := p) (by exact List.mem_singleton.mpr rfl) px) (by rfl) T.isi bt_isi (pa_cons (pv 0) (pa_cons (pe_glob (v := .ref (C 19)) rfl T.s19.gC rfl) pa_nil)))
      (pa_cons (pe_callB (call_isP (p := p) (by exact List.mem_singleton.mpr rfl) px) (by rfl) T.isi bt_isi (pa_cons (pv 0) (pa_cons (pe_glob (v := .ref (C 20)) rfl T.s20.gC rfl) pa_nil)))
      (pa_cons (pe_callB (call_isP (p := p) (by exact List.mem_singleton.mpr rfl) px) (by rfl) T.isi bt_isi (pa_cons (pv 0) (pa_cons (pe_glob (v := .ref (C 21)) rfl T.s21.gC rfl) pa_nil)))
      (pa_cons (pe_callB (call_isP (p := p) (by exact List.mem_singleton.mpr rfl) px) (by rfl) T.isi bt_isi (pa_cons (pv 0) (pa_cons (pe_glob (v := .ref (C 22)) rfl T.s22.gC rfl) pa_nil)))
      (pa_cons (pe_callB (call_isP (p := p) (by exact List.mem_singleton.mpr rfl) px) (by rfl) T.isi bt_isi (pa_cons (pv 0) (pa_cons (pe_glob (v := .ref (C 23)) rfl T.s23.gC rfl) pa_nil)))
      pa_nil))))))))))))))), ?_⟩
    refine set_gv (gv_lst (σ := start ["e", "found"] [.ref a]) (R := fun vs _ => vs = kinds1 i) (ga_eq (gv_isP (k := 0) rfl hx (T.ek i hi) (T.kk i 0 hi (by decide)))
      (ga_eq (gv_isP (k := 0) rfl hx (T.ek i hi) (T.kk i 1 hi (by decide)))
      (ga_eq (gv_isP (k := 0) rfl hx (T.ek i hi) (T.kk i 2 hi (by decide)))
      (ga_eq (gv_isP (k := 0) rfl hx (T.ek i hi) (T.kk i 3 hi (by decide)))
      (ga_eq (gv_isP (k := 0) rfl hx (T.ek i hi) (T.kk i 4 hi (by decide)))
      (ga_eq (gv_isP (k := 0) rfl hx (T.ek i hi) (T.kk i 5 hi (by decide)))
      (ga_eq (gv_isP (k := 0) rfl hx (T.ek i hi) (T.kk i 6 hi (by decide)))
      (ga_eq (gv_isP (k := 0) rfl hx (T.ek i hi) (T.kk i 7 hi (by decide)))
      (ga_eq (gv_isP (k := 0) rfl hx (T.ek i hi) (T.kk i 8 hi (by decide)))
      (ga_eq (gv_isP (k := 0) rfl hx (T.ek i hi) (T.kk i 9 hi (by decide)))
      (ga_eq (gv_isP (k := 0) rfl hx (T.ek i hi) (T.kk i 10 hi (by decide)))
      (ga_eq (gv_isP (k := 0) rfl hx (T.ek i hi) (T.kk i 11 hi (by decide)))
      (ga_eq (gv_isP (k := 0) rfl hx (T.ek i hi) (T.kk i 12 hi (by decide)))
      ga_nil)))))))))))))
      (fun _ _ _ _ z => z) (fun vs H z => by rw [z]; show 13 ≤ 100000; decide)) fun v H2 e2 hv => ?_
    obtain ⟨l, vs1, ev, h1, h2⟩ := hv
    subst ev h2
    replace hx := fun H1 e => hx H1 (e2.trans e)
    refine ret_cat (l := l) (xs := kinds1 i) (ys := kinds2 i) rfl h1 (by show 13 + 11 ≤ 100000; decide) (gv_lst (σ := (start ["e", "found"] [.ref a]).set 1 (some (.ref l))) (R := fun vs _ => vs = kinds2 i) (ga_eq (gv_isP (k := 0) rfl hx (T.ek i hi) (T.kk i 13 hi (by decide)))
      (ga_eq (gv_isP (k := 0) rfl hx (T.ek i hi) (T.kk i 14 hi (by decide)))
      (ga_eq (gv_isP (k := 0) rfl hx (T.ek i hi) (T.kk i 15 hi (by decide)))
      (ga_eq (gv_isP (k := 0) rfl hx (T.ek i hi) (T.kk i 16 hi (by decide)))
      (ga_eq (gv_isP (k := 0) rfl hx (T.ek i hi) (T.kk i 17 hi (by decide)))
      (ga_eq (gv_isP (k := 0) rfl hx (T.ek i hi) (T.kk i 18 hi (by decide)))
      (ga_eq (gv_isP (k := 0) rfl hx (T.ek i hi) (T.kk i 19 hi (by decide)))
      (ga_eq (gv_isP (k := 0) rfl hx (T.ek i hi) (T.kk i 20 hi (by decide)))
      (ga_eq (gv_isP (k := 0) rfl hx (T.ek i hi) (T.kk i 21 hi (by decide)))
      (ga_eq (gv_isP (k := 0) rfl hx (T.ek i hi) (T.kk i 22 hi (by decide)))
      (ga_eq (gv_isP (k := 0) rfl hx (T.ek i hi) (T.kk i 23 hi (by decide)))
      ga_nil)))))))))))
      (fun _ _ _ _ z => z) (fun vs H z => by rw [z]; show 11 ≤ 100000; decide)) fun q H3 e3 hq => ?_
    rw [kinds_is] at hq
    exact k _ q (e2.trans e3) hq
theorem five_cls : Paired ClsV [V.ty "LookupError", V.ty "ArithmeticError", V.ty "TypeError", V.ty "AttributeError", V.ty "RuntimeError"] five := .cons (.ty _) (.cons (.ty _) (.cons (.ty _) (.cons (.ty _) (.cons (.ty _) .nil))))
theorem ok_plain {f : Addr} {fd : FuncData} (F : Fun K "_law_is_plain" "_law_is_plain" sPlain f fd) (T : Txt P K mg C) : FnOk P w K mg base CX0 1 f fd ["e"] (spPlain C) := by
  refine F.ok scPl (fun vs H Q E h => ?_) (fun cdv A outer s H vs Q E hr h => ?_)
  · obtain ⟨a, i, fs, rfl, _⟩ := h
    rfl
  · obtain ⟨a, i, fs, rfl, hi, HX, k⟩ := h
    refine ⟨_, pss_cons (ps_if (PW.pt (pw_or (pt_not (pt_val (pe_callB call_isX (by rfl) T.isi bt_isi (pa_cons (pv 0) (pa_cons (pe_glob (v := .ref (C 24)) rfl T.s24.gC rfl) pa_nil)))))
      (pw_or1 (pt_not (pt_val (pe_callB call_isX (by rfl) T.isi bt_isi (pa_cons (pv 0) (pa_cons (pe_bltn (v := .ty "ValueError") rfl T.bV bt_VE rfl) pa_nil))))))))
      (pss_one (ps_ret pe_bl)) pss_nil)
      (pss_one (ps_ret (pe_not (pe_callB call_isXT (by rfl) T.isi bt_isi (pa_cons (pv 0) (pa_cons (pe_tup (pa_cons (pe_bltn (v := .ty "LookupError") rfl T.b1 bt_LE rfl) (pa_cons (pe_bltn (v := .ty "ArithmeticError") rfl T.b2 bt_AE rfl) (pa_cons (pe_bltn (v := .ty "TypeError") rfl T.b3 bt_TE rfl) (pa_cons (pe_bltn (v := .ty "AttributeError") rfl T.b4 bt_AT rfl) (pa_cons (pe_bltn (v := .ty "RuntimeError") rfl T.b5 bt_RE rfl) pa_nil)))))) pa_nil)))))), ?_⟩
    refine ⟨_, rfl, a, C i, fs, .ref (C 24), .ref (C 24), true, rfl, HX, T.ek i hi, .own _, T.kM i hi, ?_⟩
    refine ⟨true, rfl, ?_⟩
    show (if (!true) = true then _ else _)
    refine iteF ?_
    refine ⟨_, rfl, a, C i, fs, .ty "ValueError", .type "ValueError", true, rfl, HX, T.ek i hi, .ty _, T.kV i hi, ?_⟩
    refine ⟨true, rfl, ?_⟩
    show (if (!true) = true then _ else _)
    refine iteF ?_
    refine ⟨_, rfl, (by show 5 ≤ sizeLine; decide), fun tp ht => ?_⟩
    refine ⟨a, C i, tp, fs, _, five, false, rfl, upd_same, five_cls, HX.keep (Evl.Ex.new ht), T.ek i hi, T.k5 i hi, ?_⟩
    exact ⟨false, rfl, k _ (Evl.Ex.new ht)⟩
theorem ok_plainP {f : Addr} {fd : FuncData} (F : Fun K "_law_is_plain" "_law_is_plain" sPlain f fd) (T : Txt P K mg C) {i : Nat} (hi : i ≤ 24) (a : Addr) (d : Option Addr) : FnHp P w K mg base 1 f fd ["e"] (PinX (C i) d a) (spPlainP a d) := by
  refine okHp F scPl (fun vs H Q E h => ?_) (fun cdv A outer s H vs Q E p px hr h => ?_)
  · obtain ⟨rfl, _⟩ := h
    rfl
  · obtain ⟨rfl, dx, k⟩ := h
    have hx := dictX_ex dx
    refine ⟨_, pss_cons (ps_if (PW.pt (pw_or (pt_not (pt_val (pe_callB (call_isP (p := p) (by exact List.mem_singleton.mpr rfl) px) (by rfl) T.isi bt_isi (pa_cons (pv 0) (pa_cons (pe_glob (v := .ref (C 24)) rfl T.s24.gC rfl) pa_nil)))))
      (pw_or1 (pt_not (pt_val (pe_callB (call_isP (p := p) (by exact List.mem_singleton.mpr rfl) px) (by rfl) T.isi bt_isi (pa_cons (pv 0) (pa_cons (pe_bltn (v := .ty "ValueError") rfl T.bV bt_VE rfl) pa_nil))))))))
      (pss_one (ps_ret pe_bl)) pss_nil)
      (pss_one (ps_ret (pe_not (pe_callB (call_isPT (p := p) (by exact List.mem_singleton.mpr rfl) px) (by rfl) T.isi bt_isi (pa_cons (pv 0) (pa_cons (pe_tup (pa_cons (pe_bltn (v := .ty "LookupError") rfl T.b1 bt_LE rfl) (pa_cons (pe_bltn (v := .ty "ArithmeticError") rfl T.b2 bt_AE rfl) (pa_cons (pe_bltn (v := .ty "TypeError") rfl T.b3 bt_TE rfl) (pa_cons (pe_bltn (v := .ty "AttributeError") rfl T.b4 bt_AT rfl) (pa_cons (pe_bltn (v := .ty "RuntimeError") rfl T.b5 bt_RE rfl) pa_nil)))))) pa_nil)))))), ?_⟩
    refine ⟨_, rfl, .ref (C 24), .ref (C 24), true, rfl, hx _ (Evl.Ex.refl _), T.ek i hi, .own _, T.kM i hi, ?_⟩
    refine ⟨true, rfl, ?_⟩
    show (if (!true) = true then _ else _)
    refine iteF ?_
    refine ⟨_, rfl, .ty "ValueError", .type "ValueError", true, rfl, hx _ (Evl.Ex.refl _), T.ek i hi, .ty _, T.kV i hi, ?_⟩
    refine ⟨true, rfl, ?_⟩
    show (if (!true) = true then _ else _)
    refine iteF ?_
    refine ⟨_, rfl, (by show 5 ≤ sizeLine; decide), fun tp ht => ?_⟩
    refine ⟨tp, _, five, false, rfl, upd_same, five_cls, hx _ (Evl.Ex.new ht), T.ek i hi, T.k5 i hi, ?_⟩
    exact ⟨false, rfl, k _ (Evl.Ex.new ht)⟩
end
end K01
end
section
namespace K01
open PySem PySem.Spec PyProof.Rows L2 Exv
/-- what repr asks of a datum -/
def ReprOk (d : PyData) : Prop := d.showable = true ∧ d.depth ≤ 40 ∧ d.shown.length ≤ sizeLine
def keptOf (t : V) (w : Str) : V := if w = "" then .non else t
/-- _law_kept(word, e) -/
def spKept (K : PySem.W.Frag) : Sp := fun vs H Q _ => ∃ (a : Addr) (t : V) (w : Str) (c : Addr) (fs : List (Str × V)), vs = [.str w, .ref a] ∧ ExAt H a c fs ∧ FsOk t w fs H ∧ ExK K c ∧ (∀ p ∈ fs, PySem.W.findIn K (.ref c) p.1 = some none) ∧
  (w = "row" → ∃ d, Dq K H t d ∧ ReprOk (.list [d])) ∧ ∀ H', Ex H H' → Q (keptOf t w) H'
theorem scKe : FnScope ["word", "e"] ["word", "e"] (defScope sKept) := ⟨rfl, rfl, rfl, by decide +kernel, rfl, by decide +kernel, by decide +kernel⟩
section
variable {P : Program} {w : World} {K : PySem.W.Frag} {mg : Str → Option Value} {base : Heap} {C : Nat → Addr}
theorem eq_no {x y : Str} (h : x ≠ y) {A B : Prop} (k : B) : if decide ((V.str x : V) = V.str y) = true then A else B := by
  rw [decide_eq_false (fun z => h (V.str.inj z)), if_neg Bool.false_ne_true]
  exact k
theorem eq_yes {x : Str} {A B : Prop} (k : A) : if decide ((V.str x : V) = V.str x) = true then A else B := by
  rw [decide_eq_true rfl, if_pos rfl]
  exact k
theorem ok_kept {f : Addr} {fd : FuncData} (F : Fun K "_law_kept" "_law_kept" sKept f fd) (T : Txt P K mg C) : FnG P w K mg base 1 f fd ["word", "e"] (spKept K) := by
  refine okG F scKe (fun vs H Q E h => ?_) (fun cdv A outer s H vs Q E hgd hr h => ?_)
  · obtain ⟨a, t, w, c, fs, rfl, _⟩ := h
    rfl
  · obtain ⟨a, t, wd, c, fs, rfl, x, fo, T1, no, rd, k⟩ := h
    have hu : (A.deeper (envOfC "_law_kept" (defScope sKept) s.heap.objs.size f cdv)).units + 64 < cLine := by have := hr.un; omega
    refine ⟨_, pss_cons (ps_if (pt_cmpR op_eq (pv 0) pe_str (nomark _)) (pss_one (ps_ret (pe_xa (pv 1)))) pss_nil)
      (pss_cons (ps_if (pt_cmpR op_eq (pv 0) pe_str (nomark _)) (pss_one (ps_ret (pe_xa (pv 1)))) pss_nil)
      (pss_cons (ps_if (pt_cmpR op_eq (pv 0) pe_str (nomark _)) (pss_one (ps_ret (pe_ifExp
        (pt_cmpR op_eq (pe_callB (call_reprD hgd hu) (by rfl) T.rep bt_rep (pa_cons (pe_xa (pv 1)) pa_nil)) (pe_callB (call_reprD hgd hu) (by rfl) T.rep bt_rep (pa_cons (pe_lstB (pa_cons (pe_xa (pv 1)) pa_nil)) pa_nil)) (nomark _))
        (pe_xa (pv 1)) pe_str))) pss_nil)
      (pss_one (ps_ret (pe_ifExp (pt_cmpR op_eq (pv 0) pe_str (nomark _)) (pe_xa (pv 1)) pe_non))))), ?_⟩
    rcases fo with ⟨rfl, rfl⟩ | ⟨rfl, rfl⟩ | ⟨rfl, rfl⟩ | ⟨rfl, l, rfl, hb, hl⟩ | ⟨rfl, rfl⟩
    · refine ⟨_, rfl, rfl, _, rfl, eq_yes ?_⟩
      exact ⟨_, rfl, a, c, _, t, rfl, x, T1, no _ (List.mem_singleton.mpr rfl), rfl, k H (Evl.Ex.refl H)⟩
    · refine ⟨_, rfl, rfl, _, rfl, eq_no (by decide) ?_⟩
      refine ⟨_, rfl, rfl, _, rfl, eq_yes ?_⟩
      exact ⟨_, rfl, a, c, _, t, rfl, x, T1, no _ (List.mem_singleton.mpr rfl), rfl, k H (Evl.Ex.refl H)⟩
    · refine ⟨_, rfl, rfl, _, rfl, eq_no (by decide) ?_⟩
      refine ⟨_, rfl, rfl, _, rfl, eq_no (by decide) ?_⟩
      refine ⟨_, rfl, rfl, _, rfl, eq_no (by decide) ?_⟩
      refine ⟨_, rfl, rfl, _, rfl, eq_yes ?_⟩
      exact ⟨_, rfl, a, c, _, t, rfl, x, T1, no _ (List.mem_singleton.mpr rfl), rfl, k H (Evl.Ex.refl H)⟩
    · obtain ⟨d, hd, r1, r2, r3⟩ := rd rfl
      refine ⟨_, rfl, rfl, _, rfl, eq_no (by decide) ?_⟩
      refine ⟨_, rfl, rfl, _, rfl, eq_no (by decide) ?_⟩
      refine ⟨_, rfl, rfl, _, rfl, eq_yes ?_⟩
      have D1 : Dq K H (.ref l) (.list [d]) := .lst (.inl (.inl hl)) hb (.cons hd .nil)
      -- repr(e.word)
      refine ⟨_, rfl, a, c, _, V.ref l, rfl, x, T1, no ("word", .ref l) (.tail _ (.head _)), rfl, .ref l, _, rfl, D1, r1, r2, r3, ?_⟩
      -- repr([e.row])
      refine ⟨_, rfl, a, c, _, t, rfl, x, T1, no ("row", t) (.head _), rfl, (by show 1 ≤ sizeLine; decide), fun p hp hs => ?_⟩
      have e1 : Ex H (upd H p (.lst [t])) := Evl.Ex.new hp
      have D2 : Dq K (upd H p (.lst [t])) (.ref p) (.list [d]) := .lst (.inl (.inl upd_same)) hs (.cons (Dq.keep e1 _ _ hd) .nil)
      refine ⟨.ref p, _, rfl, D2, r1, r2, r3, rfl, _, rfl, eq_yes ?_⟩
      exact ⟨_, rfl, a, c, _, t, rfl, x.keep e1, T1, no ("row", t) (.head _), rfl, k _ e1⟩
    · refine ⟨_, rfl, rfl, _, rfl, eq_no (by decide) ?_⟩
      refine ⟨_, rfl, rfl, _, rfl, eq_no (by decide) ?_⟩
      refine ⟨_, rfl, rfl, _, rfl, eq_no (by decide) ?_⟩
      refine ⟨_, rfl, rfl, _, rfl, eq_no (by decide) ?_⟩
      exact k H (Evl.Ex.refl H)
end
end K01
end
section
namespace K01
open PySem PySem.Spec PyProof.Rows L2 Exv
/-- the draws at a: [figures, seed, turn] -/
def Draws (H : Hp) (a : Addr) (n : Int) : Prop := ∃ f s : Int, H a = some (.lst [.int f, .int s, .int n]) ∧ 0 ≤ f ∧ 0 ≤ s ∧ s < 2147483549
/-- _law_take(draws, many) -/
def spTake : Sp := fun vs H Q _ => ∃ (a : Addr) (m n : Int), vs = [.ref a, .int m] ∧ 0 < m ∧ m < 1000 ∧ Draws H a n ∧ 0 ≤ n ∧ n ≤ 1000 ∧ ∀ (r f s : Int), 0 ≤ r → r < m → 0 ≤ f → 0 ≤ s → s < 2147483549 → Q (.int r) (upd H a (.lst [.int f, .int s, .int (n + 1)]))
/-- _law_pick(draws, some) -/
def spPick (K : PySem.W.Frag) : Sp := fun vs H Q _ => ∃ (a p : Addr) (n : Int) (xs : List V), vs = [.ref a, .ref p] ∧ H p = some (.tup xs) ∧ 0 < xs.length ∧ xs.length < 1000 ∧ Draws H a n ∧ 0 ≤ n ∧ n ≤ 1000 ∧
  ∀ (i : Nat) (v : V) (f s : Int), xs[i]? = some v → 0 ≤ f → 0 ≤ s → s < 2147483549 → Q v (upd H a (.lst [.int f, .int s, .int (n + 1)]))
theorem scTa : FnScope ["draws", "many", "figures", "seed", "turn"] ["draws", "many"] (defScope sTake) := ⟨rfl, rfl, rfl, by decide +kernel, rfl, by decide +kernel, by decide +kernel⟩
theorem scPi : FnScope ["draws", "some"] ["draws", "some"] (defScope sPick) := ⟨rfl, rfl, rfl, by decide +kernel, rfl, by decide +kernel, by decide +kernel⟩
section
variable {P : Program} {w : World} {K : PySem.W.Frag} {mg : Str → Option Value} {base : Heap} {C : Nat → Addr}
theorem ok_take {f : Addr} {fd : FuncData} (F : Fun K "_law_take" "_law_take" sTake f fd) (T : Txt P K mg C) : FnOk P w K mg base CX0 1 f fd ["draws", "many"] spTake := by
  refine F.ok scTa (fun vs H Q E h => ?_) (fun cdv A outer s H vs Q E hr h => ?_)
  · obtain ⟨a, m, n, rfl, _⟩ := h
    rfl
  · obtain ⟨a, m, n, rfl, m0, m1, ⟨fg, sd, hd, f0, s0, s1⟩, n0, n1, k⟩ := h
    refine ⟨_, pss_cons (ps_asg (pv 0) (pg_unl rfl (pgs_cons (pg_name (i := 2) scTa.nd rfl (.inl rfl)) (pgs_cons (pg_name (i := 3) scTa.nd rfl (.inl rfl)) (pgs_cons (pg_name (i := 4) scTa.nd rfl (.inl rfl)) pgs_nil)))))
      (pss_cons (ps_asg (pe_op op_mod (pe_callTy call_int1 (by rfl) T.int boot_int (pa_cons (pe_op op_add (pe_op op_add (pe_op op_mul (pv 3) (pe_op op_add pe_int (pe_op op_mul pe_int (pv 4)))) (pe_op op_mul pe_int (pv 4))) pe_int) pa_nil)) pe_int) (pg_sub (pv 0) pe_int set_list))
      (pss_cons (ps_asg (pe_op op_add (pv 4) pe_int) (pg_sub (pv 0) pe_int set_list))
      (pss_cons (ps_if (pt_cmpR op_gt (pv 2) pe_int (nomark _))
        (pss_cons (ps_asg (pe_op op_fdivN (pe_callTy call_int1 (by rfl) T.int boot_int (pa_cons (pv 2) pa_nil)) (pv 1)) (pg_sub (pv 0) pe_int set_list))
        (pss_one (ps_ret (pe_op op_mod (pe_callTy call_int1 (by rfl) T.int boot_int (pa_cons (pv 2) pa_nil)) (pv 1))))) pss_nil)
      (pss_one (ps_ret (pe_op op_mod (pe_callTy call_int1 (by rfl) T.int boot_int (pa_cons (pe_op op_fdivN (pe_ix ix_list (pv 0) pe_int (fun _ _ => rfl)) pe_int) pa_nil)) (pv 1))))))), ?_⟩
    -- figures, seed, turn = draws
    refine ⟨_, rfl, a, _, rfl, .inl (.inl hd), rfl, _, _, rfl, _, _, rfl, _, _, rfl, rfl, ?_⟩
    -- draws[1] = ..
    have b2 : -(2 ^ 64) < sd ∧ sd < 2 ^ 64 := ⟨by omega, by omega⟩
    refine ⟨_, rfl, _, rfl, _, _, rfl, rfl, .inl ⟨by decide, by decide⟩, _, _, rfl, rfl, _, _, rfl, rfl, .inl b2, ?_⟩
    refine ⟨_, rfl, _, _, rfl, rfl, .inl ⟨by decide, by decide⟩, _, _, rfl, rfl, _, _, rfl, rfl, .inl ⟨_, rfl, ?_⟩⟩
    refine ⟨_, _, rfl, rfl, (by show (0 : Int) < 2147483549; decide), ?_⟩
    have z0 : 0 ≤ (sd * (61027 + 6 * n) + 33013 * n + 51203) % 2147483549 := Int.emod_nonneg _ (by decide)
    have z1 : (sd * (61027 + 6 * n) + 33013 * n + 51203) % 2147483549 < 2147483549 := Int.emod_lt_of_pos _ (by decide)
    refine ⟨_, rfl, a, _, 1, 1, rfl, rfl, hd, rfl, ?_⟩
    -- draws[2] = turn + 1
    refine ⟨_, rfl, _, _, rfl, rfl, _, rfl, a, _, 2, 2, rfl, rfl, upd_same, rfl, ?_⟩
    rw [upd_upd]
    -- if figures > 0
    refine ⟨_, rfl, _, _, rfl, rfl, _, rfl, ?_⟩
    refine ite2 (fun c => ?_) (fun c => ?_)
    · refine ⟨_, rfl, .inl ⟨_, rfl, _, rfl, _, _, rfl, rfl, ⟨by omega, by omega⟩, _, rfl, a, _, 0, 0, rfl, rfl, upd_same, rfl, ?_⟩⟩
      rw [upd_upd]
      refine ⟨_, rfl, .inl ⟨_, rfl, _, rfl, _, _, rfl, rfl, m0, ?_⟩⟩
      exact k _ _ _ (Int.emod_nonneg _ (by omega)) (Int.emod_lt_of_pos _ m0) (Int.fdiv_nonneg f0 (by omega)) z0 z1
    · refine ⟨_, rfl, a, _, 1, _, rfl, rfl, .inl (.inl upd_same), rfl, ?_⟩
      refine ⟨_, _, rfl, rfl, ⟨by decide, by decide⟩, .inl ⟨_, rfl, _, rfl, _, _, rfl, rfl, m0, ?_⟩⟩
      exact k _ _ _ (Int.emod_nonneg _ (by omega)) (Int.emod_lt_of_pos _ m0) f0 z0 z1
theorem ok_pick {f fT : Addr} {fd fdT : FuncData} (F : Fun K "_law_pick" "_law_pick" sPick f fd) (T : Txt P K mg C) (FT : Fun K "_law_take" "_law_take" sTake fT fdT) (mT : mg "_law_take" = some (.ref fT)) (bT : Binds K fdT ["draws", "many"] []) :
    FnOk P w K mg base CX0 2 f fd ["draws", "some"] (spPick K) := by
  have GT : FnOk P w K mg base CX0 1 fT fdT ["draws", "many"] spTake := ok_take FT T
  refine F.ok scPi (fun vs H Q E h => ?_) (fun cdv A outer s H vs Q E hr h => ?_)
  · obtain ⟨a, p, n, xs, rfl, _⟩ := h
    rfl
  · obtain ⟨a, p, n, xs, rfl, hs, l0, l1, hd, n0, n1, k⟩ := h
    refine ⟨_, pss_one (ps_ret (pe_ix ix_tup (pv 1) (pe_call GT hr rfl mT FT.kp bT .nil pass0 (pa_cons (pv 0) (pa_cons (pe_callB call_len_seq (by rfl) T.len boot_len (pa_cons (pv 1) pa_nil)) pa_nil))) (fun _ _ => rfl))), ?_⟩
    refine ⟨_, rfl, _, rfl, _, rfl, p, _, rfl, .inr (SqT.of hs), ?_⟩
    refine ⟨a, _, n, rfl, by omega, by omega, hd, n0, n1, fun r f s r0 r1 f0 s0 s1 => ?_⟩
    have hne : p ≠ a := by
      obtain ⟨_, _, h, _⟩ := hd
      exact ne_of hs h (by intro z; cases z)
    have hi : r.toNat < xs.length := by omega
    have er : (r.toNat : Int) = r := by omega
    obtain ⟨v, hx⟩ : ∃ v, xs[r.toNat]? = some v := ⟨_, List.getElem?_eq_getElem hi⟩
    have ha : atI xs r = some v := by
      have z := atI_nat hx
      rwa [er] at z
    exact ⟨p, xs, r, _, rfl, rfl, SqT.of (by rw [upd_ne hne]; exact hs), ha, k r.toNat _ f s hx f0 s0 s1⟩
/-- _law_purse(cells, at) -/
def spPurse (K : PySem.W.Frag) : Sp := fun vs H Q _ => ∃ (c : Addr) (ns : List Int) (i : Int), vs = [.ref c, .int i] ∧ SqL K H c (ns.map V.int) ∧ ns.length ≤ 63 ∧ 0 ≤ i ∧ i ≤ 3 ∧ ∀ H' p, Ex H H' → H p = none → Draws H' p 0 → Q (.ref p) H'
theorem scPu : FnScope ["cells", "at", "cell", "seed", "other"] ["cells", "at"] (defScope sPurse) := ⟨rfl, rfl, rfl, by decide +kernel, rfl, by decide +kernel, by decide +kernel⟩
theorem cut_ints {ns : List Int} {lo hi : Option Int} : ∀ x ∈ cutV (ns.map V.int) lo hi, ∃ n, x = V.int n := fun x h => by
  have h1 := List.mem_of_mem_drop (List.mem_of_mem_take h)
  obtain ⟨n, _, rfl⟩ := List.mem_map.mp h1
  exact ⟨n, rfl⟩
theorem ok_purse {f : Addr} {fd : FuncData} (F : Fun K "_law_purse" "_law_purse" sPurse f fd) (T : Txt P K mg C) : FnOk P w K mg base CX0 1 f fd ["cells", "at"] (spPurse K) := by
  refine F.ok scPu (fun vs H Q E h => ?_) (fun cdv A outer s H vs Q E hr h => ?_)
  · obtain ⟨c, ns, i, rfl, _⟩ := h
    rfl
  · obtain ⟨c, ns, i, rfl, hc, hl, i0, i1, k⟩ := h
    refine ⟨_, pss_cons (ps_set (i := 2) scPu.nd rfl (Or.inl rfl) (pe_ifExp (pt_cmpR op_lt (pv 1) (pe_callB call_len_seq (by rfl) T.len boot_len (pa_cons (pv 0) pa_nil)) (nomark _)) (pe_ix ix_list (pv 0) (pv 1) (fun _ _ => rfl)) pe_int))
      (pss_cons (ps_set (i := 3) scPu.nd rfl (Or.inl rfl) (pe_op op_mod (pe_callTy call_int1 (by rfl) T.int boot_int (pa_cons (pe_op op_add (pe_op op_add (pe_op op_mul (pv 2) pe_int) (pe_op op_mul (pv 1) pe_int)) pe_int) pa_nil)) pe_int))
      (pss_cons (ps_for PassesOwn.never rfl (pi_list (pe_ifExp (pt_cmpR op_ge (pv 1) (pe_callB call_len_seq (by rfl) T.len boot_len (pa_cons (pv 0) pa_nil)) (nomark _)) (pe_slice sl_list (pv 0) po_none (po_some pe_int)) (pe_lst pa_nil)))
        (pg_name (i := 4) scPu.nd rfl (Or.inl rfl))
        (pss_one (ps_set (i := 3) scPu.nd rfl (Or.inl rfl) (pe_op op_mod (pe_callTy call_int1 (by rfl) T.int boot_int (pa_cons (pe_op op_add (pe_op op_mul (pv 3) pe_int) (pv 4)) pa_nil)) pe_int))))
      (pss_one (ps_ret (pe_lst (pa_cons (pe_ifExp (pt_cmpR op_ge (pe_callB call_abs (by rfl) T.abs boot_abs (pa_cons (pv 2) pa_nil)) (pe_op op_pow pe_int pe_int) (nomark _))
        (pe_op op_mod (pe_callTy call_int1 (by rfl) T.int boot_int (pa_cons (pe_callB call_abs (by rfl) T.abs boot_abs (pa_cons (pv 2) pa_nil)) pa_nil)) (pe_op op_mulW (pe_op op_mulW (pe_op op_pow pe_int pe_int) (pe_op op_pow pe_int pe_int)) (pe_op op_pow pe_int pe_int))) pe_int)
        (pa_cons (pv 3) (pa_cons pe_int pa_nil)))))))), ?_⟩
    refine ⟨_, rfl, _, rfl, c, _, rfl, .inl hc, _, _, rfl, rfl, _, rfl, ?_⟩
    have len : ((ns.map V.int).length : Int) = ns.length := by rw [List.length_map]
    -- the rest, whatever cell is
    refine ite2 (fun cc => ?_) (fun cc => ?_)
    · have lt : i < (ns.map V.int).length := of_decide_eq_true cc
      obtain ⟨z, hz⟩ : ∃ z, ns[i.toNat]? = some z := ⟨_, List.getElem?_eq_getElem (by omega)⟩
      have hi : atI (ns.map V.int) i = some (.int z) := by
        have q := atI_nat (xs := ns.map V.int) (j := i.toNat) (v := .int z) (by rw [List.getElem?_map, hz]; rfl)
        rwa [show ((i.toNat : Nat) : Int) = i by omega] at q
      refine ⟨_, rfl, _, rfl, c, _, i, _, rfl, rfl, hc, hi, ?_⟩
      refine ⟨_, rfl, _, _, rfl, rfl, .inr ⟨by decide, by decide⟩, _, rfl, _, _, rfl, rfl, .inr ⟨by decide, by decide⟩, _, _, rfl, rfl, _, _, rfl, rfl, .inl ⟨_, rfl, _, _, rfl, rfl, (by show (0 : Int) < 2147483549; decide), ?_⟩⟩
      refine ⟨_, rfl, _, rfl, c, _, rfl, .inl hc, _, _, rfl, rfl, _, rfl, ?_⟩
      refine ite2 (fun _ => ?_) (fun _ => ?_)
      · refine ⟨_, rfl, 4, rfl, c, _, rfl, hc, fun p hp => ?_⟩
        have hL : ∀ x ∈ (cutV (ns.map V.int) none (some 4)), ∃ n, x = V.int n := cut_ints
        -- behind the loop
        have ex0 : Ex H (upd H p (.lst (cutV (ns.map V.int) none (some 4)))) := Evl.Ex.new hp
        refine ⟨p, rfl, ⟨(cutV (ns.map V.int) none (some 4)), .inl (.inl upd_same)⟩, for_list (K := K) (a := p) (xs := (cutV (ns.map V.int) none (some 4))) (fun j σ H2 => ∃ (zz s : Int) (o : Option V), σ = [some (.ref c), some (.int i), some (.int zz), some (.int s), o] ∧ 0 ≤ s ∧ s < 2147483549 ∧ Ex H H2 ∧ H2 p = some (.lst (cutV (ns.map V.int) none (some 4))))
          ⟨_, _, _, rfl, Int.emod_nonneg _ (by decide), Int.emod_lt_of_pos _ (by decide), ex0, upd_same⟩ (fun j σ H2 _ ⟨_, _, _, _, _, _, _, h⟩ => .inl (.inl h)) ?_ ?_⟩
        · rintro j x σ H2 hx ⟨zz, s, o, rfl, s0, s1, e2, h2⟩
          obtain ⟨n, rfl⟩ := hL x (List.mem_of_getElem? hx)
          refine ⟨_, rfl, _, _, rfl, rfl, .inr ⟨by decide, by decide⟩, _, rfl, _, _, rfl, rfl, .inl ⟨_, rfl, _, _, rfl, rfl, (by show (0 : Int) < 2147483549; decide), ?_⟩⟩
          exact ⟨_, _, _, rfl, Int.emod_nonneg _ (by decide), Int.emod_lt_of_pos _ (by decide), e2, h2⟩
        · rintro σ H2 ⟨zz, s, o, rfl, s0, s1, e2, h2⟩
          refine ⟨_, rfl, _, rfl, _, _, rfl, rfl, ⟨by decide, by decide, by decide⟩, _, _, rfl, rfl, _, rfl, ?_⟩
          refine ite2 (fun _ => ?_) (fun _ => ?_)
          · refine ⟨_, rfl, _, rfl, .inl ⟨_, rfl, _, _, rfl, rfl, ⟨by decide, by decide, by decide⟩, _, _, rfl, rfl, ⟨by decide, by decide, by decide⟩, _, _, rfl, rfl, wide_mul (a := 300) (b := 300) (by decide) (by decide) (by decide) (by decide) (by decide), _, _, rfl, rfl, ⟨by decide, by decide, by decide⟩, _, _, rfl, rfl, wide_mul (a := 600) (b := 300) (by decide) (by decide) (by decide) (by decide) (by decide), _, _, rfl, rfl, (by show (0 : Int) < 10 ^ Int.toNat 64 * 10 ^ Int.toNat 64 * 10 ^ Int.toNat 64; decide), ?_⟩⟩
            refine ⟨_, rfl, (by show 3 ≤ sizeLine; decide), fun q hq => ?_⟩
            exact k _ q (e2.trans (Evl.Ex.new hq)) (Evl.fresh_back e2 hq) ⟨_, s, upd_same, Int.emod_nonneg _ (by decide), s0, s1⟩
          · refine ⟨_, rfl, (by show 3 ≤ sizeLine; decide), fun q hq => ?_⟩
            exact k _ q (e2.trans (Evl.Ex.new hq)) (Evl.fresh_back e2 hq) ⟨0, s, upd_same, by decide, s0, s1⟩
      · refine ⟨(by show 0 ≤ sizeLine; decide), fun p hp => ?_⟩
        have hL : ∀ x ∈ ([] : List V), ∃ n, x = V.int n := by intro x hx; cases hx
        -- behind the loop
        have ex0 : Ex H (upd H p (.lst ([] : List V))) := Evl.Ex.new hp
        refine ⟨p, rfl, ⟨([] : List V), .inl (.inl upd_same)⟩, for_list (K := K) (a := p) (xs := ([] : List V)) (fun j σ H2 => ∃ (zz s : Int) (o : Option V), σ = [some (.ref c), some (.int i), some (.int zz), some (.int s), o] ∧ 0 ≤ s ∧ s < 2147483549 ∧ Ex H H2 ∧ H2 p = some (.lst ([] : List V)))
          ⟨_, _, _, rfl, Int.emod_nonneg _ (by decide), Int.emod_lt_of_pos _ (by decide), ex0, upd_same⟩ (fun j σ H2 _ ⟨_, _, _, _, _, _, _, h⟩ => .inl (.inl h)) ?_ ?_⟩
        · rintro j x σ H2 hx ⟨zz, s, o, rfl, s0, s1, e2, h2⟩
          obtain ⟨n, rfl⟩ := hL x (List.mem_of_getElem? hx)
          refine ⟨_, rfl, _, _, rfl, rfl, .inr ⟨by decide, by decide⟩, _, rfl, _, _, rfl, rfl, .inl ⟨_, rfl, _, _, rfl, rfl, (by show (0 : Int) < 2147483549; decide), ?_⟩⟩
          exact ⟨_, _, _, rfl, Int.emod_nonneg _ (by decide), Int.emod_lt_of_pos _ (by decide), e2, h2⟩
        · rintro σ H2 ⟨zz, s, o, rfl, s0, s1, e2, h2⟩
          refine ⟨_, rfl, _, rfl, _, _, rfl, rfl, ⟨by decide, by decide, by decide⟩, _, _, rfl, rfl, _, rfl, ?_⟩
          refine ite2 (fun _ => ?_) (fun _ => ?_)
          · refine ⟨_, rfl, _, rfl, .inl ⟨_, rfl, _, _, rfl, rfl, ⟨by decide, by decide, by decide⟩, _, _, rfl, rfl, ⟨by decide, by decide, by decide⟩, _, _, rfl, rfl, wide_mul (a := 300) (b := 300) (by decide) (by decide) (by decide) (by decide) (by decide), _, _, rfl, rfl, ⟨by decide, by decide, by decide⟩, _, _, rfl, rfl, wide_mul (a := 600) (b := 300) (by decide) (by decide) (by decide) (by decide) (by decide), _, _, rfl, rfl, (by show (0 : Int) < 10 ^ Int.toNat 64 * 10 ^ Int.toNat 64 * 10 ^ Int.toNat 64; decide), ?_⟩⟩
            refine ⟨_, rfl, (by show 3 ≤ sizeLine; decide), fun q hq => ?_⟩
            exact k _ q (e2.trans (Evl.Ex.new hq)) (Evl.fresh_back e2 hq) ⟨_, s, upd_same, Int.emod_nonneg _ (by decide), s0, s1⟩
          · refine ⟨_, rfl, (by show 3 ≤ sizeLine; decide), fun q hq => ?_⟩
            exact k _ q (e2.trans (Evl.Ex.new hq)) (Evl.fresh_back e2 hq) ⟨0, s, upd_same, by decide, s0, s1⟩
    · refine ⟨_, rfl, _, _, rfl, rfl, .inr ⟨by decide, by decide⟩, _, rfl, _, _, rfl, rfl, .inr ⟨by decide, by decide⟩, _, _, rfl, rfl, _, _, rfl, rfl, .inl ⟨_, rfl, _, _, rfl, rfl, (by show (0 : Int) < 2147483549; decide), ?_⟩⟩
      refine ⟨_, rfl, _, rfl, c, _, rfl, .inl hc, _, _, rfl, rfl, _, rfl, ?_⟩
      refine ite2 (fun _ => ?_) (fun _ => ?_)
      · refine ⟨_, rfl, 4, rfl, c, _, rfl, hc, fun p hp => ?_⟩
        have hL : ∀ x ∈ (cutV (ns.map V.int) none (some 4)), ∃ n, x = V.int n := cut_ints
        -- behind the loop
        have ex0 : Ex H (upd H p (.lst (cutV (ns.map V.int) none (some 4)))) := Evl.Ex.new hp
        refine ⟨p, rfl, ⟨(cutV (ns.map V.int) none (some 4)), .inl (.inl upd_same)⟩, for_list (K := K) (a := p) (xs := (cutV (ns.map V.int) none (some 4))) (fun j σ H2 => ∃ (zz s : Int) (o : Option V), σ = [some (.ref c), some (.int i), some (.int zz), some (.int s), o] ∧ 0 ≤ s ∧ s < 2147483549 ∧ Ex H H2 ∧ H2 p = some (.lst (cutV (ns.map V.int) none (some 4))))
          ⟨_, _, _, rfl, Int.emod_nonneg _ (by decide), Int.emod_lt_of_pos _ (by decide), ex0, upd_same⟩ (fun j σ H2 _ ⟨_, _, _, _, _, _, _, h⟩ => .inl (.inl h)) ?_ ?_⟩
        · rintro j x σ H2 hx ⟨zz, s, o, rfl, s0, s1, e2, h2⟩
          obtain ⟨n, rfl⟩ := hL x (List.mem_of_getElem? hx)
          refine ⟨_, rfl, _, _, rfl, rfl, .inr ⟨by decide, by decide⟩, _, rfl, _, _, rfl, rfl, .inl ⟨_, rfl, _, _, rfl, rfl, (by show (0 : Int) < 2147483549; decide), ?_⟩⟩
          exact ⟨_, _, _, rfl, Int.emod_nonneg _ (by decide), Int.emod_lt_of_pos _ (by decide), e2, h2⟩
        · rintro σ H2 ⟨zz, s, o, rfl, s0, s1, e2, h2⟩
          refine ⟨_, rfl, _, rfl, _, _, rfl, rfl, ⟨by decide, by decide, by decide⟩, _, _, rfl, rfl, _, rfl, ?_⟩
          refine ite2 (fun _ => ?_) (fun _ => ?_)
          · refine ⟨_, rfl, _, rfl, .inl ⟨_, rfl, _, _, rfl, rfl, ⟨by decide, by decide, by decide⟩, _, _, rfl, rfl, ⟨by decide, by decide, by decide⟩, _, _, rfl, rfl, wide_mul (a := 300) (b := 300) (by decide) (by decide) (by decide) (by decide) (by decide), _, _, rfl, rfl, ⟨by decide, by decide, by decide⟩, _, _, rfl, rfl, wide_mul (a := 600) (b := 300) (by decide) (by decide) (by decide) (by decide) (by decide), _, _, rfl, rfl, (by show (0 : Int) < 10 ^ Int.toNat 64 * 10 ^ Int.toNat 64 * 10 ^ Int.toNat 64; decide), ?_⟩⟩
            refine ⟨_, rfl, (by show 3 ≤ sizeLine; decide), fun q hq => ?_⟩
            exact k _ q (e2.trans (Evl.Ex.new hq)) (Evl.fresh_back e2 hq) ⟨_, s, upd_same, Int.emod_nonneg _ (by decide), s0, s1⟩
          · refine ⟨_, rfl, (by show 3 ≤ sizeLine; decide), fun q hq => ?_⟩
            exact k _ q (e2.trans (Evl.Ex.new hq)) (Evl.fresh_back e2 hq) ⟨0, s, upd_same, by decide, s0, s1⟩
      · refine ⟨(by show 0 ≤ sizeLine; decide), fun p hp => ?_⟩
        have hL : ∀ x ∈ ([] : List V), ∃ n, x = V.int n := by intro x hx; cases hx
        -- behind the loop
        have ex0 : Ex H (upd H p (.lst ([] : List V))) := Evl.Ex.new hp
        refine ⟨p, rfl, ⟨([] : List V), .inl (.inl upd_same)⟩, for_list (K := K) (a := p) (xs := ([] : List V)) (fun j σ H2 => ∃ (zz s : Int) (o : Option V), σ = [some (.ref c), some (.int i), some (.int zz), some (.int s), o] ∧ 0 ≤ s ∧ s < 2147483549 ∧ Ex H H2 ∧ H2 p = some (.lst ([] : List V)))
          ⟨_, _, _, rfl, Int.emod_nonneg _ (by decide), Int.emod_lt_of_pos _ (by decide), ex0, upd_same⟩ (fun j σ H2 _ ⟨_, _, _, _, _, _, _, h⟩ => .inl (.inl h)) ?_ ?_⟩
        · rintro j x σ H2 hx ⟨zz, s, o, rfl, s0, s1, e2, h2⟩
          obtain ⟨n, rfl⟩ := hL x (List.mem_of_getElem? hx)
          refine ⟨_, rfl, _, _, rfl, rfl, .inr ⟨by decide, by decide⟩, _, rfl, _, _, rfl, rfl, .inl ⟨_, rfl, _, _, rfl, rfl, (by show (0 : Int) < 2147483549; decide), ?_⟩⟩
          exact ⟨_, _, _, rfl, Int.emod_nonneg _ (by decide), Int.emod_lt_of_pos _ (by decide), e2, h2⟩
        · rintro σ H2 ⟨zz, s, o, rfl, s0, s1, e2, h2⟩
          refine ⟨_, rfl, _, rfl, _, _, rfl, rfl, ⟨by decide, by decide, by decide⟩, _, _, rfl, rfl, _, rfl, ?_⟩
          refine ite2 (fun _ => ?_) (fun _ => ?_)
          · refine ⟨_, rfl, _, rfl, .inl ⟨_, rfl, _, _, rfl, rfl, ⟨by decide, by decide, by decide⟩, _, _, rfl, rfl, ⟨by decide, by decide, by decide⟩, _, _, rfl, rfl, wide_mul (a := 300) (b := 300) (by decide) (by decide) (by decide) (by decide) (by decide), _, _, rfl, rfl, ⟨by decide, by decide, by decide⟩, _, _, rfl, rfl, wide_mul (a := 600) (b := 300) (by decide) (by decide) (by decide) (by decide) (by decide), _, _, rfl, rfl, (by show (0 : Int) < 10 ^ Int.toNat 64 * 10 ^ Int.toNat 64 * 10 ^ Int.toNat 64; decide), ?_⟩⟩
            refine ⟨_, rfl, (by show 3 ≤ sizeLine; decide), fun q hq => ?_⟩
            exact k _ q (e2.trans (Evl.Ex.new hq)) (Evl.fresh_back e2 hq) ⟨_, s, upd_same, Int.emod_nonneg _ (by decide), s0, s1⟩
          · refine ⟨_, rfl, (by show 3 ≤ sizeLine; decide), fun q hq => ?_⟩
            exact k _ q (e2.trans (Evl.Ex.new hq)) (Evl.fresh_back e2 hq) ⟨0, s, upd_same, by decide, s0, s1⟩
end
end K01
end
section
/-! raise C(..) of such errors; a def called in the suite upon the error, whatever its class. -/
namespace Exv
open PySem PySem.Spec PyProof.Rows L2 SupX
section
variable {X : Cx} {x p : Str} {C : Addr} {q pos kp kp2 : Pos} {a b : Expr} {ta : TA}
theorem mkP_of {pins : List (Addr × Obj)} {σ : L2.St} {H : Hp} {s : Shared} {h' : Heap} {tk : Nat} {e d : Addr} {m : Str → Option Value} {gs : List (Str × V)} {Q : XK} (I : Inv X pins σ H s) (M : Made s.heap h' e C d m) (hm : ∀ f, RelO (gs.lookup f) (m f)) (r : Raises X (.ref C))
    (k : Q (.ref C) (some d) (upd H d (.xd gs))) : MkP X pins σ Q (.ref e) { s with heap := h', toks := tk } := by
  obtain ⟨t, he⟩ := M.obj
  obtain ⟨G, g1, g2⟩ := restrict h' fun y => decide (y ≠ e)
  have ge : G.get? e = none := g2 e (by simp)
  have gk : ∀ y, y ≠ e → G.get? y = h'.get? y := fun y hy => g1 y (decide_eq_true hy)
  have old : ∀ y o, s.heap.get? y = some o → G.get? y = some o := fun y o z => (gk y (Nat.ne_of_lt (Nat.lt_of_lt_of_le (Heap.lt_size z) M.new))).trans (M.keep y o z)
  have ob : ObjOk X.prog X.w (upd H d (.xd gs)) G d (.xd gs) := ⟨m, M.ns.at (fun o z => (gk d M.dne).trans z), hm⟩
  have J : Inv X pins σ (upd H d (.xd gs)) ⟨G, s.gens, s.drawn, tk, s.os⟩ := I.laid (t' := tk) old M.dbig ob
  refine ⟨e, _, _, ⟨G, s.gens, s.drawn, tk, s.os⟩, _, .ref C, some d, rfl, J, fun y o z => ?_, ge, he, ⟨rfl, rfl⟩, rfl, rfl, ?_, rfl, I.bare, r, k⟩
  · by_cases hy : y = e
    · have z' : G.get? y = some o := z
      rw [hy, ge] at z'
      cases z'
    · exact (gk y hy).symm.trans z
  · rw [upd_ne (Ne.symm M.dne)]
    exact I.hok.fresh M.new
def tPk1 (C : Addr) (p : Str) (ta : TA) : L2.St → Hp → XK → Prop := fun σ H Q => ta σ H fun vs H1 => ∃ v, vs = [v] ∧ ∀ d, H1 d = none → Q (.ref C) (some d) (upd H1 d (.xd [(p, v)]))
def tPk2 (C : Addr) (ta : TA) : L2.St → Hp → XK → Prop := fun σ H Q => ta σ H fun vs H1 => ∃ v v2, vs = [v, v2] ∧ ∀ d, H1 d = none → Q (.ref C) (some d) (upd H1 d (.xd [("row", v), ("word", v2)]))
theorem pk1_run (S : Sup1 X.prog X.K X.mg x p C) (G : SupG X.prog X.mg) (rs : Raises X (.ref C)) (hd : X.A.depth + 1 < recursionLimit) {pins : List (Addr × Obj)} {σ : L2.St} {H : Hp} {s : Shared} {Q : XK} {v : V} {u : Value} (I : Inv X pins σ H s) (r : RelV v u)
    (k : ∀ d, H d = none → Q (.ref C) (some d) (upd H d (.xd [(p, v)]))) :
    wpAny (model X.prog X.w) X.A (call (.ref C) [u] []) (MkP X pins σ Q) X.xe s ∧ wpAny (model X.prog X.w) X.A (call (.ref C) [] [(p, u)]) (MkP X pins σ Q) X.xe s := by
  obtain ⟨fI, cc, cda, qual, fd, T, J, bp, bk⟩ := S.ex
  obtain ⟨mb, hb, hbb⟩ := I.mod.blt
  have hmb : mb "super" = some (.type "super") := (hbb _ (by decide)).trans boot_super
  have fin : ∀ h' tk e d, Made s.heap h' e C d (fun y => if y = p then some u else none) → MkP X pins σ Q (.ref e) { s with heap := h', toks := tk } := fun h' tk e d M =>
    mkP_of (tk := tk) I M (gs := [(p, v)]) (relO_1 r) rs (k d (I.hok.fresh M.dbig))
  exact ⟨wpAny_call (made1 T J S.no (v := u) (vs := [u]) (kw := []) (by show 1 ≤ sizeLine; rw [sizeLine_eq]; omega) I.kIn (I.mod.glob.keeps I.bk) G.su (hb.keeps I.bk) hmb G.top I.nolimit hd (fun s y => bp s y u) fin),
    wpAny_call (made1 T J S.no (v := u) (vs := []) (kw := [(p, u)]) (Nat.zero_le _) I.kIn (I.mod.glob.keeps I.bk) G.su (hb.keeps I.bk) hmb G.top I.nolimit hd (fun s y => bk s y u) fin)⟩
theorem pk1 (S : Sup1 X.prog X.K X.mg x p C) (G : SupG X.prog X.mg) (rs : Raises X (.ref C)) (hd : X.A.depth + 1 < recursionLimit) (ha : PA X [a] ta) (hg : Gl X x := by rfl) (hdg : (x == ("__debug__" : Str)) = false := by decide)
    (he : starEach [a] X.env = (false, eval a X.env) :: starEach [] X.env := by rfl) (hnos : (backTo pos (starEach [] X.env)).any (·.1) = false := by rfl) : PMk X (.Call (.Name x q) [a] [] pos) (tPk1 C p ta) := by
  intro pins s σ H Q I h
  refine wpAny_Call_Name_kw (ld_glob I hg S.gC ?_ hdg)
  refine PySem.W.callWith_K (h₀ := X.base) I.ok.mod.kin S.kC (thn (ha.run pos pins s σ H _ I h) fun us s1 hh => ?_) he hnos
  obtain ⟨vs, H1, I1, r1, v, ev, k⟩ := hh
  subst ev
  obtain ⟨u, rfl, r⟩ := vals1 r1
  exact ⟨I1.kIn, (pk1_run S G rs hd I1 r k).1⟩
theorem pk1k (S : Sup1 X.prog X.K X.mg x p C) (G : SupG X.prog X.mg) (rs : Raises X (.ref C)) (hd : X.A.depth + 1 < recursionLimit) (ha : PK X [⟨some p, a, kp⟩] ta) (hg : Gl X x := by rfl) (hdg : (x == ("__debug__" : Str)) = false := by decide)
    (hall : (backToKw pos (keywordEach [⟨some p, a, kp⟩] X.env)).all (·.1.isSome) = true := by rfl) (hks : (backToKw pos (keywordEach [⟨some p, a, kp⟩] X.env)).filterMap (·.1) = [p] := by rfl)
    (hnos : ((backTo pos (starEach [] X.env)).any (·.1) || (backToKw pos (keywordEach [⟨some p, a, kp⟩] X.env)).any (·.1.isNone)) = false := by rfl) : PMk X (.Call (.Name x q) [] [⟨some p, a, kp⟩] pos) (tPk1 C p ta) := by
  intro pins s σ H Q I h
  refine wpAny_Call_Name_kw (ld_glob I hg S.gC ?_ hdg)
  refine PySem.W.callWith_KW0 (h₀ := X.base) I.ok.mod.kin S.kC hall (thn (ha.run pos pins s σ H _ I h) fun us s1 hh => ?_) hnos
  obtain ⟨vs, H1, I1, r1, v, ev, k⟩ := hh
  subst ev
  obtain ⟨u, rfl, r⟩ := vals1 r1
  rw [hks]
  exact ⟨I1.kIn, (pk1_run S G rs hd I1 r k).2⟩
theorem pk2k (S : Sup2 X.prog X.K X.mg x C) (G : SupG X.prog X.mg) (rs : Raises X (.ref C)) (hd : X.A.depth + 1 < recursionLimit) (ha : PK X [⟨some "row", a, kp⟩, ⟨some "word", b, kp2⟩] ta) (hg : Gl X x := by rfl) (hdg : (x == ("__debug__" : Str)) = false := by decide)
    (hall : (backToKw pos (keywordEach [⟨some "row", a, kp⟩, ⟨some "word", b, kp2⟩] X.env)).all (·.1.isSome) = true := by rfl) (hks : (backToKw pos (keywordEach [⟨some "row", a, kp⟩, ⟨some "word", b, kp2⟩] X.env)).filterMap (·.1) = (["row", "word"] : List Str) := by rfl)
    (hnos : ((backTo pos (starEach [] X.env)).any (·.1) || (backToKw pos (keywordEach [⟨some "row", a, kp⟩, ⟨some "word", b, kp2⟩] X.env)).any (·.1.isNone)) = false := by rfl) : PMk X (.Call (.Name x q) [] [⟨some "row", a, kp⟩, ⟨some "word", b, kp2⟩] pos) (tPk2 C ta) := by
  intro pins s σ H Q I h
  refine wpAny_Call_Name_kw (ld_glob I hg S.gC ?_ hdg)
  refine PySem.W.callWith_KW0 (h₀ := X.base) I.ok.mod.kin S.kC hall (thn (ha.run pos pins s σ H _ I h) fun us s1 hh => ?_) hnos
  obtain ⟨vs, H1, I1, r1, v, v2, ev, k⟩ := hh
  subst ev
  obtain ⟨u, u2, rfl, r, r2⟩ := vals2 r1
  rw [hks]
  obtain ⟨fI, cc, cda, qual, fd, T, J, bp, bk⟩ := S.ex
  obtain ⟨mb, hb, hbb⟩ := I1.mod.blt
  have hmb : mb "super" = some (.type "super") := (hbb _ (by decide)).trans boot_super
  exact ⟨I1.kIn, wpAny_call (made2 T J S.no S.no2 (v := u) (v2 := u2) (vs := []) (kw := [("row", u), ("word", u2)]) (Nat.zero_le _) I1.kIn (I1.mod.glob.keeps I1.bk) G.su (hb.keeps I1.bk) hmb G.top I1.nolimit hd (fun s y => bk s y u u2) fun h' tk e d M =>
    mkP_of (tk := tk) I1 M (gs := [("row", v), ("word", v2)]) (relO_2 r r2) rs (k d (I1.hok.fresh M.dbig)))⟩
theorem pk0 (S : Sup0 X.K X.mg x C) (rs : Raises X (.ref C)) (hg : Gl X x := by rfl) (hdg : (x == ("__debug__" : Str)) = false := by decide) : PMk X (.Call (.Name x q) [] [] pos) (fun _ H Q => Q (.ref C) none H) := by
  intro pins s σ H Q I h
  refine wpAny_Call_Name_kw (ld_glob I hg S.gC ?_ hdg)
  refine PySem.W.callWith_K0 I.kIn S.kC ?_
  obtain ⟨bm, N, nm, qn, bs, hdct, sn, sub, ab, col, dd, k0, k1, k2, k3, k5, mN, hC, hN, hni, T⟩ := exc_obj I.kIn S.ex
  show wpAny _ _ (call (.ref C) []) _ _ _
  obtain ⟨hp, g, dr, tk, os⟩ := s
  exact wpAny_call_exc_subT F.excBase_ValueError T hC hN hni (fun h' e hm => mk_of I hm rs h (I.hok.gone hm.new)) (Nat.zero_le _)
end
section
variable {X : Cx} {k : Nat} {f : Addr} {fd : FuncData} {ps : List Str} {Cs : Nat → Addr} {spf : Nat → Addr → Option Addr → Sp} {E : XK} {x : Str} {p pos : Pos} {e : Expr} {es : List Expr} {t : TA} {a : Addr} {oe : Obj} {cls : Value} {d : Option Addr}
/-- a def called upon the handled error, whatever its class cls: the reading says which it is -/
def tHp (Cs : Nat → Addr) (cls : Value) (a : Addr) (d : Option Addr) (spf : Nat → Addr → Option Addr → Sp) (E : XK) (t : TA) : TE := fun σ H Q => t σ H fun vs H1 => ∃ i, i ≤ 24 ∧ cls = .ref (Cs i) ∧ spf i a d vs H1 Q E
theorem pe_callHpF (F : ∀ i, i ≤ 24 → ∀ a d, FnHp X.prog X.w X.K X.mg X.base k f fd ps (PinX (Cs i) d a) (spf i a d)) (hp : (a, oe) ∈ X.pn) (hz : Zc cls d oe) (hf : ∃ vs, oe.data = .fields vs) (hr : L2H.RoomH k X.A) (hg : Gl X x) (hm : X.mg x = some (.ref f)) (hk : PySem.W.keepIn X.K (.ref f) = true) (hb : Binds X.K fd ps [])
    (ha : PA X (e :: es) t) (hdg : (x == ("__debug__" : Str)) = false := by decide) (he : starEach (e :: es) X.env = (false, eval e X.env) :: starEach es X.env := by rfl) (hnos : (backTo pos (starEach es X.env)).any (·.1) = false := by rfl) :
    PE X (.Call (.Name x p) (e :: es) [] pos) (tHp Cs cls a d spf E t) := by
  refine ⟨fun pins s σ H Q I h => wpAny_Call_Name_kw (ld_glob I hg hm ?_ hdg)⟩
  refine PySem.W.callWith_K (h₀ := X.base) I.ok.mod.kin hk (thn (ha.run pos pins s σ H _ I h) fun us s1 ⟨vs, H1, I1, r, q⟩ => ⟨I1.kIn, ?_⟩) he hnos
  obtain ⟨i, hi, rfl, q⟩ := q
  have G := F i hi a d
  have bd := hb s1 us I1.kIn (by rw [List.append_nil, ← r.length]; exact G.len _ _ _ _ q)
  rw [List.append_nil] at bd
  have P1 := I1.pin (a, oe) (List.mem_append_left _ hp)
  have hpin : L2H.PinOk X.stack H1 s1 (a, oe) := ⟨P1.1, P1.2.1, fun hm => (List.mem_cons.mp (I1.stkSub a hm)).elim P1.2.2.1 P1.2.2.2.1, P1.2.2.2.2⟩
  refine wpAny_call (codeAny_mono (G.run X.A X.stack s1 H1 ⟨us, []⟩ us vs Q E (a, oe) hr hpin ⟨rfl, hz.1, hz.2, hf⟩ I1.env0 bd r q) fun r' s' hq => ?_)
  cases r' with
  | error _ => exact hq.elim
  | ok fl =>
    cases fl with
    | ret u => exact I1.after hq
    | _ => exact False.elim hq
end
end Exv
end
section
namespace K01
open PySem PySem.Spec PyProof.Rows L2 Exv
theorem scCa : FnScope ["way", "thing", "e"] ["way", "thing"] (defScope sCaught) := ⟨rfl, rfl, rfl, by decide +kernel, rfl, by decide +kernel, by decide +kernel⟩
/-- _law_is_caught(way, thing) -/
def spCaught : Sp := fun vs H Q _ => ∃ (n : Int) (t : V), vs = [.int n, t] ∧ 0 ≤ n ∧ n ≤ 4 ∧ ∀ H', Ex H H' → Q (.bl true) H'
/-- return _law_kinds(e)[(0, 16, 17, 19, 20)[way]] and _law_is_plain(e) -/
def t_suite (K : PySem.W.Frag) (C : Nat → Addr) : Addr → Value → Option Addr → TS := fun a cls d =>
  tRet (tAndV (tOp (rIxL K) (tHp C cls a d spKindsP E0 (tCons (tVar 2) tNil)) (tOp (rIxT K) (tTup (tCons (tC (.int 0)) (tCons (tC (.int 16)) (tCons (tC (.int 17)) (tCons (tC (.int 19)) (tCons (tC (.int 20)) tNil)))))) (tVar 0)))
    (tHp C cls a d (fun _ => spPlainP) E0 (tCons (tVar 2) tNil)))
section
variable {P : Program} {w : World} {K : PySem.W.Frag} {mg : Str → Option Value} {base : Heap} {C : Nat → Addr}
theorem int_no {x y : Int} (h : x ≠ y) {A B : Prop} (k : B) : if decide ((V.int x : V) = V.int y) = true then A else B := by
  rw [decide_eq_false (fun z => h (V.int.inj z)), if_neg Bool.false_ne_true]
  exact k
theorem int_yes {x : Int} {A B : Prop} (k : A) : if decide ((V.int x : V) = V.int x) = true then A else B := by
  rw [decide_eq_true rfl, if_pos rfl]
  exact k
theorem suite_ok {a : Addr} {d : Option Addr} {D : Ends} {n : Int} {i : Nat} {t : V} {H : Hp} (hi : i ≤ 24) (hn : atI [V.int 0, V.int 16, V.int 17, V.int 19, V.int 20] n = some (.int i)) (hk : atI (kindsOf i) (i : Int) = some (.bl true)) (dx : DictX d H)
    (k : ∀ H', Ex H H' → D.rt (.bl true) H') : t_suite K C a (.ref (C i)) d D [some (.int n), some t, some (.ref a)] H := by
  refine ⟨_, rfl, i, hi, rfl, rfl, dx, fun H1 p e1 hp => ?_⟩
  refine ⟨(by show 5 ≤ sizeLine; decide), fun tp ht => ⟨_, rfl, tp, _, n, _, rfl, rfl, SqT.of upd_same, hn, p, _, i, _, rfl, rfl, SqL.of (by rw [upd_ne (ne_of_none hp ht)]; exact hp), hk, true, rfl, ?_⟩⟩
  refine iteT ?_
  have e2 : Ex H (upd H1 tp (.tup [V.int 0, V.int 16, V.int 17, V.int 19, V.int 20])) := e1.trans (Evl.Ex.new ht)
  exact ⟨_, rfl, i, hi, rfl, rfl, dictX_ex dx _ e2, fun H' e => k H' (e2.trans e)⟩
theorem ok_caught {f fK fP : Addr} {fd fdK fdP : FuncData} (F : Fun K "_law_is_caught" "_law_is_caught" sCaught f fd) (T : Txt P K mg C) (FK : Fun K "_law_kinds" "_law_kinds" sKinds fK fdK) (mK : mg "_law_kinds" = some (.ref fK)) (bK : Binds K fdK ["e"] [])
    (FP : Fun K "_law_is_plain" "_law_is_plain" sPlain fP fdP) (mP : mg "_law_is_plain" = some (.ref fP)) (bP : Binds K fdP ["e"] []) : FnOk P w K mg base CX0 2 f fd ["way", "thing"] spCaught := by
  have GK : ∀ i, i ≤ 24 → ∀ a d, FnHp P w K mg base 1 fK fdK ["e"] (PinX (C i) d a) (spKindsP i a d) := fun i hi a d => ok_kindsP FK T hi a d
  have GP : ∀ i, i ≤ 24 → ∀ a d, FnHp P w K mg base 1 fP fdP ["e"] (PinX (C i) d a) (spPlainP a d) := fun i hi a d => ok_plainP FP T hi a d
  refine F.ok scCa (fun vs H Q E h => ?_) (fun cdv A outer s H vs Q E hr h => ?_)
  · obtain ⟨n, t, rfl, _⟩ := h
    rfl
  · obtain ⟨n, t, rfl, n0, n1, k⟩ := h
    have hd : (A.deeper (envOfC "_law_is_caught" (defScope sCaught) s.heap.objs.size f cdv)).depth + 1 < recursionLimit := by have := hr.dp; omega
    have rh : L2H.RoomH 1 (A.deeper (envOfC "_law_is_caught" (defScope sCaught) s.heap.objs.size f cdv)) := ⟨hr.dp, hr.un⟩
    refine ⟨_, pss_cons (ps_try_as (i := 2) (ts := t_suite K C) (Wout := fun _ _ _ _ => False) rfl rfl scCa.nd rfl rfl ⟨rfl, by decide, Or.inl T.s24.gC⟩ takes0
      (fun W pn xe tk _ => pss_cons (ps_if (pt_cmpR op_eq (pv 0) pe_int (nomark _)) (pss_one (ps_raise rfl tk (pk1 T.s0 T.sg (raises_own (T.ek 0 (by decide)).hs (T.ty 0 (by decide))) hd (pa_cons (pv 1) pa_nil)))) pss_nil)
        (pss_cons (ps_if (pt_cmpR op_eq (pv 0) pe_int (nomark _)) (pss_one (ps_raise rfl tk (pk2k T.s16 T.sg (raises_own (T.ek 16 (by decide)).hs (T.ty 16 (by decide))) hd (pk_cons (pv 1) (pk_cons pe_int pk_nil))))) pss_nil)
        (pss_cons (ps_if (pt_cmpR op_eq (pv 0) pe_int (nomark _)) (pss_one (ps_raise rfl tk (pk1 T.s17 T.sg (raises_own (T.ek 17 (by decide)).hs (T.ty 17 (by decide))) hd (pa_cons (pv 1) pa_nil)))) pss_nil)
        (pss_cons (ps_if (pt_cmpR op_eq (pv 0) pe_int (nomark _)) (pss_one (ps_raise rfl tk (pk1k T.s19 T.sg (raises_own (T.ek 19 (by decide)).hs (T.ty 19 (by decide))) hd (pk_cons (pv 1) pk_nil)))) pss_nil)
        (pss_one (ps_raise rfl tk (pk0 T.s20 (raises_own (T.ek 20 (by decide)).hs (T.ty 20 (by decide))))))))))
      (fun a oe cls d pn hz hf => pss_one (ps_ret (pe_and (pe_ix ix_list (pe_callHpF (Cs := C) (spf := spKindsP) (E := E0) GK (.head _) hz hf ⟨rh.dp, rh.un⟩ rfl mK FK.kp bK (pa_cons (pv 2) pa_nil)) (pe_ix ix_tup (pe_tup (pa_cons pe_int (pa_cons pe_int (pa_cons pe_int (pa_cons pe_int (pa_cons pe_int pa_nil)))))) (pv 0) (fun _ _ => rfl)) (fun _ _ => rfl))
        (pe_one (pe_callHpF (Cs := C) (spf := fun _ => spPlainP) (E := E0) GP (.head _) hz hf ⟨rh.dp, rh.un⟩ rfl mP FP.kp bP (pa_cons (pv 2) pa_nil)))))))
      (pss_one (ps_ret pe_bl)), ?_⟩
    have cases5 : n = 0 ∨ n = 1 ∨ n = 2 ∨ n = 3 ∨ n = 4 := by omega
    rcases cases5 with rfl | rfl | rfl | rfl | rfl
    · refine ⟨_, rfl, rfl, _, rfl, int_yes ?_⟩
      refine ⟨_, rfl, t, rfl, fun d hd => ⟨true, T.kx 0 (by decide), fun _ a ha => ?_, fun q => Bool.noConfusion q⟩⟩
      exact suite_ok (i := 0) (by decide) rfl rfl ⟨_, upd_same⟩ fun H' e => k H' ((Evl.Ex.new hd).trans e)
    · refine ⟨_, rfl, rfl, _, rfl, int_no (by decide) ?_⟩
      refine ⟨_, rfl, rfl, _, rfl, int_yes ?_⟩
      refine ⟨_, rfl, t, _, rfl, fun d hd => ⟨true, T.kx 16 (by decide), fun _ a ha => ?_, fun q => Bool.noConfusion q⟩⟩
      exact suite_ok (i := 16) (by decide) rfl rfl ⟨_, upd_same⟩ fun H' e => k H' ((Evl.Ex.new hd).trans e)
    · refine ⟨_, rfl, rfl, _, rfl, int_no (by decide) ?_⟩
      refine ⟨_, rfl, rfl, _, rfl, int_no (by decide) ?_⟩
      refine ⟨_, rfl, rfl, _, rfl, int_yes ?_⟩
      refine ⟨_, rfl, t, rfl, fun d hd => ⟨true, T.kx 17 (by decide), fun _ a ha => ?_, fun q => Bool.noConfusion q⟩⟩
      exact suite_ok (i := 17) (by decide) rfl rfl ⟨_, upd_same⟩ fun H' e => k H' ((Evl.Ex.new hd).trans e)
    · refine ⟨_, rfl, rfl, _, rfl, int_no (by decide) ?_⟩
      refine ⟨_, rfl, rfl, _, rfl, int_no (by decide) ?_⟩
      refine ⟨_, rfl, rfl, _, rfl, int_no (by decide) ?_⟩
      refine ⟨_, rfl, rfl, _, rfl, int_yes ?_⟩
      refine ⟨_, rfl, t, rfl, fun d hd => ⟨true, T.kx 19 (by decide), fun _ a ha => ?_, fun q => Bool.noConfusion q⟩⟩
      exact suite_ok (i := 19) (by decide) rfl rfl ⟨_, upd_same⟩ fun H' e => k H' ((Evl.Ex.new hd).trans e)
    · refine ⟨_, rfl, rfl, _, rfl, int_no (by decide) ?_⟩
      refine ⟨_, rfl, rfl, _, rfl, int_no (by decide) ?_⟩
      refine ⟨_, rfl, rfl, _, rfl, int_no (by decide) ?_⟩
      refine ⟨_, rfl, rfl, _, rfl, int_no (by decide) ?_⟩
      refine ⟨true, T.kx 20 (by decide), fun _ a ha => ?_, fun q => Bool.noConfusion q⟩
      exact suite_ok (i := 20) (by decide) rfl rfl trivial fun H' e => k H' e
end
end K01
end
section
namespace K01
open PySem PySem.Spec PyProof.Rows L2 Exv
/-- the fifteen plain values; what is made of one -/
def firsts : List PyData := [.none, .bool true, .bool false, .int 0, .int 1, .int (-1), .int (10 ^ 29), .str "", .str "a", .tuple [], .tuple [.int 1, .str "good"], .list [], .dict [], .tuple [.tuple [.int 1, .str "a"]], .tuple [.bool true, .int 0]]
def seconds (d : PyData) : List PyData := [d, .tuple [d, d], .list [d], .str "a text", .int (-7), .tuple [.tuple [], .tuple [d]]]
def okD (d : PyData) : Bool := d.showable && (decide (d.depth ≤ 40) && decide (d.shown.length ≤ 1000))
theorem okD_all : ((firsts.flatMap seconds).all fun d => okD d && okD (.list [d])) = true := by decide +kernel
theorem okD_of {d : PyData} (h : okD d = true) : ReprOk d := by
  unfold okD at h
  simp only [decide_eq_true_eq, Bool.and_eq_true] at h
  exact ⟨h.1, h.2.1, Nat.le_trans h.2.2 (by decide)⟩
theorem ok_two_of {d0 d : PyData} (h0 : d0 ∈ firsts) (h : d ∈ seconds d0) : ReprOk d ∧ ReprOk (.list [d]) := by
  have z := List.all_eq_true.mp okD_all d (List.mem_flatMap.mpr ⟨d0, h0, h⟩)
  simp only [Bool.and_eq_true] at z
  exact ⟨okD_of z.1, okD_of z.2⟩
end K01
end
section
namespace K01
open PySem PySem.Spec PyProof.Rows L2 Exv
theorem DqAll.get {K : PySem.W.Frag} {H : Hp} : ∀ {vs : List V} {ds : List PyData} {i : Nat} {v : V}, DqAll K H vs ds → vs[i]? = some v → ∃ d, ds[i]? = some d ∧ Dq K H v d
  | _, _, _, _, .nil, e => (by simp at e)
  | _, _, 0, v, .cons h _, e => by
    simp at e
    subst e
    exact ⟨_, rfl, h⟩
  | _, _, i + 1, v, .cons _ t, e => by
    obtain ⟨d, h1, h2⟩ := DqAll.get (i := i) (v := v) t (by simpa using e)
    exact ⟨d, by simpa using h1, h2⟩
theorem DqAll.len {K : PySem.W.Frag} {H : Hp} : ∀ {vs : List V} {ds : List PyData}, DqAll K H vs ds → vs.length = ds.length
  | _, _, .nil => rfl
  | _, _, .cons _ t => by simp [DqAll.len t]
mutual
/-- no list of three in it -/
def no3 : PyData → Bool
  | .list xs => xs.length != 3 && no3All xs
  | .tuple xs => no3All xs
  | _ => true
def no3All : List PyData → Bool
  | [] => true
  | x :: xs => no3 x && no3All xs
end
section
variable {K : PySem.W.Frag} {H H' : Hp} {a : Addr} {x y z : V}
mutual
/-- the draws may turn: no datum leans on them -/
theorem Dq.turn (ha : H a = some (.lst [x, y, z])) (k : ∀ b o, b ≠ a → H b = some o → H' b = some o) : ∀ (d : PyData) (v : V), no3 d = true → Dq K H v d → Dq K H' v d
  | .none, _, _, h => by cases h; exact .non
  | .bool _, _, _, h => by cases h; exact .bl _
  | .int _, _, _, h => by cases h; exact .int _
  | .str _, _, _, h => by cases h; exact .str _
  | .list ds, _, n, h => by
    cases h with
    | lst h1 ne h2 =>
      rename_i p xs
      simp only [no3, Bool.and_eq_true, bne_iff_ne] at n
      have l := DqAll.len h2
      refine .lst ?_ ne (DqAll.turn ha k ds _ n.2 h2)
      rcases h1 with (h1 | ⟨u, h1⟩) | h1
      · refine .inl (.inl (k _ _ ?_ h1))
        rintro rfl
        rw [ha] at h1
        cases h1
        exact n.1 l.symm
      · refine .inl (.inr ⟨u, k _ _ ?_ h1⟩)
        rintro rfl
        rw [ha] at h1
        cases h1
      · exact .inr h1
  | .tuple ds, _, n, h => by
    cases h with
    | tup h1 h2 =>
      rename_i p xs
      simp only [no3] at n
      refine .tup ?_ (DqAll.turn ha k ds _ n h2)
      rcases h1 with (h1 | ⟨u, h1⟩) | h1
      · refine .inl (.inl (k _ _ ?_ h1))
        rintro rfl
        rw [ha] at h1
        cases h1
      · refine .inl (.inr ⟨u, k _ _ ?_ h1⟩)
        rintro rfl
        rw [ha] at h1
        cases h1
      · exact .inr h1
  | .dict [], _, _, h => by
    cases h with
    | dict h1 =>
      refine .dict (k _ _ ?_ h1)
      rintro rfl
      rw [ha] at h1
      cases h1
  | .dict (_ :: _), _, _, h => by cases h
theorem DqAll.turn (ha : H a = some (.lst [x, y, z])) (k : ∀ b o, b ≠ a → H b = some o → H' b = some o) : ∀ (ds : List PyData) (vs : List V), no3All ds = true → DqAll K H vs ds → DqAll K H' vs ds
  | [], _, _, h => by cases h; exact .nil
  | d :: ds, _, n, h => by
    cases h with
    | cons h1 h2 =>
      simp only [no3All, Bool.and_eq_true] at n
      exact .cons (Dq.turn ha k d _ n.1 h1) (DqAll.turn ha k ds _ n.2 h2)
end
end
theorem no3_all : ((firsts.flatMap seconds).all no3) = true := by decide +kernel
theorem no3_firsts : no3All firsts = true := by decide +kernel
theorem no3_seconds : (firsts.all fun d => no3All (seconds d)) = true := by decide +kernel
end K01
end
section
namespace K01
open PySem PySem.Spec PyProof.Rows L2 Exv
theorem if_no {c : Bool} {A B : Prop} (h : c = false) (k : B) : if c = true then A else B := by
  rw [h, if_neg Bool.false_ne_true]
  exact k
theorem if_yes {c : Bool} {A B : Prop} (h : c = true) (k : A) : if c = true then A else B := by
  rw [h, if_pos rfl]
  exact k
section
variable {K : PySem.W.Frag} {σ : L2.St} {H : Hp} {te : TE} {ta : TA} {d : PyData} {ds : List PyData} {v : V} {D : Ends} {u : TS} {i : Nat} {E : XK} {sp : Sp} {R : List V → Hp → Prop} {P : V → Hp → Prop}
theorem gd_c (h : ∀ H, Dq K H v d) : Gv (tC v) σ H (fun x H => Dq K H x d) := gv_imp gv_c fun x H e => by rw [e]; exact h H
theorem gd_var (hi : σ[i]? = some (some v)) (h : Dq K H v d) : Gv (tVar i) σ H (fun x H => Dq K H x d) := fun H1 e Q q => ⟨v, hi, q v H1 (Evl.Ex.refl H1) (Dq.keep e _ _ h)⟩
theorem gd_neg {n : Int} : Gv (tUn (rU fun i => .int (-i)) (tC (.int n))) σ H (fun x H => Dq K H x (.int (-n))) := fun H1 e Q q => ⟨n, rfl, q _ H1 (Evl.Ex.refl H1) (.int _)⟩
theorem gd_pow : Gv (tOp (rI CPow fun i j => .int (i ^ j.toNat)) (tC (.int 10)) (tC (.int 29))) σ H (fun x H => Dq K H x (.int (10 ^ 29))) := fun H1 e Q q => ⟨10, 29, rfl, rfl, ⟨by decide, by decide, by decide⟩, q _ H1 (Evl.Ex.refl H1) (.int _)⟩
theorem gd_dict : Gv tDNewK σ H (fun x H => Dq K H x (.dict [])) := fun H1 e Q q p hp => q (.ref p) _ (Evl.Ex.new hp) (.dict upd_same)
theorem dqAll_st : Stb (fun (vs : List V) H => DqAll K H vs ds) := fun vs H H' e h => DqAll.keep e ds vs h
theorem ga_d0 : Ga tNil σ H (fun vs H => DqAll K H vs []) := fun H1 _ _ q => q [] H1 (Evl.Ex.refl H1) .nil
theorem ga_d (h : Gv te σ H (fun x H => Dq K H x d)) (hr : Ga ta σ H (fun vs H => DqAll K H vs ds)) : Ga (tCons te ta) σ H (fun vs H => DqAll K H vs (d :: ds)) := fun H1 e Q q =>
  h H1 e _ fun x H2 e2 px => hr H2 (e.trans e2) _ fun r H3 e3 pr => q (x :: r) H3 (e2.trans e3) (.cons (Dq.keep e3 _ _ px) pr)
theorem gd_tup (h : Ga ta σ H (fun vs H => DqAll K H vs ds)) (hl : ds.length ≤ 100000) : Gv (tTup ta) σ H (fun x H => Dq K H x (.tuple ds)) :=
  gv_imp (gv_tup h dqAll_st fun vs H z => by rw [DqAll.len z]; exact hl) fun v H ⟨a, vs, e, h1, h2⟩ => by rw [e]; exact .tup (SqT.of h1) h2
theorem gd_lst (h : Ga ta σ H (fun vs H => DqAll K H vs ds)) (hl : ds.length ≤ 100000) : Gv (tLstB ta) σ H (fun x H => Dq K H x (.list ds)) :=
  gv_imp (gv_lstB h dqAll_st fun vs H z => by rw [DqAll.len z]; exact hl) fun v H ⟨a, vs, e, hb, h1, h2⟩ => by rw [e]; exact .lst (.inl (.inl h1)) hb h2
/-- name = f(..) -/
theorem set_call (g : Ga ta σ H R) (k : ∀ vs H2, Ex H H2 → R vs H2 → sp (vs ++ []) H2 (fun v H3 => u D (σ.set i (some v)) H3) E) : tSeq (tAsg (tCall sp [] E ta) (gName i)) u D σ H := g H (Evl.Ex.refl H) _ k
/-- for .. in a list -/
theorem for_lst {g : TG} {tb : TS} (gv : Gv te σ H P)
    (k : ∀ v H2, Ex H H2 → P v H2 → ∃ (a : Addr) (xs : List V) (Pv : Nat → L2.St → Hp → Prop), v = .ref a ∧ SqL K H2 a xs ∧ Pv 0 σ H2 ∧ (∀ i σ H, i ≤ xs.length → Pv i σ H → SqL K H a xs) ∧
      (∀ i x σ' H', xs[i]? = some x → Pv i σ' H' → g x σ' H' fun σ2 H2 => tb { nx := Pv (i + 1), rt := D.rt, bk := u D, ct := Pv (i + 1) } σ2 H2) ∧ ∀ σ' H', Pv xs.length σ' H' → u D σ' H') :
    tSeq (tFor (iList K te) g tb) u D σ H := gv H (Evl.Ex.refl H) _ fun v H2 e2 pv => by
  obtain ⟨a, xs, Pv, rfl, h1, h2, h3, h4, h5⟩ := k v H2 e2 pv
  exact ⟨a, rfl, ⟨xs, h1⟩, for_list (xs := xs) Pv h2 h3 h4 h5⟩
theorem for_tp {g : TG} {tb : TS} (gv : Gv te σ H P)
    (k : ∀ v H2, Ex H H2 → P v H2 → ∃ (a : Addr) (xs : List V) (Pv : Nat → L2.St → Hp → Prop), v = .ref a ∧ SqT K H2 a xs ∧ Pv 0 σ H2 ∧ (∀ i σ H, i ≤ xs.length → Pv i σ H → SqT K H a xs) ∧
      (∀ i x σ' H', xs[i]? = some x → Pv i σ' H' → g x σ' H' fun σ2 H2 => tb { nx := Pv (i + 1), rt := D.rt, bk := u D, ct := Pv (i + 1) } σ2 H2) ∧ ∀ σ' H', Pv xs.length σ' H' → u D σ' H') :
    tSeq (tFor (iTup K te) g tb) u D σ H := gv H (Evl.Ex.refl H) _ fun v H2 e2 pv => by
  obtain ⟨a, xs, Pv, rfl, h1, h2, h3, h4, h5⟩ := k v H2 e2 pv
  exact ⟨a, rfl, ⟨xs, h1⟩, for_tup (xs := xs) Pv h2 h3 h4 h5⟩
/-- _law_given_ones(e) + _law_index_ones(e) -/
theorem gv_cat {C : Nat → Addr} {t : V} {k : Nat} (hk : σ[k]? = some (some t)) : Gv (tOp rCat (tCall (spRows (tab1 C)) [] E (tCons (tVar k) tNil)) (tCall (spRows (tab2 C)) [] E (tCons (tVar k) tNil))) σ H
    (fun v H => ∃ p rows, v = .ref p ∧ H p = some (.lst rows) ∧ RowsAt t (tab1 C ++ tab2 C) rows H) := fun H1 e Q q =>
  ⟨t, hk, t, rfl, fun H2 p rows e2 h1 r1 => ⟨t, hk, t, rfl, fun H3 p2 rows2 e3 h2 r2 => ⟨p, p2, rows, rows2, rfl, rfl, e3 _ _ h1, h2, (by rw [r1.len, r2.len]; show 16 + 8 ≤ sizeLine; decide), fun x hx =>
    q (.ref x) _ ((e2.trans e3).trans (Evl.Ex.new hx)) ⟨x, _, rfl, upd_same, (rowsAt_st _ _ _ (e3.trans (Evl.Ex.new hx)) r1).app (rowsAt_st _ _ _ (Evl.Ex.new hx) r2)⟩⟩⟩⟩
end
theorem dec_int {i j : Nat} : decide ((V.int (0 + (i : Int)) : V) = V.int (j : Int)) = decide (j = i) := by
  by_cases h : j = i
  · subst h
    rw [decide_eq_true rfl, decide_eq_true (by rw [Int.zero_add])]
  · rw [decide_eq_false h, decide_eq_false]
    intro z
    have z' := V.int.inj z
    omega
theorem dpAll_bools {K : PySem.W.Frag} {H : Hp} (f : Nat → Bool) : ∀ l : List Nat, DpAll K H (l.map fun m => V.bl (f m)) (l.map fun m => PyData.bool (f m))
  | [] => .nil
  | _ :: l => .cons (.bl _) (dpAll_bools f l)
theorem shaped_24 (f : Nat → Bool) : SeqAt.shaped (.list ((List.range 24).map fun m => PyData.bool (f m))) = true := rfl
theorem eqv_bools (f : Nat → Bool) : PyData.eqv (.list ((List.range 24).map fun m => PyData.bool (f m))) (.list ((List.range 24).map fun m => PyData.bool (f m))) = true := PySem.SeqAt.eqv_refl _ rfl
/-! ### rows that stay where lists of ints turn -/
section
variable {H H' : Hp} {a : Addr} {i : Int} {r : List V} {q : Addr} {w : Str} {c : Addr}
theorem exAt_turn (ha : H a = some (.lst (.int i :: r))) (k : ∀ b o, b ≠ a → H b = some o → H' b = some o) {e : Addr} {fs : List (Str × V)} (x : ExAt H e c fs) : ExAt H' e c fs := by
  rcases x with ⟨e0, x⟩ | ⟨d, x, y⟩
  · refine .inl ⟨e0, k _ _ ?_ x⟩
    rintro rfl
    rw [ha] at x
    cases x
  · refine .inr ⟨d, k _ _ ?_ x, k _ _ ?_ y⟩
    · rintro rfl
      rw [ha] at x
      cases x
    · rintro rfl
      rw [ha] at y
      cases y
theorem fsOk_turn (ha : H a = some (.lst (.int i :: r))) (k : ∀ b o, b ≠ a → H b = some o → H' b = some o) {fs : List (Str × V)} (x : FsOk (.ref q) w fs H) : FsOk (.ref q) w fs H' := by
  rcases x with h | h | h | ⟨h, l, h1, hb, h2⟩ | h
  · exact .inl h
  · exact .inr (.inl h)
  · exact .inr (.inr (.inl h))
  · refine .inr (.inr (.inr (.inl ⟨h, l, h1, hb, k _ _ ?_ h2⟩)))
    rintro rfl
    rw [ha] at h2
    cases h2
  · exact .inr (.inr (.inr (.inr h)))
theorem rows_turn (ha : H a = some (.lst (.int i :: r))) (k : ∀ b o, b ≠ a → H b = some o → H' b = some o) {tab : List (Str × Addr)} {vs : List V} (x : RowsAt (.ref q) tab vs H) : RowsAt (.ref q) tab vs H' := by
  induction x with
  | nil => exact .nil
  | cons h _ ih =>
    refine .cons ?_ (ih ha k)
    obtain ⟨p, y1, y2, e, h1, ⟨e1, f1, q1, x1, o1⟩, ⟨e2, f2, q2, x2, o2⟩⟩ := h
    refine ⟨p, y1, y2, e, k _ _ ?_ h1, ⟨e1, f1, q1, exAt_turn ha k x1, fsOk_turn ha k o1⟩, ⟨e2, f2, q2, exAt_turn ha k x2, fsOk_turn ha k o2⟩⟩
    rintro rfl
    rw [ha] at h1
    cases h1
end
/-! ### the table of the rows -/
section
variable {P : Program} {K : PySem.W.Frag} {mg : Str → Option Value} {C : Nat → Addr}
theorem fs_given {t : V} {fs : List (Str × V)} {H : Hp} (h : FsOk t "given" fs H) : fs = [(("given" : Str), t)] := by
  rcases h with ⟨_, h⟩ | ⟨z, _⟩ | ⟨z, _⟩ | ⟨z, _⟩ | ⟨z, _⟩
  · exact h
  all_goals exact absurd z (by decide)
theorem fs_index {t : V} {fs : List (Str × V)} {H : Hp} (h : FsOk t "index" fs H) : fs = [(("index" : Str), t)] := by
  rcases h with ⟨z, _⟩ | ⟨_, h⟩ | ⟨z, _⟩ | ⟨z, _⟩ | ⟨z, _⟩
  · exact absurd z (by decide)
  · exact h
  all_goals exact absurd z (by decide)
theorem fs_reason {t : V} {fs : List (Str × V)} {H : Hp} (h : FsOk t "reason" fs H) : fs = [(("reason" : Str), t)] := by
  rcases h with ⟨z, _⟩ | ⟨z, _⟩ | ⟨_, h⟩ | ⟨z, _⟩ | ⟨z, _⟩
  · exact absurd z (by decide)
  · exact absurd z (by decide)
  · exact h
  all_goals exact absurd z (by decide)
theorem fs_row {t : V} {fs : List (Str × V)} {H : Hp} (h : FsOk t "row" fs H) : ∃ l, fs = [(("row" : Str), t), ("word", .ref l)] ∧ H l = some (.lst [t]) := by
  rcases h with ⟨z, _⟩ | ⟨z, _⟩ | ⟨z, _⟩ | ⟨_, l, h, _, h2⟩ | ⟨z, _⟩
  · exact absurd z (by decide)
  · exact absurd z (by decide)
  · exact absurd z (by decide)
  · exact ⟨l, h, h2⟩
  · exact absurd z (by decide)
theorem fs_none {t : V} {fs : List (Str × V)} {H : Hp} (h : FsOk t "" fs H) : fs = [] := by
  rcases h with ⟨z, _⟩ | ⟨z, _⟩ | ⟨z, _⟩ | ⟨z, _⟩ | ⟨_, h⟩
  · exact absurd z (by decide)
  · exact absurd z (by decide)
  · exact absurd z (by decide)
  · exact absurd z (by decide)
  · exact h
theorem tab_at (T : Txt P K mg C) {j : Nat} {w : Str} {c : Addr} {t : V} {fs : List (Str × V)} {H : Hp} (hj : (tab1 C ++ tab2 C)[j]? = some (w, c)) (fo : FsOk t w fs H) : c = C j ∧ j < 24 ∧ ∀ p ∈ fs, PySem.W.findIn K (.ref c) p.1 = some none := by
  match j, hj with
    | 0, hj =>
      cases hj
      exact ⟨rfl, by decide, fun p hp => by
        rw [fs_given fo] at hp
        rw [List.mem_singleton.mp hp]
        exact T.s0.no⟩
    | 1, hj =>
      cases hj
      exact ⟨rfl, by decide, fun p hp => by
        rw [fs_given fo] at hp
        rw [List.mem_singleton.mp hp]
        exact T.s1.no⟩
    | 2, hj =>
      cases hj
      exact ⟨rfl, by decide, fun p hp => by
        rw [fs_given fo] at hp
        rw [List.mem_singleton.mp hp]
        exact T.s2.no⟩
    | 3, hj =>
      cases hj
      exact ⟨rfl, by decide, fun p hp => by
        rw [fs_given fo] at hp
        rw [List.mem_singleton.mp hp]
        exact T.s3.no⟩
    | 4, hj =>
      cases hj
      exact ⟨rfl, by decide, fun p hp => by
        rw [fs_given fo] at hp
        rw [List.mem_singleton.mp hp]
        exact T.s4.no⟩
    | 5, hj =>
      cases hj
      exact ⟨rfl, by decide, fun p hp => by
        rw [fs_given fo] at hp
        rw [List.mem_singleton.mp hp]
        exact T.s5.no⟩
    | 6, hj =>
      cases hj
      exact ⟨rfl, by decide, fun p hp => by
        rw [fs_given fo] at hp
        rw [List.mem_singleton.mp hp]
        exact T.s6.no⟩
    | 7, hj =>
      cases hj
      exact ⟨rfl, by decide, fun p hp => by
        rw [fs_given fo] at hp
        rw [List.mem_singleton.mp hp]
        exact T.s7.no⟩
    | 8, hj =>
      cases hj
      exact ⟨rfl, by decide, fun p hp => by
        rw [fs_given fo] at hp
        rw [List.mem_singleton.mp hp]
        exact T.s8.no⟩
    | 9, hj =>
      cases hj
      exact ⟨rfl, by decide, fun p hp => by
        rw [fs_given fo] at hp
        rw [List.mem_singleton.mp hp]
        exact T.s9.no⟩
    | 10, hj =>
      cases hj
      exact ⟨rfl, by decide, fun p hp => by
        rw [fs_given fo] at hp
        rw [List.mem_singleton.mp hp]
        exact T.s10.no⟩
    | 11, hj =>
      cases hj
      exact ⟨rfl, by decide, fun p hp => by
        rw [fs_given fo] at hp
        rw [List.mem_singleton.mp hp]
        exact T.s11.no⟩
    | 12, hj =>
      cases hj
      exact ⟨rfl, by decide, fun p hp => by
        rw [fs_given fo] at hp
        rw [List.mem_singleton.mp hp]
        exact T.s12.no⟩
    | 13, hj =>
      cases hj
      exact ⟨rfl, by decide, fun p hp => by
        rw [fs_given fo] at hp
        rw [List.mem_singleton.mp hp]
        exact T.s13.no⟩
    | 14, hj =>
      cases hj
      exact ⟨rfl, by decide, fun p hp => by
        rw [fs_given fo] at hp
        rw [List.mem_singleton.mp hp]
        exact T.s14.no⟩
    | 15, hj =>
      cases hj
      exact ⟨rfl, by decide, fun p hp => by
        rw [fs_given fo] at hp
        rw [List.mem_singleton.mp hp]
        exact T.s15.no⟩
    | 16, hj =>
      cases hj
      exact ⟨rfl, by decide, fun p hp => by
        obtain ⟨l, rfl, _⟩ := fs_row fo
        simp only [List.mem_cons, List.mem_nil_iff, or_false] at hp
        rcases hp with rfl | rfl
        · exact T.s16.no
        · exact T.s16.no2⟩
    | 17, hj =>
      cases hj
      exact ⟨rfl, by decide, fun p hp => by
        rw [fs_index fo] at hp
        rw [List.mem_singleton.mp hp]
        exact T.s17.no⟩
    | 18, hj =>
      cases hj
      exact ⟨rfl, by decide, fun p hp => by
        rw [fs_index fo] at hp
        rw [List.mem_singleton.mp hp]
        exact T.s18.no⟩
    | 19, hj =>
      cases hj
      exact ⟨rfl, by decide, fun p hp => by
        rw [fs_reason fo] at hp
        rw [List.mem_singleton.mp hp]
        exact T.s19.no⟩
    | 20, hj =>
      cases hj
      exact ⟨rfl, by decide, fun p hp => by
        rw [fs_none fo] at hp
        cases hp⟩
    | 21, hj =>
      cases hj
      exact ⟨rfl, by decide, fun p hp => by
        rw [fs_none fo] at hp
        cases hp⟩
    | 22, hj =>
      cases hj
      exact ⟨rfl, by decide, fun p hp => by
        rw [fs_none fo] at hp
        cases hp⟩
    | 23, hj =>
      cases hj
      exact ⟨rfl, by decide, fun p hp => by
        rw [fs_none fo] at hp
        cases hp⟩
    | n + 24, hj => cases hj
end
end K01
end
section
namespace K01
open PySem PySem.Spec PyProof.Rows L2 Exv
abbrev NR : List Str := ["draws", "plain", "thing", "spot", "word", "one", "two", "e", "row", "made", "at", "way"]
theorem scR : FnScope NR ["draws"] (defScope sRight) := ⟨rfl, rfl, rfl, by decide +kernel, rfl, by decide +kernel, by decide +kernel⟩
/-- _law_right(draws) -/
def spRight : Sp := fun vs H Q _ => ∃ a, vs = [.ref a] ∧ Draws H a 0 ∧ ∀ H', (∀ b o, b ≠ a → H b = some o → H' b = some o) → Q (.bl true) H'
/-- the defs that it calls -/
structure Callees (P : Program) (w : World) (K : PySem.W.Frag) (mg : Str → Option Value) (base : Heap) (C : Nat → Addr) (fT fPi fG fI fK fKe fP fC : Addr) (dT dPi dG dI dK dKe dP dC : FuncData) : Prop where
  gT : FnOk P w K mg base CX0 1 fT dT ["draws", "many"] spTake
  gPi : FnOk P w K mg base CX0 2 fPi dPi ["draws", "some"] (spPick K)
  gG : FnOk P w K mg base CX0 1 fG dG ["thing"] (spRows (tab1 C))
  gI : FnOk P w K mg base CX0 1 fI dI ["thing"] (spRows (tab2 C))
  gK : FnOk P w K mg base CX0 1 fK dK ["e"] (spKinds C)
  gKe : FnG P w K mg base 1 fKe dKe ["word", "e"] (spKept K)
  gP : FnOk P w K mg base CX0 1 fP dP ["e"] (spPlain C)
  gC : FnOk P w K mg base CX0 2 fC dC ["way", "thing"] spCaught
  mT : mg "_law_take" = some (.ref fT)
  mPi : mg "_law_pick" = some (.ref fPi)
  mG : mg "_law_given_ones" = some (.ref fG)
  mI : mg "_law_index_ones" = some (.ref fI)
  mK : mg "_law_kinds" = some (.ref fK)
  mKe : mg "_law_kept" = some (.ref fKe)
  mP : mg "_law_is_plain" = some (.ref fP)
  mC : mg "_law_is_caught" = some (.ref fC)
  kT : PySem.W.keepIn K (.ref fT) = true
  kPi : PySem.W.keepIn K (.ref fPi) = true
  kG : PySem.W.keepIn K (.ref fG) = true
  kI : PySem.W.keepIn K (.ref fI) = true
  kK : PySem.W.keepIn K (.ref fK) = true
  kKe : PySem.W.keepIn K (.ref fKe) = true
  kP : PySem.W.keepIn K (.ref fP) = true
  kC : PySem.W.keepIn K (.ref fC) = true
  bT : Binds K dT ["draws", "many"] []
  bPi : Binds K dPi ["draws", "some"] []
  bG : Binds K dG ["thing"] []
  bI : Binds K dI ["thing"] []
  bK : Binds K dK ["e"] []
  bKe : Binds K dKe ["word", "e"] []
  bP : Binds K dP ["e"] []
  bC : Binds K dC ["way", "thing"] []
section
variable {P : Program} {w : World} {K : PySem.W.Frag} {mg : Str → Option Value} {base : Heap} {C : Nat → Addr} {fT fPi fG fI fK fKe fP fC : Addr} {dT dPi dG dI dK dKe dP dC : FuncData}
theorem ok_right {f : Addr} {fd : FuncData} (F : Fun K "_law_right" "_law_right" sRight f fd) (T : Txt P K mg C) (Z : Callees P w K mg base C fT fPi fG fI fK fKe fP fC dT dPi dG dI dK dKe dP dC) : FnG P w K mg base 3 f fd ["draws"] spRight := by
  refine okG F scR (fun vs H Q E h => ?_) (fun cdv A outer s H vs Q E hgd hr h => ?_)
  · obtain ⟨a, rfl, _⟩ := h
    rfl
  · obtain ⟨a, rfl, hdr, k⟩ := h
    have hr2 := hr
    have hr1 : Room 1 (A.deeper (envOfC "_law_right" (defScope sRight) s.heap.objs.size f cdv)) := hr.mono (by decide)
    have hu : (A.deeper (envOfC "_law_right" (defScope sRight) s.heap.objs.size f cdv)).units + 64 < cLine := by have := hr.un; omega
    refine ⟨_, (pss_cons (ps_if (PW.pt (pw_or (pt_not (pt_val (pe_call Z.gP hr1 rfl Z.mP Z.kP Z.bP .nil pass0 (pa_cons (pe_mk0 T.s24) pa_nil)))) (pw_or1 (pt_cmpR op_in_seq pe_bl (pe_call Z.gK hr1 rfl Z.mK Z.kK Z.bK .nil pass0 (pa_cons (pe_mk0 T.s24) pa_nil)) (by rfl))))) (pss_one (ps_ret pe_bl)) pss_nil)
    (pss_cons (ps_set (i := 1) scR.nd rfl (Or.inl rfl) (pe_tup (pa_cons pe_non (pa_cons pe_bl (pa_cons pe_bl (pa_cons pe_int (pa_cons pe_int (pa_cons (pe_un un_neg pe_int) (pa_cons (pe_op op_pow pe_int pe_int) (pa_cons pe_str (pa_cons pe_str (pa_cons (pe_tup pa_nil) (pa_cons (pe_tup (pa_cons pe_int (pa_cons pe_str pa_nil))) (pa_cons (pe_lstB pa_nil) (pa_cons pe_dnewK (pa_cons (pe_tup (pa_cons (pe_tup (pa_cons pe_int (pa_cons pe_str pa_nil))) pa_nil)) (pa_cons (pe_tup (pa_cons pe_bl (pa_cons pe_int pa_nil))) pa_nil)))))))))))))))))
    (pss_cons (ps_set (i := 2) scR.nd rfl (Or.inr rfl) (pe_call Z.gPi hr2 rfl Z.mPi Z.kPi Z.bPi .nil pass0 (pa_cons (pv 0) (pa_cons (pv 1) pa_nil))))
    (pss_cons (ps_set (i := 2) scR.nd rfl (Or.inr rfl) (pe_call Z.gPi hr2 rfl Z.mPi Z.kPi Z.bPi .nil pass0 (pa_cons (pv 0) (pa_cons (pe_tup (pa_cons (pv 2) (pa_cons (pe_tup (pa_cons (pv 2) (pa_cons (pv 2) pa_nil))) (pa_cons (pe_lstB (pa_cons (pv 2) pa_nil)) (pa_cons pe_str (pa_cons (pe_un un_neg pe_int) (pa_cons (pe_tup (pa_cons (pe_tup pa_nil) (pa_cons (pe_tup (pa_cons (pv 2) pa_nil)) pa_nil))) pa_nil))))))) pa_nil))))
    (pss_cons (ps_set (i := 3) scR.nd rfl (Or.inr rfl) pe_int)
    (pss_cons (ps_for PassesOwn.never rfl (pi_list (pe_op op_cat (pe_call Z.gG hr1 rfl Z.mG Z.kG Z.bG .nil pass0 (pa_cons (pv 2) pa_nil)) (pe_call Z.gI hr1 rfl Z.mI Z.kI Z.bI .nil pass0 (pa_cons (pv 2) pa_nil)))) (pg_unl rfl (pgs_cons (pg_name (i := 4) scR.nd rfl (.inl rfl)) (pgs_cons (pg_name (i := 5) scR.nd rfl (.inl rfl)) (pgs_cons (pg_name (i := 6) scR.nd rfl (.inl rfl)) pgs_nil)))) (pss_cons (ps_for PassesOwn.never rfl (pi_tup (pe_tup (pa_cons (pv 5) (pa_cons (pv 6) pa_nil)))) (pg_name (i := 7) scR.nd rfl (.inl rfl)) (pss_cons (ps_if (PW.pt (pw_or (pt_cmpR (op_neD hu) (pe_call Z.gK hr1 rfl Z.mK Z.kK Z.bK .nil pass0 (pa_cons (pv 7) pa_nil)) (pe_lc (own := [("at", 10)]) (g := gName 10) (tt := tYes) rfl scR.nd (pi_range1 rfl T.rng (pa_cons pe_int pa_nil)) (blkOk_by (N := NR) (sc := defScope sRight) (by decide +kernel)) (fun _ _ _ _ _ => pg_name (i := 10) scR.nd rfl (Or.inl rfl)) (fun _ _ _ _ _ => pts_nil) (fun _ _ _ _ _ => pe_cmpR op_eq (pv 10) (pv 3) (nomark _))) (nomark _)) (pw_or1 (pt_not (pt_val (pe_call Z.gP hr1 rfl Z.mP Z.kP Z.bP .nil pass0 (pa_cons (pv 7) pa_nil))))))) (pss_one (ps_ret pe_bl)) pss_nil)
      (pss_one (ps_if (pt_cmpR op_ne (pe_callB (call_reprD hgd hu) (by rfl) T.rep bt_rep (pa_cons (pe_callG (E := E0) Z.gKe hgd hr1 rfl Z.mKe Z.kKe Z.bKe (pa_cons (pv 4) (pa_cons (pv 7) pa_nil))) pa_nil)) (pe_callB (call_reprD hgd hu) (by rfl) T.rep bt_rep (pa_cons (pe_ifExp (pt_cmpR op_ne (pv 4) pe_str (nomark _)) (pv 2) pe_non) pa_nil)) (nomark _)) (pss_one (ps_ret pe_bl)) pss_nil))))
      (pss_one (ps_set (i := 3) scR.nd rfl (Or.inr rfl) (pe_op op_add (pv 3) pe_int)))))
    (pss_cons (ps_set (i := 8) scR.nd rfl (Or.inl rfl) (pe_lst (pa_cons (pe_call Z.gT hr1 rfl Z.mT Z.kT Z.bT .nil pass0 (pa_cons (pv 0) (pa_cons pe_int pa_nil))) pa_nil)))
    (pss_cons (ps_set (i := 9) scR.nd rfl (Or.inl rfl) (pe_op op_cat (pe_call Z.gG hr1 rfl Z.mG Z.kG Z.bG .nil pass0 (pa_cons (pv 8) pa_nil)) (pe_call Z.gI hr1 rfl Z.mI Z.kI Z.bI .nil pass0 (pa_cons (pv 8) pa_nil))))
    (pss_cons (ps_expr (pe_bm PySem.F.plainAttrs_list PySem.F.slot_list_append PySem.F.type_list_append mt_append (pv 8) (pa_cons (pe_call Z.gT hr1 rfl Z.mT Z.kT Z.bT .nil pass0 (pa_cons (pv 0) (pa_cons pe_int pa_nil))) pa_nil)))
    (pss_cons (ps_for PassesOwn.never rfl (pi_list (pv 9)) (pg_unl rfl (pgs_cons (pg_name (i := 4) scR.nd rfl (.inl rfl)) (pgs_cons (pg_name (i := 5) scR.nd rfl (.inl rfl)) (pgs_cons (pg_name (i := 6) scR.nd rfl (.inl rfl)) pgs_nil)))) (pss_one (ps_if (PW.pt (pw_and (pt_cmpR op_notIn_seq (pv 4) (pe_tup (pa_cons pe_str (pa_cons pe_str pa_nil))) (by rfl)) (pw_and1 (PW.pt (pw_or (pt_cmpR (op_neD hu) (pe_callG (E := E0) Z.gKe hgd hr1 rfl Z.mKe Z.kKe Z.bKe (pa_cons (pv 4) (pa_cons (pv 5) pa_nil))) (pv 8) (nomark _)) (pw_or1 (pt_cmpR (op_neD hu) (pe_callG (E := E0) Z.gKe hgd hr1 rfl Z.mKe Z.kKe Z.bKe (pa_cons (pv 4) (pa_cons (pv 6) pa_nil))) (pv 8) (nomark _)))))))) (pss_one (ps_ret pe_bl)) pss_nil)))
    (pss_one (ps_ret (pe_callB (cr_all rfl) (by rfl) T.all boot_all (pa_cons (pe_lc (own := [("way", 11)]) (g := gName 11) (tt := tYes) rfl scR.nd (pi_range1 rfl T.rng (pa_cons pe_int pa_nil)) (blkOk_by (N := NR) (sc := defScope sRight) (by decide +kernel)) (fun _ _ _ _ _ => pg_name (i := 11) scR.nd rfl (Or.inl rfl)) (fun _ _ _ _ _ => pts_nil) (fun _ _ _ _ _ => pe_cmpR op_isBl (pe_call Z.gC hr2 rfl Z.mC Z.kC Z.bC .nil pass0 (pa_cons (pv 11) (pa_cons (pv 2) pa_nil))) pe_bl (nomark _))) pa_nil)))))))))))))), ?_⟩
    obtain ⟨df, ds, hd0, df0, ds0, ds1⟩ := hdr
    -- if not _law_is_plain(MotionError()) or True in _law_kinds(MotionError())
    intro e0 he0
    refine ⟨e0, 24, [], rfl, by decide, .inl ⟨rfl, upd_same⟩, fun H1 x1 => ⟨true, rfl, if_no rfl ?_⟩⟩
    intro e1 he1
    refine ⟨e1, 24, [], rfl, by decide, .inl ⟨rfl, upd_same⟩, fun H2 kp x2 hkp => ?_⟩
    refine ⟨kp, kindsOf 24, rfl, .inl (SqL.of hkp), rfl, rfl, _, rfl, if_no rfl ?_⟩
    have ex2 : Ex H H2 := ((Evl.Ex.new he0).trans x1).trans ((Evl.Ex.new he1).trans x2)
    -- plain = ..
    have gp : Ga _ (start NR [.ref a]) H2 (fun vs H => DqAll K H vs firsts) := (ga_d (gd_c fun _ => .non) (ga_d (gd_c fun _ => .bl _) (ga_d (gd_c fun _ => .bl _) (ga_d (gd_c fun _ => .int _) (ga_d (gd_c fun _ => .int _) (ga_d gd_neg (ga_d gd_pow (ga_d (gd_c fun _ => .str _) (ga_d (gd_c fun _ => .str _)
      (ga_d (gd_tup ga_d0 (by decide)) (ga_d (gd_tup (ga_d (gd_c fun _ => .int _) (ga_d (gd_c fun _ => .str _) ga_d0)) (by decide)) (ga_d (gd_lst ga_d0 (by decide)) (ga_d gd_dict
      (ga_d (gd_tup (ga_d (gd_tup (ga_d (gd_c fun _ => .int _) (ga_d (gd_c fun _ => .str _) ga_d0)) (by decide)) ga_d0) (by decide)) (ga_d (gd_tup (ga_d (gd_c fun _ => .bl _) (ga_d (gd_c fun _ => .int _) ga_d0)) (by decide)) ga_d0)))))))))))))))
    refine set_gv (gv_tup gp dqAll_st fun vs H z => by rw [DqAll.len z]; decide) fun v H3 ex3 hv => ?_
    obtain ⟨pp, pvs, rfl, hpp, hpd⟩ := hv
    -- thing = _law_pick(draws, plain)
    have hd3 : H3 a = some (.lst [.int df, .int ds, .int 0]) := ex3 _ _ (ex2 _ _ hd0)
    refine set_call (sp := spPick K) (R := fun vs H => vs = [.ref a, .ref pp]) (ga_eq (gv_var (i := 0) rfl) (ga_eq (gv_var (i := 1) rfl) ga_nil)) fun vs H4 ex4 hvs => ?_
    subst hvs
    refine ⟨a, pp, 0, pvs, rfl, ex4 _ _ hpp, by rw [DqAll.len hpd]; decide, by rw [DqAll.len hpd]; decide, ⟨_, _, ex4 _ _ hd3, df0, ds0, ds1⟩, by decide, by decide, fun i t0 f1 s1 hi f10 s10 s11 => ?_⟩
    obtain ⟨d0, hd0i, hq0⟩ := DqAll.get (DqAll.keep ex4 _ _ hpd) hi
    have d0in : d0 ∈ firsts := List.mem_of_getElem? hd0i
    have n0 : no3 d0 = true := by
      have z := List.all_eq_true.mp no3_all d0 (List.mem_flatMap.mpr ⟨d0, d0in, .head _⟩)
      exact z
    have hq1 : Dq K (upd H4 a (.lst [.int f1, .int s1, .int (0 + 1)])) t0 d0 := Dq.turn (ex4 _ _ hd3) (fun b o hb h => by rw [upd_ne hb]; exact h) _ _ n0 hq0
    obtain ⟨H5, eH5⟩ : ∃ H5, H5 = upd H4 a (.lst [.int f1, .int s1, .int (0 + 1)]) := ⟨_, rfl⟩
    rw [← eH5] at hq1
    rw [← eH5]
    have hd5 : H5 a = some (.lst [.int f1, .int s1, .int (0 + 1)]) := by rw [eH5]; exact upd_same
    have keep5 : ∀ b o, b ≠ a → H b = some o → H5 b = some o := fun b o hb h => by
      rw [eH5, upd_ne hb]
      exact ex4 _ _ (ex3 _ _ (ex2 _ _ h))
    -- thing = _law_pick(draws, (thing, ..))
    have gs : Ga _ ((start NR [.ref a]).set 1 (some (.ref pp)) |>.set 2 (some t0)) H5 (fun vs H => DqAll K H vs (seconds d0)) := (ga_d (gd_var (i := 2) rfl hq1) (ga_d (gd_tup (ga_d (gd_var (i := 2) rfl hq1) (ga_d (gd_var (i := 2) rfl hq1) ga_d0)) (by decide : 2 ≤ 100000)) (ga_d (gd_lst (ga_d (gd_var (i := 2) rfl hq1) ga_d0) (by decide : 1 ≤ 100000))
      (ga_d (gd_c fun _ => .str _) (ga_d gd_neg (ga_d (gd_tup (ga_d (gd_tup ga_d0 (by decide)) (ga_d (gd_tup (ga_d (gd_var (i := 2) rfl hq1) ga_d0) (by decide : 1 ≤ 100000)) ga_d0)) (by decide : 2 ≤ 100000)) ga_d0))))))
    refine set_call (sp := spPick K) (ga_cons (gv_var (i := 0) rfl) (fun _ _ _ _ z => z) (ga_cons (gv_tup gs dqAll_st fun vs H z => by rw [DqAll.len z]; show 6 ≤ 100000; decide) (fun v H H' e ⟨p, ws, h1, h2, h3⟩ => ⟨p, ws, h1, e _ _ h2, DqAll.keep e _ _ h3⟩) ga_nil)) fun vs H6 ex6 hvs => ?_
    obtain ⟨_, _, rfl, rfl, _, _, rfl, ⟨sp, svs, rfl, hsp, hsd⟩, rfl⟩ := hvs
    have hd6 : H6 a = some (.lst [.int f1, .int s1, .int (0 + 1)]) := ex6 _ _ hd5
    refine ⟨a, sp, 0 + 1, svs, rfl, hsp, by rw [DqAll.len hsd]; show 0 < 6; decide, by rw [DqAll.len hsd]; show 6 < 1000; decide, ⟨_, _, hd6, f10, s10, s11⟩, by decide, by decide, fun i2 t f2 s2 hi2 f20 s20 s21 => ?_⟩
    obtain ⟨d, hdi, hq2⟩ := DqAll.get hsd hi2
    have din : d ∈ seconds d0 := List.mem_of_getElem? hdi
    have n2 : no3 d = true := List.all_eq_true.mp no3_all d (List.mem_flatMap.mpr ⟨d0, d0in, din⟩)
    obtain ⟨rok, rokL⟩ := ok_two_of d0in din
    have hq3 : Dq K (upd H6 a (.lst [.int f2, .int s2, .int (0 + 1 + 1)])) t d := Dq.turn hd6 (fun b o hb h => by rw [upd_ne hb]; exact h) _ _ n2 hq2
    obtain ⟨H7, eH7⟩ : ∃ H7, H7 = upd H6 a (.lst [.int f2, .int s2, .int (0 + 1 + 1)]) := ⟨_, rfl⟩
    rw [← eH7] at hq3
    rw [← eH7]
    have hd7 : H7 a = some (.lst [.int f2, .int s2, .int (0 + 1 + 1)]) := by rw [eH7]; exact upd_same
    have keep7 : ∀ b o, b ≠ a → H b = some o → H7 b = some o := fun b o hb h => by
      rw [eH7, upd_ne hb]
      exact ex6 _ _ (keep5 b o hb h)
    -- spot = 0
    refine set_gv gv_c fun v H8 ex8 ev => ?_
    subst ev
    -- for word, one, two in ..
    refine for_lst (gv_cat (k := 2) rfl) fun v H9 ex9 hv => ?_
    obtain ⟨q9, rows, rfl, hq9, hrows⟩ := hv
    have hq4 : Dq K H9 t d := Dq.keep ex9 _ _ (Dq.keep ex8 _ _ hq3)
    refine ⟨q9, rows, fun j σ' H' => ∃ o4 o5 o6 o7 : Option V, σ' = [some (.ref a), some (.ref pp), some t, some (.int j), o4, o5, o6, o7, none, none, none, none] ∧ Ex H9 H', rfl, SqL.of hq9, ⟨none, none, none, none, rfl, Evl.Ex.refl _⟩,
      fun i σ' H' _ ⟨_, _, _, _, _, e⟩ => SqL.of (e _ _ hq9), ?_, ?_⟩
    · rintro j x σ' Ha hx ⟨o4, o5, o6, o7, rfl, exa⟩
      obtain ⟨w0, c0, hj, hrow⟩ := hrows.at hx
      obtain ⟨ra, x1, x2, rfl, hra, her1, her2⟩ := hrow
      refine ⟨ra, _, rfl, SqL.of (exa _ _ hra), rfl, _, _, rfl, _, _, rfl, _, _, rfl, rfl, ?_⟩
      -- for e in (one, two)
      refine for_tp (gv_tup (R := fun vs _ => vs = [x1, x2]) (ga_eq (gv_var (i := 5) rfl) (ga_eq (gv_var (i := 6) rfl) ga_nil)) (fun _ _ _ _ z => z) fun vs H z => by rw [z]; show 2 ≤ 100000; decide) fun v Hb exb hv => ?_
      obtain ⟨tp, tvs, rfl, htp, rfl⟩ := hv
      refine ⟨tp, _, fun m σ' H' => ∃ o7 : Option V, σ' = [some (.ref a), some (.ref pp), some t, some (.int j), some (.str w0), some x1, some x2, o7, none, none, none, none] ∧ Ex Hb H', rfl, SqT.of htp, ⟨_, rfl, Evl.Ex.refl _⟩,
        fun i σ' H' _ ⟨_, _, e⟩ => SqT.of (e _ _ htp), ?_, ?_⟩
      · rintro m y σ' Hc hy ⟨o7, rfl, exc⟩
        have ey : ErrAt t w0 c0 y Hc := by
          have e9c : Ex H9 Hc := exa.trans (exb.trans exc)
          match m, hy with
          | 0, hy => cases hy; exact errAt_st _ _ _ e9c her1
          | 1, hy => cases hy; exact errAt_st _ _ _ e9c her2
          | m + 2, hy => cases hy
        obtain ⟨ea, fs, rfl, hex, hfo⟩ := ey
        obtain ⟨rfl, hj24, hno⟩ := tab_at T hj hfo
        -- _law_kinds(e) != [at == spot for at in range(24)]
        refine ⟨_, rfl, ea, j, fs, rfl, by omega, hex, fun Hd kp2 exd hkp2 => ?_⟩
        refine ⟨24, rfl, by decide, by decide, fun D hD => lc_range (n := 24) (fun i H' => Ex Hd H' ∧ H' D = some (.lst ((List.range i).map fun m => V.bl (decide (j = m)))))
          ⟨Evl.Ex.new hD, upd_same⟩ (fun i H' hi hpv => ?_) fun H' ⟨ee, hl⟩ => ?_⟩
        · obtain ⟨ei, hi2⟩ := hpv
          refine ⟨rfl, _, rfl, _, rfl, rfl, _, hi2, by rw [List.length_map, List.length_range]; exact Nat.lt_trans hi (by decide), ei.mut hD, ?_⟩
          rw [upd_same, List.range_succ, List.map_append, dec_int]
          rfl
        refine ⟨_, _, .lst (SqL.of (ee _ _ hkp2)) (dpAll_bools _ _), .lst (SqL.of hl) (dpAll_bools _ _), shaped_24 _, shaped_24 _, _, rfl, if_no (by rw [eqv_bools]; rfl) ?_⟩
        refine ⟨_, rfl, ea, j, fs, rfl, by omega, hex.keep (exd.trans ee), fun He exe => ⟨true, rfl, if_no rfl ?_⟩⟩
        have exce : Ex Hc He := (exd.trans ee).trans exe
        have ex9e : Ex H9 He := exa.trans (exb.trans (exc.trans exce))
        -- repr(_law_kept(word, e)) != repr(..)
        refine ⟨_, rfl, _, rfl, ea, t, w0, C j, fs, rfl, hex.keep exce, hfo.ex exce, T.ek j (by omega), hno, fun _ => ⟨d, Dq.keep ex9e _ _ hq4, rokL⟩, fun Hf exf => ?_⟩
        by_cases hw : w0 = ""
        · subst hw
          refine ⟨_, .none, rfl, .non, rfl, by decide, by decide, ?_⟩
          refine ⟨_, rfl, rfl, _, rfl, if_no (by decide) ?_⟩
          refine ⟨_, .none, rfl, .non, rfl, by decide, by decide, rfl, _, rfl, if_no (by simp) ?_⟩
          exact ⟨_, rfl, exc.trans (exce.trans exf)⟩
        · have hkt : keptOf t w0 = t := if_neg hw
          have hqf : Dq K Hf t d := Dq.keep (ex9e.trans exf) _ _ hq4
          refine ⟨_, d, rfl, by rw [hkt]; exact hqf, rok.1, rok.2.1, rok.2.2, ?_⟩
          refine ⟨_, rfl, rfl, _, rfl, if_yes (by rw [decide_eq_false (fun z => hw (V.str.inj z))]; rfl) ?_⟩
          refine ⟨_, rfl, t, d, rfl, hqf, rok.1, rok.2.1, rok.2.2, rfl, _, rfl, if_no (by simp) ?_⟩
          exact ⟨_, rfl, exc.trans (exce.trans exf)⟩
      · rintro σ' Hc ⟨o7, rfl, exc⟩
        refine ⟨_, rfl, _, _, rfl, rfl, ?_⟩
        exact ⟨_, _, _, _, rfl, exa.trans (exb.trans exc)⟩
    · rintro σ' Hg ⟨o4, o5, o6, o7, rfl, exg⟩
      have hdg : Hg a = some (.lst [.int f2, .int s2, .int (0 + 1 + 1)]) := exg _ _ (ex9 _ _ (ex8 _ _ hd7))
      have keepg : ∀ b o, b ≠ a → H b = some o → Hg b = some o := fun b o hb h => exg _ _ (ex9 _ _ (ex8 _ _ (keep7 b o hb h)))
      -- row = [_law_take(draws, 9)]
      refine ⟨_, rfl, a, 9, 0 + 1 + 1, rfl, by decide, by decide, ⟨_, _, hdg, f20, s20, s21⟩, by decide, by decide, fun r f3 s3 r0 r1 f30 s30 s31 => ⟨(by show 1 ≤ sizeLine; decide), fun rp hrp => ?_⟩⟩
      have nra : rp ≠ a := by
        rintro rfl
        rw [upd_same] at hrp
        cases hrp
      obtain ⟨Hi, eHi⟩ : ∃ Hi, Hi = upd (upd Hg a (.lst [.int f3, .int s3, .int (0 + 1 + 1 + 1)])) rp (.lst [.int r]) := ⟨_, rfl⟩
      have hdi : Hi a = some (.lst [.int f3, .int s3, .int (0 + 1 + 1 + 1)]) := by rw [eHi, upd_ne nra.symm, upd_same]
      have hri : Hi rp = some (.lst [.int r]) := by rw [eHi, upd_same]
      have keepi : ∀ b o, b ≠ a → H b = some o → b ≠ rp ∧ Hi b = some o := fun b o hb h => by
        have z : (upd Hg a (.lst [.int f3, .int s3, .int (0 + 1 + 1 + 1)])) b = some o := by rw [upd_ne hb]; exact keepg b o hb h
        exact ⟨ne_of_none z hrp, by rw [eHi, upd_ne (ne_of_none z hrp)]; exact z⟩
      rw [← eHi]
      -- made = ..
      refine set_gv (gv_cat (k := 8) rfl) fun v Hj exj hv => ?_
      obtain ⟨mp, rows2, rfl, hmp, hrows2⟩ := hv
      have hdj := exj _ _ hdi
      have hrj := exj _ _ hri
      -- row.append(_law_take(draws, 9))
      refine ⟨_, rfl, .inl ⟨rfl, _, .inl (.inl hrj)⟩, _, rfl, a, 9, 0 + 1 + 1 + 1, rfl, by decide, by decide, ⟨_, _, hdj, f30, s30, s31⟩, by decide, by decide, fun r2 f4 s4 _ _ _ _ _ => ⟨rp, [.int r], .int r2, rfl, rfl, (by rw [upd_ne nra]; exact hrj), (by show 1 < sizeLine; decide), ?_⟩⟩
      obtain ⟨Hk, eHk⟩ : ∃ Hk, Hk = upd (upd Hj a (.lst [.int f4, .int s4, .int (0 + 1 + 1 + 1 + 1)])) rp (.lst ([.int r] ++ [.int r2])) := ⟨_, rfl⟩
      have hrk : Hk rp = some (.lst [.int r, .int r2]) := by rw [eHk, upd_same]; rfl
      have hrows3 : RowsAt (.ref rp) (tab1 C ++ tab2 C) rows2 Hk := by
        rw [eHk]
        refine rows_turn (H := upd Hj a (.lst [.int f4, .int s4, .int (0 + 1 + 1 + 1 + 1)])) (a := rp) (i := r) (r := []) (by rw [upd_ne nra]; exact hrj) (fun b o hb h => by rw [upd_ne hb]; exact h) ?_
        exact rows_turn (H := Hj) (a := a) hdj (fun b o hb h => by rw [upd_ne hb]; exact h) hrows2
      have l24 : rows2.length = 24 := hrows2.len
      have nma : mp ≠ a := ne_of hmp hdj (by intro z; injection z with z; rw [z] at l24; exact absurd l24 (by show ¬ (3 = 24); decide))
      have nmr : mp ≠ rp := ne_of hmp hrj (by intro z; injection z with z; rw [z] at l24; exact absurd l24 (by show ¬ (1 = 24); decide))
      have hmk : Hk mp = some (.lst rows2) := by rw [eHk, upd_ne nmr, upd_ne nma]; exact hmp
      have keepk : ∀ b o, b ≠ a → H b = some o → Hk b = some o := fun b o hb h => by
        obtain ⟨nb, z⟩ := keepi b o hb h
        rw [eHk, upd_ne nb, upd_ne hb]
        exact exj _ _ z
      rw [← eHk]
      -- for word, one, two in made
      refine for_lst (gv_var (i := 9) rfl) fun v Hl exl ev => ?_
      subst ev
      refine ⟨mp, rows2, fun j σ' H' => ∃ o4 o5 o6 o7 : Option V, σ' = [some (.ref a), some (.ref pp), some t, some (.int (rows.length : Int)), o4, o5, o6, o7, some (.ref rp), some (.ref mp), none, none] ∧ Ex Hl H', rfl, SqL.of (exl _ _ hmk), ⟨_, _, _, _, rfl, Evl.Ex.refl _⟩,
        fun i σ' H' _ ⟨_, _, _, _, _, e⟩ => SqL.of (e _ _ (exl _ _ hmk)), ?_, ?_⟩
      · rintro j x σ' Ha hx ⟨o4, o5, o6, o7, rfl, exa⟩
        obtain ⟨w0, c0, hj, hrow⟩ := hrows3.at hx
        obtain ⟨ra, y1, y2, rfl, hra, her1, her2⟩ := hrow
        have exka : Ex Hk Ha := exl.trans exa
        refine ⟨ra, _, rfl, SqL.of (exka _ _ hra), rfl, _, _, rfl, _, _, rfl, _, _, rfl, rfl, ?_⟩
        obtain ⟨e1, fs1, rfl, hex1, hfo1⟩ := her1
        obtain ⟨e2, fs2, rfl, hex2, hfo2⟩ := her2
        obtain ⟨hc0, hj24, hno1⟩ := tab_at T hj hfo1
        obtain ⟨_, _, hno2⟩ := tab_at T hj hfo2
        subst hc0
        refine ⟨_, rfl, (by show 2 ≤ sizeLine; decide), fun tp ht => ⟨tp, _, rfl, .inr (SqT.of upd_same), rfl, rfl, _, rfl, ?_⟩⟩
        have ext := exka.trans (Evl.Ex.new (o := .tup [V.str "", V.str "row"]) ht)
        have ready : (w0 = "given" ∨ w0 = "index" ∨ w0 = "reason") ∨ (w0 = "row" ∨ w0 = "") := by
          rcases hfo1 with ⟨h, _⟩ | ⟨h, _⟩ | ⟨h, _⟩ | ⟨h, _⟩ | ⟨h, _⟩
          · exact .inl (.inl h)
          · exact .inl (.inr (.inl h))
          · exact .inl (.inr (.inr h))
          · exact .inr (.inl h)
          · exact .inr (.inr h)
        rcases ready with hw | hw
        · have hw1 : w0 ≠ "" := by rcases hw with rfl | rfl | rfl <;> decide
          have hw2 : w0 ≠ "row" := by rcases hw with rfl | rfl | rfl <;> decide
          have hk : keptOf (.ref rp) w0 = .ref rp := if_neg hw1
          refine if_yes (by rcases hw with rfl | rfl | rfl <;> decide) ?_
          have rowIs : ∀ H', Ex Hk H' → Dp K H' (.ref rp) (.list [.int r, .int r2]) := fun H' e => .lst (SqL.of (e _ _ hrk)) (.cons (.int _) (.cons (.int _) .nil))
          refine ⟨_, rfl, _, rfl, e1, .ref rp, w0, C j, fs1, rfl, hex1.keep ext, hfo1.ex ext, T.ek j (by omega), hno1, fun z => absurd z hw2, fun Hx exx => ?_⟩
          refine ⟨_, rfl, _, _, by rw [hk]; exact rowIs _ (ext.trans exx), rowIs _ (ext.trans exx), rfl, rfl, _, rfl, if_no (by rw [PySem.SeqAt.eqv_refl _ rfl]; rfl) ?_⟩
          refine ⟨_, rfl, _, rfl, e2, .ref rp, w0, C j, fs2, rfl, hex2.keep (ext.trans exx), hfo2.ex (ext.trans exx), T.ek j (by omega), hno2, fun z => absurd z hw2, fun Hy exy => ?_⟩
          refine ⟨_, rfl, _, _, by rw [hk]; exact rowIs _ (ext.trans (exx.trans exy)), rowIs _ (ext.trans (exx.trans exy)), rfl, rfl, _, rfl, if_no (by rw [PySem.SeqAt.eqv_refl _ rfl]; rfl) ?_⟩
          exact ⟨_, _, _, _, rfl, exa.trans ((Evl.Ex.new ht).trans (exx.trans exy))⟩
        · refine if_no (by rcases hw with rfl | rfl <;> decide) ?_
          exact ⟨_, _, _, _, rfl, exa.trans (Evl.Ex.new ht)⟩
      · rintro σ' Hm ⟨o4, o5, o6, o7, rfl, exm⟩
        -- return all([..])
        refine ⟨5, rfl, by decide, by decide, fun D hD => lc_range (n := 5) (fun i H' => Ex Hm H' ∧ H' D = some (.lst ((List.range i).map fun _ => V.bl true))) ⟨Evl.Ex.new hD, upd_same⟩ (fun i H' hi hpv => ?_) fun H' ⟨ee, hl⟩ => ?_⟩
        · obtain ⟨ei, hi2⟩ := hpv
          refine ⟨rfl, _, rfl, _, rfl, _, _, rfl, by omega, by omega, fun Hn exn => ⟨true, true, rfl, rfl, _, exn _ _ hi2, by rw [List.length_map, List.length_range]; exact Nat.lt_trans hi (by decide), (ei.trans exn).mut hD, ?_⟩⟩
          rw [upd_same, List.range_succ, List.map_append]
          rfl
        · refine ⟨D, (List.range 5).map fun _ => true, rfl, SqL.of hl, ?_⟩
          exact k H' fun b o hb h => ee _ _ (exm _ _ (exl _ _ (keepk b o hb h)))
end
end K01
end
section
namespace K01
open PySem PySem.Spec PyProof.Rows L2 Exv
theorem scLw : FnScope ["cells", "at"] ["cells"] (defScope sLaw) := ⟨rfl, rfl, rfl, by decide +kernel, rfl, by decide +kernel, by decide +kernel⟩
/-- law(cells) -/
def spLaw (K : PySem.W.Frag) : Sp := fun vs H Q _ => ∃ (c : Addr) (ns : List Int), vs = [.ref c] ∧ SqL K H c (ns.map V.int) ∧ ns.length ≤ 63 ∧ ∀ H', Q (.bl true) H'
section
variable {P : Program} {w : World} {K : PySem.W.Frag} {mg : Str → Option Value} {base : Heap} {C : Nat → Addr}
theorem turns (n : Nat) : ∃ m : Nat, m ≤ 3 ∧ (if (if (3 : Int) < (n : Int) then (3 : Int) else (n : Int)) > 2 then (if (3 : Int) < (n : Int) then (3 : Int) else (n : Int)) else 2) = (m : Int) := by
  by_cases h : (3 : Int) < (n : Int)
  · exact ⟨3, by decide, by rw [if_pos h]; rfl⟩
  · rw [if_neg h]
    by_cases h2 : (n : Int) > 2
    · exact ⟨n, by omega, by rw [if_pos h2]⟩
    · exact ⟨2, by decide, by rw [if_neg h2]; rfl⟩
theorem ok_law {f fPu fR : Addr} {fd dPu dR : FuncData} (F : Fun K "law" "law" sLaw f fd) (T : Txt P K mg C)
    (GPu : FnOk P w K mg base CX0 1 fPu dPu ["cells", "at"] (spPurse K)) (mPu : mg "_law_purse" = some (.ref fPu)) (kPu : PySem.W.keepIn K (.ref fPu) = true) (bPu : Binds K dPu ["cells", "at"] [])
    (GR : FnG P w K mg base 3 fR dR ["draws"] spRight) (mR : mg "_law_right" = some (.ref fR)) (kR : PySem.W.keepIn K (.ref fR) = true) (bR : Binds K dR ["draws"] []) : FnG P w K mg base 4 f fd ["cells"] (spLaw K) := by
  refine okG F scLw (fun vs H Q E h => ?_) (fun cdv A outer s H vs Q E hgd hr h => ?_)
  · obtain ⟨c, ns, rfl, _⟩ := h
    rfl
  · obtain ⟨c, ns, rfl, hc, hl, k⟩ := h
    have hr1 : Room 1 (A.deeper (envOfC "law" (defScope sLaw) s.heap.objs.size f cdv)) := hr.mono (by decide)
    refine ⟨_, pss_one (ps_ret (pe_callB (cr_all rfl) (by rfl) T.all boot_all (pa_cons (pe_lc (own := [("at", 1)]) (g := gName 1) (tt := tYes) rfl scLw.nd
      (pi_range1 rfl T.rng (pa_cons (pe_callB (call_max2 rfl) (by rfl) T.max boot_max (pa_cons pe_int (pa_cons (pe_callB (call_min2 rfl) (by rfl) T.min boot_min (pa_cons (pe_callB call_len_seq (by rfl) T.len boot_len (pa_cons (pv 0) pa_nil)) (pa_cons pe_int pa_nil))) pa_nil))) pa_nil))
      (blkOk_by (N := ["cells", "at"]) (sc := defScope sLaw) (by decide +kernel)) (fun _ _ _ _ _ => pg_name (i := 1) scLw.nd rfl (Or.inl rfl)) (fun _ _ _ _ _ => pts_nil)
      (fun _ _ _ _ _ => pe_callG (E := E0) GR hgd hr rfl mR kR bR (pa_cons (pe_call GPu hr1 rfl mPu kPu bPu .nil pass0 (pa_cons (pv 0) (pa_cons (pv 1) pa_nil))) pa_nil))) pa_nil))), ?_⟩
    obtain ⟨m, m3, em⟩ := turns ns.length
    refine ⟨_, rfl, c, _, rfl, .inl hc, ?_⟩
    rw [show ((ns.map V.int).length : Int) = ns.length by rw [List.length_map]]
    refine ⟨_, _, rfl, ?_⟩
    refine ⟨_, _, rfl, ?_⟩
    refine ⟨_, rfl, by rw [em]; omega, by rw [em]; omega, ?_⟩
    rw [em]
    intro D hD
    refine lc_range (n := m) (fun i H' => Ex H H' ∧ H' D = some (.lst ((List.range i).map fun _ => V.bl true))) ⟨Evl.Ex.new hD, upd_same⟩ (fun i H' hi hpv => ?_) fun H' ⟨ee, hl2⟩ => ?_
    · obtain ⟨ei, hi2⟩ := hpv
      refine ⟨rfl, _, rfl, _, rfl, c, ns, _, rfl, Evl.ex_l ei hc, hl, by omega, by omega, fun H2 p e2 hp hdr => ⟨p, rfl, hdr, fun H3 k3 => ?_⟩⟩
      have e3 : Ex H' H3 := fun b o hb => k3 b o (fun z => by rw [z, hp] at hb; cases hb) (e2 b o hb)
      refine ⟨_, e3 _ _ hi2, by rw [List.length_map, List.length_range]; exact Nat.lt_trans hi (Nat.lt_of_le_of_lt m3 (by decide)), (ei.trans e3).mut hD, ?_⟩
      rw [upd_same, List.range_succ, List.map_append]
      rfl
    · refine ⟨D, (List.range m).map fun _ => true, rfl, SqL.of (by rw [hl2, List.map_map]; rfl), ?_⟩
      have : ((List.range m).map fun _ => true).all id = true := by
        rw [List.all_map, List.all_eq_true]; intro _ _; rfl
      first | exact this ▸ k H' | (rw [this]; exact k H') | skip
end
end K01
end
section
/-! From the promise of the law's def, called where no repr is under way, to the walk. -/
namespace K01
open PySem PySem.Spec PyProof.Rows L2 Exv
/-- the script's object -/
abbrev cellsObj (vs : List Value) : Obj := { cls := .type "list", data := .seq vs.toArray }
open Classical in
/-- the script is told, unless it is one of the written objects -/
noncomputable def tell (K : PySem.W.Frag) (a : Addr) (vs : List Value) (ns : List Int) : Hp := fun b =>
  if b = a ∧ K.lookup a = none then some (.frz (cellsObj vs) (.lst (ns.map V.int))) else none
section
variable {K : PySem.W.Frag} {a b : Addr} {vs : List Value} {ns : List Int} {h : Heap} {mg : Str → Option Value}
theorem tell_is {u : HO} (z : tell K a vs ns b = some u) : b = a ∧ K.lookup a = none ∧ u = .frz (cellsObj vs) (.lst (ns.map V.int)) := by
  unfold tell at z
  split at z
  · rename_i q
    exact ⟨q.1, q.2, (Option.some.inj z).symm⟩
  · cases z
theorem tell_at (q : K.lookup a = none) : tell K a vs ns a = some (.frz (cellsObj vs) (.lst (ns.map V.int))) := if_pos ⟨rfl, q⟩
theorem hid_tell {o : Obj} (e : h.get? b = some o) (n : b = a → K.lookup a = none → False) : (hidT h (tell K a vs ns)).get? b = some o := by
  refine hidT_get e ?_
  cases z : tell K a vs ns b with
  | none => rfl
  | some u => exact (n (tell_is z).1 (tell_is z).2.1).elim
theorem hid_ns {c : Addr} {m : Str → Option Value} (ha : h.get? a = some (cellsObj vs)) (x : h.Ns c m) : (hidT h (tell K a vs ns)).Ns c m := by
  obtain ⟨o, es, ep, g, d, r⟩ := x
  refine ⟨o, es, ep, hid_tell g fun e _ => ?_, d, r⟩
  subst e
  rw [ha] at g
  cases g
  have d' : Data.seq vs.toArray _ = Data.dict es ep := d; cases d'
theorem hid_kin (X : K.In h) : K.In (hidT h (tell K a vs ns)) := fun b o e => hid_tell (X b o e) fun z q => by
  subst z
  rw [q] at e
  cases e
/-- what a call of a law's def gives -/
abbrev Good (s : Shared) : PySem.Result → Shared → Prop := fun r s' => r = .ok (.ret (.bool true)) ∧ OldK s.heap s'.heap ∧ s'.os = s.os ∧ AllBare s'.gens
theorem good_call {P : Program} {w : World} {mb : Str → Option Value} {k : Nat} {f : Addr} {fd : FuncData} {x : Str} {sp : Sp} {s : Shared}
    (X : K.In s.heap) (hm : s.heap.Ns mainGlobals mg) (hb : s.heap.Ns builtinsNs mb) (hbb : ∀ x : Str, x ≠ "__name__" → mb x = bootBuiltins x) (nl : s.heap.NoLimit) (hg : s.gens = #[])
    (ha : s.heap.get? a = some (cellsObj vs)) (hi : IntsAre vs ns) (hl : ns.length ≤ sizeLine) (hr : Room k callerA) (bnd : ∀ (s : Shared) (u : Value), BindsTo s fd ⟨[u], []⟩ [(x, u)])
    (F : ∀ base : Heap, K.In base → base.Ns mainGlobals mg → FnG P w K mg base k f fd [x] sp)
    (pr : ∀ H : Hp, SqL K H a (ns.map V.int) → sp [.ref a] H (fun v _ => v = .bl true) E0) :
    codeAny (model P w) callerA (.call (.ref f) ⟨[.ref a], []⟩) (Good s) s := by
  have X0 := hid_kin (a := a) (vs := vs) (ns := ns) X
  have m0 := hid_ns (K := K) (ns := ns) ha hm
  have nl0 : (hidT s.heap (tell K a vs ns)).NoLimit := by
    obtain ⟨mc, n1, n2⟩ := nl
    exact ⟨mc, hid_ns ha n1, n2⟩
  have okT : HOk P w (tell K a vs ns) s.heap := fun b u z => by
    obtain ⟨rfl, _, rfl⟩ := tell_is z
    exact ⟨ha, by rw [List.length_map]; exact hl, vs, _, vals_ints hi, ha⟩
  have told : SqL K (tell K a vs ns) a (ns.map V.int) := by
    cases q : K.lookup a with
    | none => exact .inl (.inr ⟨_, tell_at q⟩)
    | some o =>
      have e := X a o q
      rw [ha] at e
      cases e
      exact .inr ⟨_, vs.toArray, _, q, rfl, rfl, rfl, by rw [List.size_toArray, hi.length]; exact hl, vals_ints hi⟩
  have e0 : Env0 P w K mg (hidT s.heap (tell K a vs ns)) callerA [] s (tell K a vs ns) := by
    refine ⟨rfl, ⟨X0, m0, ⟨mb, hid_ns ha hb, hbb⟩, nl0⟩, fun b o e => of_hidT e, Nat.le_of_eq (hidT_size _ _), trivial, fun b hb => ?_, okT, .of_eq hg⟩
    exact absurd (show b ∈ ([] : List Addr) from hb) List.not_mem_nil
  refine codeAny_mono ((F _ X0 m0).run callerA [] s _ ⟨[.ref a], []⟩ [.ref a] [.ref a] _ _ rfl hr e0 (bnd s _) (.cons rfl .nil) (pr _ told)) fun r s' h => ?_
  rcases r with e | fl
  · exact h.elim
  cases fl with
  | ret u =>
    obtain ⟨v, H2, os, bare, un, ok2, rv, q⟩ := h
    have q : v = .bl true := q
    subst q
    obtain rfl : u = Value.bool true := rv; refine ⟨rfl, OldK.of_keep fun b o e => ?_, os, bare⟩
    cases z : tell K a vs ns b with
    | none => exact un.keep b o e z (fun y => absurd (show b ∈ ([] : List Addr) from y) List.not_mem_nil) (by simp)
    | some u =>
      obtain ⟨rfl, _, rfl⟩ := tell_is z
      have e2 := (ok2 _ _ (un.frzs _ _ _ z)).1
      rw [ha] at e
      cases e
      exact e2
  | next => exact h.elim
  | brk => exact h.elim
  | cont => exact h.elim
/-- the walk that the head asks for -/
theorem good_walk {l : PySem.W.OpenLaw} {n k : Nat} {q : Program} {loose : List Str} {XP : (Str → Option Value) → Heap → Prop} {YP : World → Heap → Prop} {d : DefRec} {K : Params → PySem.W.Frag} {sp : PySem.W.Frag → Sp} {x : Str}
    (hn : l.most = some n) (hdf : d.params.defaults = []) (hn2 : n ≤ sizeLine) (hr : Room k callerA) (hY : ∀ (w : World) (h : Heap), YP w h → (K w.params).In h)
    (pr : ∀ (K : PySem.W.Frag) (H : Hp) (a : Addr) (ns : List Int), ns.length ≤ n → SqL K H a (ns.map V.int) → sp K [.ref a] H (fun v _ => v = .bl true) E0)
    (F : ∀ (w : World) (mg : Str → Option Value) (f : Addr) (h : Heap), (K w.params).In h → h.Ns mainGlobals mg → mg d.name = some (.ref f) →
      ∃ fd : FuncData, (∀ (s : Shared) (u : Value), BindsTo s fd ⟨[u], []⟩ [(x, u)]) ∧ ∀ base : Heap, (K w.params).In base → base.Ns mainGlobals mg → FnG l.prog w (K w.params) mg base k f fd [x] (sp (K w.params))) : PySem.W.WalkO q loose XP YP l.row.toRowW d [] (fun f vs => PySem.call f vs) := by
  refine Att.attach_call hn hdf fun w s0 s mg mb f o pm cd doc a vs ns G Y ho hd hcd hf hobj hi hlen hg => ?_
  obtain ⟨fd, bnd, hF⟩ := F w mg f _ (hY w _ Y) G.T.g hf
  exact good_call (hY w _ Y) G.T.g G.T.b G.T.builtins G.T.nolimit hg hobj hi (Nat.le_trans hlen hn2) hr bnd hF fun H hS => pr _ H a ns hlen hS
end
end K01
end
section
/-! From what is written of the top to the whole. -/
namespace K01
open PySem PySem.Spec PyProof.Rows L2 Exv
open PySem.W (nsIn findIn typeIn keepIn subIn mroIn codeIn specialIn takesIn clsIn hasDictIn kitOne kitAny exmOne excIn ks_superIn ksFn)
open PySem.HandSPX PySem.Calls
open SupX
section
variable {P : Program} {K : PySem.W.Frag} {mg : Str → Option Value} {h : Heap}
/-- what is asked of the class at C alone -/
def exkB (K : PySem.W.Frag) (C : Addr) : Bool :=
  findIn K (.ref C) "__getattribute__" == some (some (.builtin "BaseException.__getattribute__")) && (findIn K (.ref C) "__getattr__" == some none && (subIn K (.ref C) (.type "BaseException") == some true && ((clsIn K C).isSome && (hasDictIn K C && (findIn K (.ref C) "__class__" == some (some (.builtin "object.__class__")) &&
    (mroIn K C (.type "object") == some true && (specialIn K (.builtin "object.__class__") "__get__" == some (some (.builtin "getset_descriptor.__get__")) && takesIn K (.builtin "object.__class__") == some true)))))))
theorem exk_of {C : Addr} (e : exkB K C = true) : ExK K C := by
  unfold exkB at e
  simp only [Bool.and_eq_true, beq_iff_eq] at e
  obtain ⟨e1, e2, e3, e4, e5, e6, e7, e8, e9⟩ := e
  exact ⟨e1, e2, e3, e4, e5, e6, e7, e8, e9⟩
/-- .. of each with the base, ValueError, the five -/
def oneB (K : PySem.W.Frag) (M C : Addr) : Bool :=
  exkB K C && (kitOne K (.ref C) (.ref M) == some true && (kitOne K (.ref C) (.type "ValueError") == some true && (kitAny K (.ref C) five == some false && (exmOne K (.ref C) (.ref M) == some true && typeIn K (.ref C) == some (.type "type")))))
/-- .. of each two -/
def pairB (K : PySem.W.Frag) (Cs : List Addr) : Bool := (List.range 25).all fun i => (List.range 24).all fun j => kitOne K (.ref (Cs.getD i 0)) (.ref (Cs.getD j 0)) == some (decide (i = j))
structure Each (K : PySem.W.Frag) (Cs : List Addr) : Prop where
  one : ∀ i, i ≤ 24 → oneB K (Cs.getD 24 0) (Cs.getD i 0) = true
  two : pairB K Cs = true
theorem each_of {Cs : List Addr} (e : ((List.range 25).all fun i => oneB K (Cs.getD 24 0) (Cs.getD i 0)) = true) (e2 : pairB K Cs = true) : Each K Cs :=
  ⟨fun i hi => List.all_eq_true.mp e i (List.mem_range.mpr (by omega)), e2⟩
theorem pair_of {Cs : List Addr} (e : pairB K Cs = true) {i j : Nat} (hi : i ≤ 24) (hj : j < 24) : kitOne K (.ref (Cs.getD i 0)) (.ref (Cs.getD j 0)) = some (decide (i = j)) := by
  unfold pairB at e
  have e1 := List.all_eq_true.mp e i (List.mem_range.mpr (by omega))
  exact beq_iff_eq.mp (List.all_eq_true.mp e1 j (List.mem_range.mpr hj))
theorem one_of {M C : Addr} (e : oneB K M C = true) : ExK K C ∧ kitOne K (.ref C) (.ref M) = some true ∧ kitOne K (.ref C) (.type "ValueError") = some true ∧ kitAny K (.ref C) five = some false ∧ exmOne K (.ref C) (.ref M) = some true ∧ typeIn K (.ref C) = some (.type "type") := by
  unfold oneB at e
  simp only [Bool.and_eq_true, beq_iff_eq] at e
  exact ⟨exk_of e.1, e.2⟩

/-- the class's own part -/
theorem supC_mk {C fI cc cda N : Addr} {nm q : Str} {bs bm : List Value} {sn : List Str} {sub : List Value} {ab : Bool} {col : Option Bool} {dd : Option Addr} {k0 k1 k2 k3 k5 : Option Value} {cl ccl : Value} {cld cdd : Option Addr} {csl ccs : Array (Option Value)} {vs : Array Value} {file : Str} {tf : Tok}
    (a2 : K.lookup C = some (excClassObj nm q C N bs bm true sn sub ab col dd k0 k1 k2 k3 k5 "ValueError.__new__")) (r : refsVE bm = true) (sa : findIn K (.ref C) "__setattr__" = some (some (.builtin "object.__setattr__")))
    (sup : ks_superIn K C C "__init__" = some (some (.builtin "ValueError.__init__"))) (iC : findIn K (.ref C) "__init__" = some (some (.ref fI))) (tC : typeIn K (.ref fI) = some (.type "function")) (kC : keepIn K (.ref C) = true) (sV : subIn K (.ref C) (.type "ValueError") = some true)
    (sC : mroIn K C (.ref C) = some true) (op : nsIn K cStatics "thirdparty.any" = some none) (ce : K.lookup cc = some ⟨cl, cld, .cell (some (.ref C)), csl⟩) (co : K.lookup cda = some ⟨ccl, cdd, .fields vs, ccs⟩) (fi : vs[2]? = some (.str file tf)) (ma : ((P.main.file : Str) == file) = true) : SupC P K C fI cc cda :=
  ⟨⟨⟨nm, q, N, bs, bm, sn, sub, ab, col, dd, k0, k1, k2, k3, k5⟩, a2, r⟩, sa, sup, iC, tC, kC, sV, sC, op, ⟨cl, cld, csl, ce⟩, ⟨ccl, cdd, vs, ccs, file, tf, co, fi, ma⟩⟩
theorem sup1_mk {x p qual : Str} {C fI cc cda : Addr} {oc doc pm ct : Value} {od an : Option Addr} {osl : Array (Option Value)} {a b q0 q1 q2 q3 q4 q5 q6 q7 q8 q9 : Pos} (X : K.In h) (G : h.Ns mainGlobals mg) (hp : p = "given" ∨ p = "index" ∨ p = "reason")
    (g : nsIn K mainGlobals x = some (some (.ref C))) (no : findIn K (.ref C) p = some none) (T : SupC P K C fI cc cda)
    (l : K.lookup fI = some ⟨oc, od, .func (ksFn "__init__" qual (iA p a b) (iB p q0 q1 q2 q3 q4 q5 q6 q7 q8 q9) (iS p) .none .none doc pm an (.ref cda) ct cc), osl⟩) (li : (q2.endLine == q4.line) = true) (cd : codeIn K (.ref cda) qual = true) : Sup1 P K mg x p C := by
  refine ⟨PySem.W.mg_of X G g, ⟨fI, cc, cda, qual, _, T, ⟨⟨oc, od, doc, pm, an, ct, osl, a, b, q0, q1, q2, q3, q4, q5, q6, q7, q8, q9, li, rfl, l, cd⟩, ?_, ?_, ?_, ?_⟩, ?_, ?_⟩, no, T.kC⟩
  · rcases hp with rfl | rfl | rfl <;> decide
  · rcases hp with rfl | rfl | rfl <;> decide
  · rcases hp with rfl | rfl | rfl <;> decide
  · rcases hp with rfl | rfl | rfl <;> decide
  · rcases hp with rfl | rfl | rfl <;> exact fun _ _ _ => .of_eq rfl
  · rcases hp with rfl | rfl | rfl <;> exact fun _ _ _ => .of_eq rfl
theorem sup2_mk {x qual : Str} {C fI cc cda : Addr} {oc doc pm ct : Value} {od an : Option Addr} {osl : Array (Option Value)} {a b c q0 q1 q2 q3 q3' q4 q5 q6 q7 q8 q9 r6 r7 r8 r9 : Pos} (X : K.In h) (G : h.Ns mainGlobals mg)
    (g : nsIn K mainGlobals x = some (some (.ref C))) (no : findIn K (.ref C) "row" = some none) (no2 : findIn K (.ref C) "word" = some none) (T : SupC P K C fI cc cda)
    (l : K.lookup fI = some ⟨oc, od, .func (ksFn "__init__" qual (jA a b c) (jB q0 q1 q2 q3 q3' q4 q5 q6 q7 q8 q9 r6 r7 r8 r9) jS .none .none doc pm an (.ref cda) ct cc), osl⟩) (li : (q2.endLine == q4.line) = true) (cd : codeIn K (.ref cda) qual = true) : Sup2 P K mg x C :=
  ⟨PySem.W.mg_of X G g, ⟨fI, cc, cda, qual, _, T, ⟨⟨oc, od, doc, pm, an, ct, osl, a, b, c, q0, q1, q2, q3, q3', q4, q5, q6, q7, q8, q9, r6, r7, r8, r9, li, rfl, l, cd⟩⟩, fun _ _ _ _ => .of_eq rfl, fun _ _ _ _ => .of_eq rfl⟩, no, no2, T.kC⟩
theorem sup0_mk {x : Str} {C : Addr} (X : K.In h) (G : h.Ns mainGlobals mg) (g : nsIn K mainGlobals x = some (some (.ref C))) (ex : excIn K C veTail "ValueError.__new__" = true) (kC : keepIn K (.ref C) = true) : Sup0 K mg x C := ⟨PySem.W.mg_of X G g, ex, kC⟩
/-- a def of the module -/
structure Df (K : PySem.W.Frag) (mg : Str → Option Value) (x : Str) (st : Stmt) (f : Addr) (fd : FuncData) : Prop where
  m : mg x = some (.ref f)
  F : Fun K x x st f fd
theorem df_mk {x : Str} {st : Stmt} {f : Addr} {oc kV doc pm cdv ct : Value} {od an : Option Addr} {osl : Array (Option Value)} (X : K.In h) (G : h.Ns mainGlobals mg) (g : nsIn K mainGlobals x = some (some (.ref f)))
    (l : K.lookup f = some ⟨oc, od, .func (PySem.W.fnOf x x (defArgs st) (defBody st) (defScope st) .none kV doc pm an cdv ct), osl⟩) (c : codeIn K cdv x = true) (k : keepIn K (.ref f) = true) : Df K mg x st f (PySem.W.fnOf x x (defArgs st) (defBody st) (defScope st) .none kV doc pm an cdv ct) :=
  ⟨PySem.W.mg_of X G g, fun_mk l c k⟩
/-- names that the module does not bind -/
def freeNames : List Str := ["super", "isinstance", "repr", "int", "abs", "len", "range", "max", "min", "all", "ValueError", "LookupError", "ArithmeticError", "TypeError", "AttributeError", "RuntimeError"]
structure Free (mg : Str → Option Value) : Prop where
  all : ∀ x ∈ freeNames, mg x = none
theorem free_mk (X : K.In h) (G : h.Ns mainGlobals mg) (e : (freeNames.all fun x => nsIn K mainGlobals x == some none) = true) : Free mg := ⟨fun x hx => PySem.W.mg_none_of X G (beq_iff_eq.mp (List.all_eq_true.mp e x hx))⟩
end
section
variable {P : Program} {K : PySem.W.Frag} {mg : Str → Option Value}

theorem txt_mk {C0 C1 C2 C3 C4 C5 C6 C7 C8 C9 C10 C11 C12 C13 C14 C15 C16 C17 C18 C19 C20 C21 C22 C23 C24 : Addr} (Fr : Free mg) (top : (P.main.scope.names.lookup ("super" : Str)).isSome = false)
    (s0 : Sup1 P K mg "InvalidText" "given" C0)
    (s1 : Sup1 P K mg "InvalidProgram" "given" C1)
    (s2 : Sup1 P K mg "InvalidTree" "given" C2)
    (s3 : Sup1 P K mg "InvalidUnits" "given" C3)
    (s4 : Sup1 P K mg "InvalidNumber" "given" C4)
    (s5 : Sup1 P K mg "InvalidName" "given" C5)
    (s6 : Sup1 P K mg "InvalidSetting" "given" C6)
    (s7 : Sup1 P K mg "InvalidGivens" "given" C7)
    (s8 : Sup1 P K mg "InvalidStep" "given" C8)
    (s9 : Sup1 P K mg "InvalidSum" "given" C9)
    (s10 : Sup1 P K mg "InvalidCode" "given" C10)
    (s11 : Sup1 P K mg "InvalidTable" "given" C11)
    (s12 : Sup1 P K mg "InvalidLot" "given" C12)
    (s13 : Sup1 P K mg "InvalidWord" "given" C13)
    (s14 : Sup1 P K mg "InvalidLine" "given" C14)
    (s15 : Sup1 P K mg "NotADesk" "given" C15)
    (s16 : Sup2 P K mg "NotWellRead" C16)
    (s17 : Sup1 P K mg "InvalidRows" "index" C17)
    (s18 : Sup1 P K mg "InvalidDeed" "index" C18)
    (s19 : Sup1 P K mg "Barred" "reason" C19)
    (s20 : Sup0 K mg "NothingToUndo" C20)
    (s21 : Sup0 K mg "NotFree" C21)
    (s22 : Sup0 K mg "NoForm" C22)
    (s23 : Sup0 K mg "TooGreat" C23)
    (s24 : Sup0 K mg "MotionError" C24)
    (E : Each K [C0, C1, C2, C3, C4, C5, C6, C7, C8, C9, C10, C11, C12, C13, C14, C15, C16, C17, C18, C19, C20, C21, C22, C23, C24]) : Txt P K mg fun i => ([C0, C1, C2, C3, C4, C5, C6, C7, C8, C9, C10, C11, C12, C13, C14, C15, C16, C17, C18, C19, C20, C21, C22, C23, C24] : List Addr).getD i 0 :=
  have fr : ∀ x, x ∈ freeNames → mg x = none := Fr.all
  { sg := ⟨fr _ (by decide), top⟩,
    s0 := s0,
    s1 := s1,
    s2 := s2,
    s3 := s3,
    s4 := s4,
    s5 := s5,
    s6 := s6,
    s7 := s7,
    s8 := s8,
    s9 := s9,
    s10 := s10,
    s11 := s11,
    s12 := s12,
    s13 := s13,
    s14 := s14,
    s15 := s15,
    s16 := s16,
    s17 := s17,
    s18 := s18,
    s19 := s19,
    s20 := s20,
    s21 := s21,
    s22 := s22,
    s23 := s23,
    s24 := s24,
    ek := fun i hi => (one_of (E.one i hi)).1, kk := fun i j hi hj => pair_of E.two hi hj, kM := fun i hi => (one_of (E.one i hi)).2.1, kV := fun i hi => (one_of (E.one i hi)).2.2.1, k5 := fun i hi => (one_of (E.one i hi)).2.2.2.1, kx := fun i hi => (one_of (E.one i hi)).2.2.2.2.1, ty := fun i hi => (one_of (E.one i hi)).2.2.2.2.2,
    isi := fr _ (by decide), rep := fr _ (by decide), int := fr _ (by decide), abs := fr _ (by decide), len := fr _ (by decide), rng := fr _ (by decide), max := fr _ (by decide), min := fr _ (by decide), all := fr _ (by decide), bV := fr _ (by decide), b1 := fr _ (by decide), b2 := fr _ (by decide), b3 := fr _ (by decide), b4 := fr _ (by decide), b5 := fr _ (by decide) }
end
section
variable {P : Program} {w : World} {K : PySem.W.Frag} {mg : Str → Option Value} {C : Nat → Addr}
/-- the whole: the promise of the law -/
theorem law_all {fLaw fPurse fTake fPick fGiven fIndex fKinds fKept fPlain fCaught fRight : Addr} {dLaw dPurse dTake dPick dGiven dIndex dKinds dKept dPlain dCaught dRight : FuncData} (T : Txt P K mg C) (DLaw : Df K mg "law" sLaw fLaw dLaw)
    (DPurse : Df K mg "_law_purse" sPurse fPurse dPurse)
    (DTake : Df K mg "_law_take" sTake fTake dTake)
    (DPick : Df K mg "_law_pick" sPick fPick dPick)
    (DGiven : Df K mg "_law_given_ones" sGiven fGiven dGiven)
    (DIndex : Df K mg "_law_index_ones" sIndex fIndex dIndex)
    (DKinds : Df K mg "_law_kinds" sKinds fKinds dKinds)
    (DKept : Df K mg "_law_kept" sKept fKept dKept)
    (DPlain : Df K mg "_law_is_plain" sPlain fPlain dPlain)
    (DCaught : Df K mg "_law_is_caught" sCaught fCaught dCaught)
    (DRight : Df K mg "_law_right" sRight fRight dRight)
    : (∀ (s : Shared) (u : Value), BindsTo s dLaw ⟨[u], []⟩ [("cells", u)]) ∧ ∀ base : Heap, FnG P w K mg base 4 fLaw dLaw ["cells"] (spLaw K) := by
  have bPurse : Binds K dPurse ["cells", "at"] [] := DPurse.F.binds fun _ _ _ _ _ _ us hl => match us, hl with | [_, _], _ => rfl
  have bTake : Binds K dTake ["draws", "many"] [] := DTake.F.binds fun _ _ _ _ _ _ us hl => match us, hl with | [_, _], _ => rfl
  have bPick : Binds K dPick ["draws", "some"] [] := DPick.F.binds fun _ _ _ _ _ _ us hl => match us, hl with | [_, _], _ => rfl
  have bGiven : Binds K dGiven ["thing"] [] := DGiven.F.binds fun _ _ _ _ _ _ us hl => match us, hl with | [_], _ => rfl
  have bIndex : Binds K dIndex ["thing"] [] := DIndex.F.binds fun _ _ _ _ _ _ us hl => match us, hl with | [_], _ => rfl
  have bKinds : Binds K dKinds ["e"] [] := DKinds.F.binds fun _ _ _ _ _ _ us hl => match us, hl with | [_], _ => rfl
  have bKept : Binds K dKept ["word", "e"] [] := DKept.F.binds fun _ _ _ _ _ _ us hl => match us, hl with | [_, _], _ => rfl
  have bPlain : Binds K dPlain ["e"] [] := DPlain.F.binds fun _ _ _ _ _ _ us hl => match us, hl with | [_], _ => rfl
  have bCaught : Binds K dCaught ["way", "thing"] [] := DCaught.F.binds fun _ _ _ _ _ _ us hl => match us, hl with | [_, _], _ => rfl
  have bRight : Binds K dRight ["draws"] [] := DRight.F.binds fun _ _ _ _ _ _ us hl => match us, hl with | [_], _ => rfl
  refine ⟨fun s u => ?_, fun base => ?_⟩
  · obtain ⟨oc, od, kV, doc, pm, an, cdv, ct, osl, rfl, _⟩ := DLaw.F.ex
    exact .of_eq rfl
  · have Z : Callees P w K mg base C fTake fPick fGiven fIndex fKinds fKept fPlain fCaught dTake dPick dGiven dIndex dKinds dKept dPlain dCaught :=
      { gT := ok_take DTake.F T, gPi := ok_pick DPick.F T DTake.F DTake.m bTake, gG := ok_given DGiven.F T, gI := ok_index DIndex.F T, gK := ok_kinds DKinds.F T, gKe := ok_kept DKept.F T, gP := ok_plain DPlain.F T, gC := ok_caught DCaught.F T DKinds.F DKinds.m bKinds DPlain.F DPlain.m bPlain,
        mT := DTake.m, mPi := DPick.m, mG := DGiven.m, mI := DIndex.m, mK := DKinds.m, mKe := DKept.m, mP := DPlain.m, mC := DCaught.m,
        kT := DTake.F.kp, kPi := DPick.F.kp, kG := DGiven.F.kp, kI := DIndex.F.kp, kK := DKinds.F.kp, kKe := DKept.F.kp, kP := DPlain.F.kp, kC := DCaught.F.kp,
        bT := bTake, bPi := bPick, bG := bGiven, bI := bIndex, bK := bKinds, bKe := bKept, bP := bPlain, bC := bCaught }
    exact ok_law DLaw.F T (ok_purse DPurse.F T) DPurse.m DPurse.F.kp bPurse (ok_right DRight.F T Z) DRight.m DRight.F.kp bRight
/-- .. as the walk asks for it -/
theorem law_fin {h : Heap} {fa : Addr} {C0 C1 C2 C3 C4 C5 C6 C7 C8 C9 C10 C11 C12 C13 C14 C15 C16 C17 C18 C19 C20 C21 C22 C23 C24 : Addr} {fLaw fPurse fTake fPick fGiven fIndex fKinds fKept fPlain fCaught fRight : Addr} {dLaw dPurse dTake dPick dGiven dIndex dKinds dKept dPlain dCaught dRight : FuncData} (hf : mg "law" = some (.ref fa)) (Fr : Free mg) (top : (P.main.scope.names.lookup ("super" : Str)).isSome = false)
    (s0 : Sup1 P K mg "InvalidText" "given" C0)
    (s1 : Sup1 P K mg "InvalidProgram" "given" C1)
    (s2 : Sup1 P K mg "InvalidTree" "given" C2)
    (s3 : Sup1 P K mg "InvalidUnits" "given" C3)
    (s4 : Sup1 P K mg "InvalidNumber" "given" C4)
    (s5 : Sup1 P K mg "InvalidName" "given" C5)
    (s6 : Sup1 P K mg "InvalidSetting" "given" C6)
    (s7 : Sup1 P K mg "InvalidGivens" "given" C7)
    (s8 : Sup1 P K mg "InvalidStep" "given" C8)
    (s9 : Sup1 P K mg "InvalidSum" "given" C9)
    (s10 : Sup1 P K mg "InvalidCode" "given" C10)
    (s11 : Sup1 P K mg "InvalidTable" "given" C11)
    (s12 : Sup1 P K mg "InvalidLot" "given" C12)
    (s13 : Sup1 P K mg "InvalidWord" "given" C13)
    (s14 : Sup1 P K mg "InvalidLine" "given" C14)
    (s15 : Sup1 P K mg "NotADesk" "given" C15)
    (s16 : Sup2 P K mg "NotWellRead" C16)
    (s17 : Sup1 P K mg "InvalidRows" "index" C17)
    (s18 : Sup1 P K mg "InvalidDeed" "index" C18)
    (s19 : Sup1 P K mg "Barred" "reason" C19)
    (s20 : Sup0 K mg "NothingToUndo" C20)
    (s21 : Sup0 K mg "NotFree" C21)
    (s22 : Sup0 K mg "NoForm" C22)
    (s23 : Sup0 K mg "TooGreat" C23)
    (s24 : Sup0 K mg "MotionError" C24)
    (E : Each K [C0, C1, C2, C3, C4, C5, C6, C7, C8, C9, C10, C11, C12, C13, C14, C15, C16, C17, C18, C19, C20, C21, C22, C23, C24])
    (DLaw : Df K mg "law" sLaw fLaw dLaw)
    (DPurse : Df K mg "_law_purse" sPurse fPurse dPurse)
    (DTake : Df K mg "_law_take" sTake fTake dTake)
    (DPick : Df K mg "_law_pick" sPick fPick dPick)
    (DGiven : Df K mg "_law_given_ones" sGiven fGiven dGiven)
    (DIndex : Df K mg "_law_index_ones" sIndex fIndex dIndex)
    (DKinds : Df K mg "_law_kinds" sKinds fKinds dKinds)
    (DKept : Df K mg "_law_kept" sKept fKept dKept)
    (DPlain : Df K mg "_law_is_plain" sPlain fPlain dPlain)
    (DCaught : Df K mg "_law_is_caught" sCaught fCaught dCaught)
    (DRight : Df K mg "_law_right" sRight fRight dRight)
    : ∃ fd : FuncData, (∀ (s : Shared) (u : Value), BindsTo s fd ⟨[u], []⟩ [("cells", u)]) ∧ ∀ base : Heap, K.In base → base.Ns mainGlobals mg → FnG P w K mg base 4 fa fd ["cells"] (spLaw K) := by
  obtain rfl : fLaw = fa := Value.ref.inj (Option.some.inj (DLaw.m.symm.trans hf))
  obtain ⟨b, q⟩ := law_all (w := w) (txt_mk Fr top s0 s1 s2 s3 s4 s5 s6 s7 s8 s9 s10 s11 s12 s13 s14 s15 s16 s17 s18 s19 s20 s21 s22 s23 s24 E) DLaw DPurse DTake DPick DGiven DIndex DKinds DKept DPlain DCaught DRight
  exact ⟨dLaw, b, fun base _ _ => q base⟩
end
end K01
end
set_option maxHeartbeats 0
open PySem PySem.W PyProof.Rows L2 Exv
open_top k01head for PySem.Challenge.rw_motiontongue_k01_errors_each_of_its_own
theorem PySem.Challenge.cw_motiontongue_k01_errors_each_of_its_own_holds : PySem.Challenge.rw_motiontongue_k01_errors_each_of_its_own.Holds := by
  refine k01head ?_
  k_fill
  refine K01.good_walk (l := PySem.Challenge.rw_motiontongue_k01_errors_each_of_its_own) (sp := K01.spLaw) (k := 4) (x := "cells") rfl rfl (by decide) ⟨rfl, by decide, by decide⟩ (fun w h Y => PySem.W.kIn_of Y) (fun K H a ns hl hS => ⟨a, ns, rfl, hS, hl, fun _ => rfl⟩) ?F
  case F =>
    intro w mg fa h KX G hmg
    refine' K01.law_fin (P := (PySem.Challenge.rw_motiontongue_k01_errors_each_of_its_own).prog) (h := h) hmg (K01.free_mk KX G ?fr) ?top ?s0 ?s1 ?s2 ?s3 ?s4 ?s5 ?s6 ?s7 ?s8 ?s9 ?s10 ?s11 ?s12 ?s13 ?s14 ?s15 ?s16 ?s17 ?s18 ?s19 ?s20 ?s21 ?s22 ?s23 ?s24 (K01.each_of ?e1 ?e2) ?dLaw ?dPurse ?dTake ?dPick ?dGiven ?dIndex ?dKinds ?dKept ?dPlain ?dCaught ?dRight
    (case fr => kernel_rfl)
    (case top => kernel_rfl)
    (case s0 => refine' K01.sup1_mk KX G (.inl rfl) ?g ?no (K01.supC_mk ?a2 ?r ?sa ?sup ?iC ?tC ?kC ?sV ?sC ?op ?ce ?co ?fi ?ma) ?l ?li ?cd; (case g => k_is); (case no => k_is); (case a2 => k_is); (case r => decide +kernel); (case sa => k_is); (case sup => ks_is); (case iC => k_is); (case tC => k_is); (case kC => k_is); (case sV => k_is); (case sC => k_is); (case op => k_is); (case l => k_is); (case li => rfl); (case cd => k_is); (case ce => k_is); (case co => k_is); (case fi => rfl); (case ma => kernel_rfl))
    (case s1 => refine' K01.sup1_mk KX G (.inl rfl) ?g ?no (K01.supC_mk ?a2 ?r ?sa ?sup ?iC ?tC ?kC ?sV ?sC ?op ?ce ?co ?fi ?ma) ?l ?li ?cd; (case g => k_is); (case no => k_is); (case a2 => k_is); (case r => decide +kernel); (case sa => k_is); (case sup => ks_is); (case iC => k_is); (case tC => k_is); (case kC => k_is); (case sV => k_is); (case sC => k_is); (case op => k_is); (case l => k_is); (case li => rfl); (case cd => k_is); (case ce => k_is); (case co => k_is); (case fi => rfl); (case ma => kernel_rfl))
    (case s2 => refine' K01.sup1_mk KX G (.inl rfl) ?g ?no (K01.supC_mk ?a2 ?r ?sa ?sup ?iC ?tC ?kC ?sV ?sC ?op ?ce ?co ?fi ?ma) ?l ?li ?cd; (case g => k_is); (case no => k_is); (case a2 => k_is); (case r => decide +kernel); (case sa => k_is); (case sup => ks_is); (case iC => k_is); (case tC => k_is); (case kC => k_is); (case sV => k_is); (case sC => k_is); (case op => k_is); (case l => k_is); (case li => rfl); (case cd => k_is); (case ce => k_is); (case co => k_is); (case fi => rfl); (case ma => kernel_rfl))
    (case s3 => refine' K01.sup1_mk KX G (.inl rfl) ?g ?no (K01.supC_mk ?a2 ?r ?sa ?sup ?iC ?tC ?kC ?sV ?sC ?op ?ce ?co ?fi ?ma) ?l ?li ?cd; (case g => k_is); (case no => k_is); (case a2 => k_is); (case r => decide +kernel); (case sa => k_is); (case sup => ks_is); (case iC => k_is); (case tC => k_is); (case kC => k_is); (case sV => k_is); (case sC => k_is); (case op => k_is); (case l => k_is); (case li => rfl); (case cd => k_is); (case ce => k_is); (case co => k_is); (case fi => rfl); (case ma => kernel_rfl))
    (case s4 => refine' K01.sup1_mk KX G (.inl rfl) ?g ?no (K01.supC_mk ?a2 ?r ?sa ?sup ?iC ?tC ?kC ?sV ?sC ?op ?ce ?co ?fi ?ma) ?l ?li ?cd; (case g => k_is); (case no => k_is); (case a2 => k_is); (case r => decide +kernel); (case sa => k_is); (case sup => ks_is); (case iC => k_is); (case tC => k_is); (case kC => k_is); (case sV => k_is); (case sC => k_is); (case op => k_is); (case l => k_is); (case li => rfl); (case cd => k_is); (case ce => k_is); (case co => k_is); (case fi => rfl); (case ma => kernel_rfl))
    (case s5 => refine' K01.sup1_mk KX G (.inl rfl) ?g ?no (K01.supC_mk ?a2 ?r ?sa ?sup ?iC ?tC ?kC ?sV ?sC ?op ?ce ?co ?fi ?ma) ?l ?li ?cd; (case g => k_is); (case no => k_is); (case a2 => k_is); (case r => decide +kernel); (case sa => k_is); (case sup => ks_is); (case iC => k_is); (case tC => k_is); (case kC => k_is); (case sV => k_is); (case sC => k_is); (case op => k_is); (case l => k_is); (case li => rfl); (case cd => k_is); (case ce => k_is); (case co => k_is); (case fi => rfl); (case ma => kernel_rfl))
    (case s6 => refine' K01.sup1_mk KX G (.inl rfl) ?g ?no (K01.supC_mk ?a2 ?r ?sa ?sup ?iC ?tC ?kC ?sV ?sC ?op ?ce ?co ?fi ?ma) ?l ?li ?cd; (case g => k_is); (case no => k_is); (case a2 => k_is); (case r => decide +kernel); (case sa => k_is); (case sup => ks_is); (case iC => k_is); (case tC => k_is); (case kC => k_is); (case sV => k_is); (case sC => k_is); (case op => k_is); (case l => k_is); (case li => rfl); (case cd => k_is); (case ce => k_is); (case co => k_is); (case fi => rfl); (case ma => kernel_rfl))
    (case s7 => refine' K01.sup1_mk KX G (.inl rfl) ?g ?no (K01.supC_mk ?a2 ?r ?sa ?sup ?iC ?tC ?kC ?sV ?sC ?op ?ce ?co ?fi ?ma) ?l ?li ?cd; (case g => k_is); (case no => k_is); (case a2 => k_is); (case r => decide +kernel); (case sa => k_is); (case sup => ks_is); (case iC => k_is); (case tC => k_is); (case kC => k_is); (case sV => k_is); (case sC => k_is); (case op => k_is); (case l => k_is); (case li => rfl); (case cd => k_is); (case ce => k_is); (case co => k_is); (case fi => rfl); (case ma => kernel_rfl))
    (case s8 => refine' K01.sup1_mk KX G (.inl rfl) ?g ?no (K01.supC_mk ?a2 ?r ?sa ?sup ?iC ?tC ?kC ?sV ?sC ?op ?ce ?co ?fi ?ma) ?l ?li ?cd; (case g => k_is); (case no => k_is); (case a2 => k_is); (case r => decide +kernel); (case sa => k_is); (case sup => ks_is); (case iC => k_is); (case tC => k_is); (case kC => k_is); (case sV => k_is); (case sC => k_is); (case op => k_is); (case l => k_is); (case li => rfl); (case cd => k_is); (case ce => k_is); (case co => k_is); (case fi => rfl); (case ma => kernel_rfl))
    (case s9 => refine' K01.sup1_mk KX G (.inl rfl) ?g ?no (K01.supC_mk ?a2 ?r ?sa ?sup ?iC ?tC ?kC ?sV ?sC ?op ?ce ?co ?fi ?ma) ?l ?li ?cd; (case g => k_is); (case no => k_is); (case a2 => k_is); (case r => decide +kernel); (case sa => k_is); (case sup => ks_is); (case iC => k_is); (case tC => k_is); (case kC => k_is); (case sV => k_is); (case sC => k_is); (case op => k_is); (case l => k_is); (case li => rfl); (case cd => k_is); (case ce => k_is); (case co => k_is); (case fi => rfl); (case ma => kernel_rfl))
    (case s10 => refine' K01.sup1_mk KX G (.inl rfl) ?g ?no (K01.supC_mk ?a2 ?r ?sa ?sup ?iC ?tC ?kC ?sV ?sC ?op ?ce ?co ?fi ?ma) ?l ?li ?cd; (case g => k_is); (case no => k_is); (case a2 => k_is); (case r => decide +kernel); (case sa => k_is); (case sup => ks_is); (case iC => k_is); (case tC => k_is); (case kC => k_is); (case sV => k_is); (case sC => k_is); (case op => k_is); (case l => k_is); (case li => rfl); (case cd => k_is); (case ce => k_is); (case co => k_is); (case fi => rfl); (case ma => kernel_rfl))
    (case s11 => refine' K01.sup1_mk KX G (.inl rfl) ?g ?no (K01.supC_mk ?a2 ?r ?sa ?sup ?iC ?tC ?kC ?sV ?sC ?op ?ce ?co ?fi ?ma) ?l ?li ?cd; (case g => k_is); (case no => k_is); (case a2 => k_is); (case r => decide +kernel); (case sa => k_is); (case sup => ks_is); (case iC => k_is); (case tC => k_is); (case kC => k_is); (case sV => k_is); (case sC => k_is); (case op => k_is); (case l => k_is); (case li => rfl); (case cd => k_is); (case ce => k_is); (case co => k_is); (case fi => rfl); (case ma => kernel_rfl))
    (case s12 => refine' K01.sup1_mk KX G (.inl rfl) ?g ?no (K01.supC_mk ?a2 ?r ?sa ?sup ?iC ?tC ?kC ?sV ?sC ?op ?ce ?co ?fi ?ma) ?l ?li ?cd; (case g => k_is); (case no => k_is); (case a2 => k_is); (case r => decide +kernel); (case sa => k_is); (case sup => ks_is); (case iC => k_is); (case tC => k_is); (case kC => k_is); (case sV => k_is); (case sC => k_is); (case op => k_is); (case l => k_is); (case li => rfl); (case cd => k_is); (case ce => k_is); (case co => k_is); (case fi => rfl); (case ma => kernel_rfl))
    (case s13 => refine' K01.sup1_mk KX G (.inl rfl) ?g ?no (K01.supC_mk ?a2 ?r ?sa ?sup ?iC ?tC ?kC ?sV ?sC ?op ?ce ?co ?fi ?ma) ?l ?li ?cd; (case g => k_is); (case no => k_is); (case a2 => k_is); (case r => decide +kernel); (case sa => k_is); (case sup => ks_is); (case iC => k_is); (case tC => k_is); (case kC => k_is); (case sV => k_is); (case sC => k_is); (case op => k_is); (case l => k_is); (case li => rfl); (case cd => k_is); (case ce => k_is); (case co => k_is); (case fi => rfl); (case ma => kernel_rfl))
    (case s14 => refine' K01.sup1_mk KX G (.inl rfl) ?g ?no (K01.supC_mk ?a2 ?r ?sa ?sup ?iC ?tC ?kC ?sV ?sC ?op ?ce ?co ?fi ?ma) ?l ?li ?cd; (case g => k_is); (case no => k_is); (case a2 => k_is); (case r => decide +kernel); (case sa => k_is); (case sup => ks_is); (case iC => k_is); (case tC => k_is); (case kC => k_is); (case sV => k_is); (case sC => k_is); (case op => k_is); (case l => k_is); (case li => rfl); (case cd => k_is); (case ce => k_is); (case co => k_is); (case fi => rfl); (case ma => kernel_rfl))
    (case s15 => refine' K01.sup1_mk KX G (.inl rfl) ?g ?no (K01.supC_mk ?a2 ?r ?sa ?sup ?iC ?tC ?kC ?sV ?sC ?op ?ce ?co ?fi ?ma) ?l ?li ?cd; (case g => k_is); (case no => k_is); (case a2 => k_is); (case r => decide +kernel); (case sa => k_is); (case sup => ks_is); (case iC => k_is); (case tC => k_is); (case kC => k_is); (case sV => k_is); (case sC => k_is); (case op => k_is); (case l => k_is); (case li => rfl); (case cd => k_is); (case ce => k_is); (case co => k_is); (case fi => rfl); (case ma => kernel_rfl))
    (case s16 => refine' K01.sup2_mk KX G ?g ?no ?no2 (K01.supC_mk ?a2 ?r ?sa ?sup ?iC ?tC ?kC ?sV ?sC ?op ?ce ?co ?fi ?ma) ?l ?li ?cd; (case g => k_is); (case no => k_is); (case no2 => k_is); (case a2 => k_is); (case r => decide +kernel); (case sa => k_is); (case sup => ks_is); (case iC => k_is); (case tC => k_is); (case kC => k_is); (case sV => k_is); (case sC => k_is); (case op => k_is); (case l => k_is); (case li => rfl); (case cd => k_is); (case ce => k_is); (case co => k_is); (case fi => rfl); (case ma => kernel_rfl))
    (case s17 => refine' K01.sup1_mk KX G (.inr (.inl rfl)) ?g ?no (K01.supC_mk ?a2 ?r ?sa ?sup ?iC ?tC ?kC ?sV ?sC ?op ?ce ?co ?fi ?ma) ?l ?li ?cd; (case g => k_is); (case no => k_is); (case a2 => k_is); (case r => decide +kernel); (case sa => k_is); (case sup => ks_is); (case iC => k_is); (case tC => k_is); (case kC => k_is); (case sV => k_is); (case sC => k_is); (case op => k_is); (case l => k_is); (case li => rfl); (case cd => k_is); (case ce => k_is); (case co => k_is); (case fi => rfl); (case ma => kernel_rfl))
    (case s18 => refine' K01.sup1_mk KX G (.inr (.inl rfl)) ?g ?no (K01.supC_mk ?a2 ?r ?sa ?sup ?iC ?tC ?kC ?sV ?sC ?op ?ce ?co ?fi ?ma) ?l ?li ?cd; (case g => k_is); (case no => k_is); (case a2 => k_is); (case r => decide +kernel); (case sa => k_is); (case sup => ks_is); (case iC => k_is); (case tC => k_is); (case kC => k_is); (case sV => k_is); (case sC => k_is); (case op => k_is); (case l => k_is); (case li => rfl); (case cd => k_is); (case ce => k_is); (case co => k_is); (case fi => rfl); (case ma => kernel_rfl))
    (case s19 => refine' K01.sup1_mk KX G (.inr (.inr rfl)) ?g ?no (K01.supC_mk ?a2 ?r ?sa ?sup ?iC ?tC ?kC ?sV ?sC ?op ?ce ?co ?fi ?ma) ?l ?li ?cd; (case g => k_is); (case no => k_is); (case a2 => k_is); (case r => decide +kernel); (case sa => k_is); (case sup => ks_is); (case iC => k_is); (case tC => k_is); (case kC => k_is); (case sV => k_is); (case sC => k_is); (case op => k_is); (case l => k_is); (case li => rfl); (case cd => k_is); (case ce => k_is); (case co => k_is); (case fi => rfl); (case ma => kernel_rfl))
    (case s20 => refine' K01.sup0_mk KX G ?g ?ex ?kC; (case g => k_is); (case ex => kernel_rfl); (case kC => k_is))
    (case s21 => refine' K01.sup0_mk KX G ?g ?ex ?kC; (case g => k_is); (case ex => kernel_rfl); (case kC => k_is))
    (case s22 => refine' K01.sup0_mk KX G ?g ?ex ?kC; (case g => k_is); (case ex => kernel_rfl); (case kC => k_is))
    (case s23 => refine' K01.sup0_mk KX G ?g ?ex ?kC; (case g => k_is); (case ex => kernel_rfl); (case kC => k_is))
    (case s24 => refine' K01.sup0_mk KX G ?g ?ex ?kC; (case g => k_is); (case ex => kernel_rfl); (case kC => k_is))
    (case e1 => kernel_rfl)
    (case e2 => kernel_rfl)
    (case dLaw => refine' K01.df_mk KX G ?g ?l ?c ?k; (case g => k_is); (case l => k_is); (case c => k_is); (case k => k_is))
    (case dPurse => refine' K01.df_mk KX G ?g ?l ?c ?k; (case g => k_is); (case l => k_is); (case c => k_is); (case k => k_is))
    (case dTake => refine' K01.df_mk KX G ?g ?l ?c ?k; (case g => k_is); (case l => k_is); (case c => k_is); (case k => k_is))
    (case dPick => refine' K01.df_mk KX G ?g ?l ?c ?k; (case g => k_is); (case l => k_is); (case c => k_is); (case k => k_is))
    (case dGiven => refine' K01.df_mk KX G ?g ?l ?c ?k; (case g => k_is); (case l => k_is); (case c => k_is); (case k => k_is))
    (case dIndex => refine' K01.df_mk KX G ?g ?l ?c ?k; (case g => k_is); (case l => k_is); (case c => k_is); (case k => k_is))
    (case dKinds => refine' K01.df_mk KX G ?g ?l ?c ?k; (case g => k_is); (case l => k_is); (case c => k_is); (case k => k_is))
    (case dKept => refine' K01.df_mk KX G ?g ?l ?c ?k; (case g => k_is); (case l => k_is); (case c => k_is); (case k => k_is))
    (case dPlain => refine' K01.df_mk KX G ?g ?l ?c ?k; (case g => k_is); (case l => k_is); (case c => k_is); (case k => k_is))
    (case dCaught => refine' K01.df_mk KX G ?g ?l ?c ?k; (case g => k_is); (case l => k_is); (case c => k_is); (case k => k_is))
    (case dRight => refine' K01.df_mk KX G ?g ?l ?c ?k; (case g => k_is); (case l => k_is); (case c => k_is); (case k => k_is))
