import PyProof.Rows.All
import Wide.All
import OpenK.AllK
import Wide.FinOn
import KE.KStateDown
import KE.KExcSuper
import HandS.ForExc
import HandS.Exc
import HandS.ExcInit
import HandS.ExcSuper
import HandS.Star
import HandS.Comp
import KE.KLam
import KE.KDflt
import HandS.Lambda
import HandS.ExcIs
import KE.KExcIs
import HandS.IsInst
import Lean
import HandS.Defaults
import HandS.EndTab
import HandS.Head0
import HandS.Head1
import HandS.Head2
import HandS.HeadEnd
import HandS.HeadHook1
import HandS.HeadHook2
import HandS.HeadHook3
import HandS.HeadHook4
import HandS.HeadWalk
import KE.KDictCopyH
import KE.KDictSum
import HandS.More
import HandS.MethStar
import PyProof.EnumMake
import KE.GoesZip
import KE.GoesMore
import HandS.Base
import HandS.Call
import HandS.List
import HandS.Dict
import HandS.Iter
import HandS.Zip0
import HandS.Zip
import PyProof.StrOps2
import HandS.Text
import HandS.RaiseMore
import HandS.Conv
import HandS.ForDict
import HandS.TupAny
import HandS.TupMul
import PySem.Challenge.RW_opencuts_k88_asks_as_texts
section
set_option Elab.async false
set_option linter.all false
set_option maxRecDepth 100000
set_option maxHeartbeats 4000000
/-! Errors of one's own whose __init__ says super().__init__(text) and stores its parameters. -/
namespace PySem
namespace ErrX
open PySem.W PySem.Calls PyProof.Rows PySem.HandSPX
/-- what the written part says of such a class at C, its __init__ at fI, its cell at cc, the code object at cda -/
structure Txt (K : Frag) (P : Program) (C fI cc cda : Addr) (qual : Str) (params : Arguments) (body : List Stmt) (scope : Scope) (fs : List Str) : Prop where
  cls : ∃ nm q N bs bm sn sub ab col dd k0 k1 k2 k3 k5, K.lookup C = some (excClassObj nm q C N bs bm true sn sub ab col dd k0 k1 k2 k3 k5 "ValueError.__new__") ∧ refsVE bm = true ∧
    alongIn K "__init__" bm = some (some (.builtin "ValueError.__init__"))
  sa : findIn K (.ref C) "__setattr__" = some (some (.builtin "object.__setattr__"))
  noF : ∀ f ∈ fs, findIn K (.ref C) f = some none
  iC : findIn K (.ref C) "__init__" = some (some (.ref fI))
  tC : typeIn K (.ref fI) = some (.type "function")
  veC : subIn K (.ref C) (.type "ValueError") = some true
  kC : keepIn K (.ref C) = true
  exC : subIn K (.ref C) (.type "BaseException") = some true
  tyC : typeIn K (.ref C) = some (.type "type")
  opq : nsIn K cStatics "thirdparty.any" = some none
  sup : nsIn K mainGlobals "super" = some none
  top : (P.main.scope.names.lookup ("super" : Str)).isSome = false
  fn : ∃ (oc : Value) (od : Option Addr) (doc pm : Value) (an : Option Addr) (ct : Value) (osl : Array (Option Value)),
    K.lookup fI = some ⟨oc, od, .func (ksFn "__init__" qual params body scope .none .none doc pm an (.ref cda) ct cc), osl⟩
  code : codeIn K (.ref cda) qual = true
  file : ∃ (ccl : Value) (cdd : Option Addr) (vs : Array Value) (ccs : Array (Option Value)) (file : Str) (tf : Tok), K.lookup cda = some ⟨ccl, cdd, .fields vs, ccs⟩ ∧ vs[2]? = some (.str file tf) ∧ ((P.main.file : Str) == file) = true
  cell : ∃ (cl : Value) (cld : Option Addr) (csl : Array (Option Value)), K.lookup cc = some ⟨cl, cld, .cell (some (.ref C)), csl⟩
section
variable {prog : Program} {w : World} {A : Around} {E : Value → Shared → Prop} {R : Result → Shared → Prop} {s : Shared} {K : Frag} {C fI cc cda : Addr} {qual : Str} {params : Arguments} {body : List Stmt} {scope : Scope} {fs : List Str}
theorem call_mw {u e t0 C : Addr} {h : Heap} {g : Array GenState} {d : Drawn} {t : Nat} {os : OsState} {nm q : Str} {N : Addr} {bs bm : List Value} {hdct : Bool} {sn : List Str} {sub : List Value} {ab : Bool} {col : Option Bool} {dd : Option Addr} {k0 k1 k2 k3 k5 : Option Value} {rest : List Value} {Q : Value → Shared → Prop}
    (hC : h.get? C = some (excClassObj nm q C N bs bm hdct sn sub ab col dd k0 k1 k2 k3 k5 "ValueError.__new__")) (he : h.get? e = some (excO C t0)) (hu : h.get? u = some (kxs_mw "ValueError.__init__" e)) (hrest : rest.length ≤ sizeLine)
    (hq : ∀ h' t1, (∀ b o, b ≠ e → h.get? b = some o → h'.get? b = some o) → h'.get? e = some (excO C t1) → Q .none ⟨h', g, d, t, os⟩) :
    wpAny (model prog w) A (call (.ref u) rest) Q E ⟨h, g, d, t, os⟩ := by
  refine wpAny_call (codeAny_of_tree ?_)
  show wpAny _ A.in1 (callAny (.ref u) ⟨rest, []⟩) _ _ _
  simp only [callAny]
  refine wpAny_bind (wpAny_load hu ?_)
  simp only [kxs_mw, show (Value.type "method-wrapper" == Value.type "method" || Value.type "method-wrapper" == Value.type "builtin_function_or_method" || Value.type "method-wrapper" == Value.type "method-wrapper") = true by decide, if_true]
  refine KFB.if_so (by decide) ?_
  refine wpAny_bind (check_bound_init F.excBase_ValueError.toExcCallFacts hC he rfl ?_)
  refine wpAny_bind (wpAny_pure (wpAny_pure ?_))
  refine ⟨plainId_quiet F.excBase_ValueError.init.plain _, codeAny_builtin F.excBase_ValueError.initEntry ?_⟩
  exact exc_init_tree (cls := .ref C) (t0 := t0) (dv := none) (c2 := .none) (c3 := .none) (b4 := .bool false) he hrest fun h' k e' t' => hq h' _ k e'
/-- super().__init__(text) in the __init__ of such a class: the args are laid anew -/
theorem super_stmt {L x t0 : Addr} {m mg mb : Str → Option Value} {body0 : List Stmt} {txt : Str} {p0 p1 p2 p3 p4 p5 : Pos} {kk : Tok} {Q : Flow → Shared → Prop} {ar : Arg}
    (T : Txt K prog C fI cc cda qual params body scope fs) (X : K.In s.heap) (hg : s.heap.Ns mainGlobals mg) (hb : s.heap.Ns builtinsNs mb) (hbb : ∀ x : Str, x ≠ "__name__" → mb x = bootBuiltins x)
    (hns : s.heap.Ns L m) (har : (params.posonlyargs ++ params.args).head? = some ar) (hself : m ar.arg = some (.ref x)) (hx : s.heap.get? x = some (excO C t0)) (hxC : x ≠ C)
    {pl : Sem Bool} (he : eval (.Call (.Attribute (.Call (.Name "super" p0) [] [] p1) "__init__" p2) [.Constant (.str txt) kk p3] [] p4) (ksEnv qual scope L fI (.ref cda) cc) = (do
      let ov ← attributeBase (.Call (.Name "super" p0) [] [] p1) "__init__" (ksEnv qual scope L fI (.ref cda) cc) (eval (.Call (.Name "super" p0) [] [] p1) (ksEnv qual scope L fI (.ref cda) cc))
      standAt p2.atName
      let (f, first) ← holding [ov] (getMethod ov "__init__" pl)
      callWith p4 f first (backTo p4 (starEach [.Constant (.str txt) kk p3] (ksEnv qual scope L fI (.ref cda) cc))) []))
    (hks : scope.names.lookup ("super" : Str) = some .globalImplicit) (hkc : scope.names.lookup ("__class__" : Str) = some .free) (hka : scope.names.lookup ar.arg = some .local) (hk : scope.kind = .function)
    (hq : ∀ h' tk t1, (∀ b o, b ≠ x → s.heap.get? b = some o → h'.get? b = some o) → h'.get? x = some (excO C t1) → Q .next { s with heap := h', toks := tk }) :
    _root_.PySem.wpAt (model prog w) A (.func body0 (ksEnv qual scope L fI (.ref cda) cc)) (exec (.Expr (.Call (.Attribute (.Call (.Name "super" p0) [] [] p1) "__init__" p2) [.Constant (.str txt) kk p3] [] p4) p5) (ksEnv qual scope L fI (.ref cda) cc)) Q E s := by
  obtain ⟨nm, q, N, bs, bm, sn, sub, ab, col, dd, k0, k1, k2, k3, k5, hC, hbm, hal⟩ := T.cls
  obtain ⟨oc, od, doc, pm, an, ct, osl, hf⟩ := T.fn
  obtain ⟨ccl, cdd, vs, ccs, file, tf, hcode, hvs, hfile⟩ := T.file
  obtain ⟨cl, cld, csl, hcell⟩ := T.cell
  have hcl : clsIn K C = some { name := nm, bases := bs, mro := .ref C :: bm, ns := N, qualname := q, hasDict := true, slotNames := sn, subclasses := sub, abstract := ab, collection := col, hasDel := false } := by unfold clsIn; rw [hC] <;> rfl
  have hmro : mroIn K C (.ref C) = some true := by
    unfold mroIn
    rw [hcl, Option.bind_some, if_neg (show ¬ (List.isEmpty (Value.ref C :: bm) = true) from Bool.false_ne_true)]
    simp
  have hdw : ((Value.ref C :: bm).dropWhile (· != .ref C)).drop 1 = bm := by simp [List.dropWhile_cons]
  obtain ⟨hh, g, d, t, os⟩ := s
  refine ks_wpAt_Expr_any (Q := Q) ?_ (by simp [interactive, hk]) (by rfl)
  refine ks_wpAt_MethodCall ?_ he
  refine ks_wpAt_super_base (env := ksEnv qual scope L fI (.ref cda) cc) hks hkc (by decide) rfl (X _ _ hf) rfl har rfl (X _ _ hcode) rfl hvs hfile T.top ?_
  refine ks_loadName_global hk hks (loadGlobal_builtin (env := ksEnv qual scope L fI (.ref cda) cc) hg (mg_none_of X hg T.sup) hb ((hbb _ (by decide +kernel)).trans (by first | boot_by_name | rfl | kernel_rfl)) ⟨rfl, ?_⟩)
  refine wpAny_loadName_free hk hkc rfl ⟨_, X _ _ hcell, rfl⟩ ?_
  refine wpAny_loadName_local hk hka hns hself ?_
  refine ks_wpAny_isType_cls (X _ _ hC) rfl ⟨rfl, ?_⟩
  refine ks_wpAny_call_super (X _ _ hC) rfl hx rfl (fun c z => by cases z) (looks_mroIn X hmro) (fun h1 e1 k1 => ?_)
  have X1 : K.In h1 := X.keeps k1
  have hI : Looks (model prog w) h1 (isInstance (.ref x) (.type "ValueError")) true :=
    (show Looks (model prog w) h1 (typeOf (.ref x)) (.ref C) from fun A Q E s k q => wpAny_typeOf_ref (k _ _ (k1 _ _ hx)) q).andThen (looks_subIn X1 T.veC)
  refine kxs_getMethod kxs_ValueError e1 (looks_opaque X1 T.opq) (fun A Q E s k q => wpAny_bind ((looks_clsIn X1 hcl) A _ E s k (wpAny_pure q))) hdw X1 hal hI hxC (by decide) ?_
  have hu : (h1.push (kxs_mw "ValueError.__init__" x)).get? h1.objs.size = some (kxs_mw "ValueError.__init__" x) := Heap.get?_push_size _ rfl
  have k2 : ∀ b o, h1.get? b = some o → (h1.push (kxs_mw "ValueError.__init__" x)).get? b = some o := fun b o z => Heap.get?_push_of_some _ z
  refine kxs_callWith (i := "ValueError.__init__") (x := x) (by rfl) (evalArgs_plain ?_)
  show wpAny _ _ (spliced ((false, eval (.Constant (.str txt) kk p3) (ksEnv qual scope L fI (.ref cda) cc)) :: [])) _ _ _
  refine Calls.spliced_cons (Calls.Constant_str (Calls.spliced_nil ⟨hu, ?_⟩))
  refine call_mw (k2 _ _ (X1 _ _ hC)) (k2 _ _ (k1 _ _ hx)) hu (by rw [sizeLine_eq]; show 1 ≤ 16777216; decide) fun h' t1 k' e' => ?_
  exact hq h' _ t1 (fun b o hb z => k' b o hb (k2 b o (k1 b o z))) e'
/-- what __init__ leaves of a fresh exception at x -/
structure InitEnd (h h' : Heap) (x C dx t1 : Addr) (mA : Str → Option Value) : Prop where
  keep : ∀ b o, b ≠ x → h.get? b = some o → h'.get? b = some o
  obj : h'.get? x = some { cls := .ref C, dict := some dx, data := .fields #[.ref t1, .none, .none, .none, .bool false, .none] }
  dbig : h.objs.size ≤ dx
  dne : dx ≠ x
  ns : h'.Ns1 dx mA
/-- a made one -/
structure Made (h h' : Heap) (e C d : Addr) (mA : Str → Option Value) : Prop where
  keep : ∀ b o, h.get? b = some o → h'.get? b = some o
  new : h.objs.size ≤ e
  obj : ∃ t1 : Addr, h'.get? e = some { cls := .ref C, dict := some d, data := .fields #[.ref t1, .none, .none, .none, .bool false, .none] }
  dbig : h.objs.size ≤ d
  dne : d ≠ e
  ns : h'.Ns1 d mA
/-- what the body must do, its first statement apart: from any heap in which the names hold, it stores -/
def Stores (prog : Program) (w : World) (K : Frag) (C : Addr) (env : Env) (rest : List Stmt) (m : Str → Option Value) (mA : Str → Option Value) : Prop :=
  ∀ (A : Around) (R : Flow → Shared → Prop) (E : Value → Shared → Prop) (s : Shared) (x t0 : Addr), K.In s.heap → s.heap.Ns env.locals m → m "self" = some (.ref x) → x ≠ env.locals → s.heap.get? x = some (excO C t0) → K.lookup x = none →
    (∀ h' tk dx t1, InitEnd s.heap h' x C dx t1 mA → R .next { s with heap := h', toks := tk }) → wpAny (model prog w) A (execs rest env) R E s
theorem err_init {x t0 : Addr} {vs : List Value} {binds : List (Str × Value)} {mg mb : Str → Option Value} {txt : Str} {p0 p1 p2 p3 p4 p5 : Pos} {kk : Tok} {rest : List Stmt} {mA : Str → Option Value} {ar : Arg}
    (T : Txt K prog C fI cc cda qual params (.Expr (.Call (.Attribute (.Call (.Name "super" p0) [] [] p1) "__init__" p2) [.Constant (.str txt) kk p3] [] p4) p5 :: rest) scope fs) (X : K.In s.heap) (hg : s.heap.Ns mainGlobals mg) (hb : s.heap.Ns builtinsNs mb) (hbb : ∀ x : Str, x ≠ "__name__" → mb x = bootBuiltins x)
    (hlim : s.heap.NoLimit) (hx : s.heap.get? x = some (excO C t0)) (hnx : K.lookup x = none) (hxC : x ≠ C) (hroom : A.depth < recursionLimit) (har : (params.posonlyargs ++ params.args).head? = some ar) (har2 : ar.arg = "self")
    (hbind : ∀ (s : Shared) (doc pm : Value) (an : Option Addr) (ct : Value), BindsTo s (ksFn "__init__" qual params (.Expr (.Call (.Attribute (.Call (.Name "super" p0) [] [] p1) "__init__" p2) [.Constant (.str txt) kk p3] [] p4) p5 :: rest) scope .none .none doc pm an (.ref cda) ct cc) ⟨.ref x :: vs, []⟩ binds)
    (hself : binds.reverse.lookup ("self" : Str) = some (.ref x)) (hloc : ∀ y ∈ binds, scope.names.lookup y.1 = some .local) (hcell : ∀ y ∈ scope.names, y.2 ≠ .cell)
    (hks : scope.names.lookup ("super" : Str) = some .globalImplicit) (hkc : scope.names.lookup ("__class__" : Str) = some .free) (hka : scope.names.lookup ("self" : Str) = some .local) (hk : scope.kind = .function) (hco : scope.isCoroutine = false) (hgen : scope.isGenerator = false)
    {pl : Sem Bool} (he : ∀ L, eval (.Call (.Attribute (.Call (.Name "super" p0) [] [] p1) "__init__" p2) [.Constant (.str txt) kk p3] [] p4) (ksEnv qual scope L fI (.ref cda) cc) = (do
      let ov ← attributeBase (.Call (.Name "super" p0) [] [] p1) "__init__" (ksEnv qual scope L fI (.ref cda) cc) (eval (.Call (.Name "super" p0) [] [] p1) (ksEnv qual scope L fI (.ref cda) cc))
      standAt p2.atName
      let (f, first) ← holding [ov] (getMethod ov "__init__" pl)
      callWith p4 f first (backTo p4 (starEach [.Constant (.str txt) kk p3] (ksEnv qual scope L fI (.ref cda) cc))) []))
    (hst : ∀ L, Stores prog w K C (ksEnv qual scope L fI (.ref cda) cc) rest (fun y => binds.reverse.lookup y) mA)
    (hq : ∀ h' tk dx t1, InitEnd s.heap h' x C dx t1 mA → R (.ok (.ret .none)) { s with heap := h', toks := tk }) :
    codeAny (model prog w) A (.call (.ref fI) ⟨.ref x :: vs, []⟩) R s := by
  obtain ⟨oc, od, doc, pm, an, ct, osl, hf⟩ := T.fn
  refine ks_codeAny_call_defAt (fd := ksFn "__init__" qual params _ scope .none .none doc pm an (.ref cda) ct cc) hroom (X _ _ hf) rfl hlim (codeRec_of X T.code) rfl (hbind s doc pm an ct) hcell hloc (fun h₁ hns hk₁ => ?_) hco hgen hk
  have X₁ : K.In h₁ := X.keeps hk₁
  have hxL : x ≠ s.heap.objs.size := Nat.ne_of_lt (Heap.lt_size hx)
  have hLx : h₁.objs.size > s.heap.objs.size := hns.lt
  refine ks_wpAt_execs_cons ?_
  refine super_stmt (L := s.heap.objs.size) (s := { s with heap := h₁, toks := s.toks + binds.length }) T X₁ (hg.keeps hk₁) (hb.keeps hk₁) hbb hns har (by rw [har2]; exact hself) (hk₁ _ _ hx) hxC (he _) hks hkc (by rw [har2]; exact hka) hk fun h2 tk2 t2 k2 e2 => ?_
  show _root_.PySem.wpAt _ _ _ (execs rest _) _ _ _
  refine wpAt_of_wpAny ?_
  have X2 : K.In h2 := fun b o z => k2 b o (fun q => by rw [q, hnx] at z; cases z) (X₁ b o z)
  have hns2 : h2.Ns s.heap.objs.size (fun y => binds.reverse.lookup y) := by
    obtain ⟨o, es, ep, a, b⟩ := hns
    exact ⟨o, es, ep, k2 _ _ (Ne.symm hxL) a, b⟩
  refine hst s.heap.objs.size _ _ _ { s with heap := h2, toks := tk2 } x t2 X2 hns2 hself hxL e2 hnx fun h' tk dx t1 I => ?_
  have kk' : ∀ b o, b ≠ x → s.heap.get? b = some o → h'.get? b = some o := fun b o hb z => I.keep b o hb (k2 b o hb (hk₁ b o z))
  refine hq h' tk dx t1 ⟨kk', I.obj, ?_, I.dne, I.ns⟩
  have q1 : h2.objs.size ≤ dx := I.dbig
  have q2 : s.heap.objs.size < h2.objs.size := hns2.lt
  omega
/-- self.f = f -/
theorem stores1 {f : Str} {v : Value} {m : Str → Option Value} {env : Env} {b1 b2 b3 b4 : Pos} (T : Txt K prog C fI cc cda qual params body scope fs) (hf : f ∈ fs) (hm : m f = some v) (hk : env.scope.kind = .function) (hl : env.kindOf f = some .local) (hls : env.kindOf "self" = some .local) (hd : (f == ("__debug__" : Str)) = false)
    (hs : swapsWith (.Name f b3) (some (.Attribute (.Name "self" b1) f b2)) b4.line env = pure false) : Stores prog w K C env [.Assign [.Attribute (.Name "self" b1) f b2] (.Name f b3) b4] m (fun y => if y = f then some v else none) := by
  obtain ⟨nm, q, N, bs, bm, sn, sub, ab, col, dd, k0, k1, k2, k3, k5, hC, hbm, hal⟩ := T.cls
  have hcl : clsIn K C = some { name := nm, bases := bs, mro := .ref C :: bm, ns := N, qualname := q, hasDict := true, slotNames := sn, subclasses := sub, abstract := ab, collection := col, hasDel := false } := by unfold clsIn; rw [hC] <;> rfl
  intro A R E s x t0 X hns hself hxL hx hnx hq
  refine wpAny_execs_cons (plainObj_wpAny_Assign_Attribute ?_ hs)
  refine ESX.ldL hns hm (ESX.ldL hns hself ?_ hk hls) hk hl hd
  refine set_plain X (ox := excO C t0) (od := none) ⟨hx, rfl, rfl, trivial⟩ T.sa ?_
  refine exc_osa X hx hcl (show refsVE (.ref C :: bm) = true from hbm) rfl (T.noF f hf) (fun h3 tk3 dx k3 dn dne hx3 hn3 => ?_)
  show wpAny _ _ (execs [] _) _ _ _
  exact wpAny_execs_nil (hq h3 tk3 dx t0 ⟨k3, hx3, dn, dne, hn3⟩)
/-- self.f = f; self.g = g -/
theorem stores2 {f g : Str} {v u : Value} {m : Str → Option Value} {env : Env} {b1 b2 b3 b4 c1 c2 c3 c4 : Pos} (T : Txt K prog C fI cc cda qual params body scope fs) (hf : f ∈ fs) (hg : g ∈ fs) (hm : m f = some v) (hm2 : m g = some u) (hk : env.scope.kind = .function) (hl : env.kindOf f = some .local) (hl2 : env.kindOf g = some .local) (hls : env.kindOf "self" = some .local)
    (hd : (f == ("__debug__" : Str)) = false) (hd2 : (g == ("__debug__" : Str)) = false)
    (hs : swapsWith (.Name f b3) (some (.Attribute (.Name "self" b1) f b2)) b4.line env = pure false) (hs2 : swapsWith (.Name g c3) (some (.Attribute (.Name "self" c1) g c2)) c4.line env = pure false) :
    Stores prog w K C env [.Assign [.Attribute (.Name "self" b1) f b2] (.Name f b3) b4, .Assign [.Attribute (.Name "self" c1) g c2] (.Name g c3) c4] m (fun y => if y = g then some u else if y = f then some v else none) := by
  obtain ⟨nm, q, N, bs, bm, sn, sub, ab, col, dd, k0, k1, k2, k3, k5, hC, hbm, hal⟩ := T.cls
  have hcl : clsIn K C = some { name := nm, bases := bs, mro := .ref C :: bm, ns := N, qualname := q, hasDict := true, slotNames := sn, subclasses := sub, abstract := ab, collection := col, hasDel := false } := by unfold clsIn; rw [hC] <;> rfl
  intro A R E s x t0 X hns hself hxL hx hnx hq
  refine wpAny_execs_cons (plainObj_wpAny_Assign_Attribute ?_ hs)
  refine ESX.ldL hns hm (ESX.ldL hns hself ?_ hk hls) hk hl hd
  refine set_plain X (ox := excO C t0) (od := none) ⟨hx, rfl, rfl, trivial⟩ T.sa ?_
  refine exc_osa X hx hcl (show refsVE (.ref C :: bm) = true from hbm) rfl (T.noF f hf) (fun h3 tk3 dx k3 dn dne hx3 hn3 => ?_)
  show wpAny _ _ (execs (_ :: _) _) _ _ _
  have X3 : K.In h3 := fun b o z => k3 b o (fun q => by rw [q, hnx] at z; cases z) (X b o z)
  have hns3 : h3.Ns env.locals m := by
    obtain ⟨o, es, ep, a, b⟩ := hns
    exact ⟨o, es, ep, k3 _ _ (Ne.symm hxL) a, b⟩
  have hw : Within (fun y => if y = f then some v else none) [f] := fun y hy => by
    by_cases e : y = f
    · rw [e]; exact List.mem_cons_self
    · exact absurd (if_neg e) hy
  obtain ⟨oD, _, _, hoD, _, _⟩ := hn3.count hw
  refine wpAny_execs_cons (plainObj_wpAny_Assign_Attribute ?_ hs2)
  refine ESX.ldL hns3 hm2 (ESX.ldL hns3 hself ?_ hk hls) hk hl2 hd2
  refine set_plain X3 (ox := { cls := .ref C, dict := some dx, data := .fields #[.ref t0, .none, .none, .none, .bool false, .none] }) (od := some oD) ⟨hx3, rfl, rfl, hoD⟩ T.sa ?_
  refine OEX.osa_old X3 hx3 hn3 hw (by show 1 ≤ 1000; decide) hcl (show refsVE (.ref C :: bm) = true from hbm) rfl (T.noF g hg) (fun h4 tk4 k4 hn4 => ?_)
  show wpAny _ _ (execs [] _) _ _ _
  refine wpAny_execs_nil (hq h4 tk4 dx t0 ⟨fun b o hb z => k4 b o (fun e => ?_) (k3 b o hb z), k4 _ _ (Ne.symm dne) hx3, dn, dne, hn4⟩)
  have z' := Heap.lt_size z
  rw [e] at z'
  exact absurd (Nat.lt_of_lt_of_le z' dn) (Nat.lt_irrefl _)
/-- what __init__ of the class at C does of a fresh exception, over the base -/
def Inits (prog : Program) (w : World) (K : Frag) (base : Heap) (C fI : Addr) (vs : List Value) (mA : Str → Option Value) : Prop :=
  ∀ (A : Around) (R : Result → Shared → Prop) (s : Shared) (x t0 : Addr), (∀ b o, base.get? b = some o → s.heap.get? b = some o) → s.heap.get? x = some (excO C t0) → K.lookup x = none → x ≠ C → A.depth < recursionLimit →
    (∀ h' tk dx t1, InitEnd s.heap h' x C dx t1 mA → R (.ok (.ret .none)) { s with heap := h', toks := tk }) → codeAny (model prog w) A (.call (.ref fI) ⟨.ref x :: vs, []⟩) R s
/-- C(..) -/
theorem err_made {vs : List Value} {mA : Str → Option Value} {base : Heap} (T : Txt K prog C fI cc cda qual params body scope fs) (X : K.In base) (kb : ∀ b o, base.get? b = some o → s.heap.get? b = some o) (hroom : A.depth + 1 < recursionLimit) (hz : vs.length ≤ sizeLine)
    (hini : Inits prog w K base C fI vs mA) (hq : ∀ h' tk e d, Made s.heap h' e C d mA → R (.ok (.ret (.ref e))) { s with heap := h', toks := tk }) :
    codeAny (model prog w) A (.call (.ref C) ⟨vs, []⟩) R s := by
  obtain ⟨nm, q, N, bs, bm, sn, sub, ab, col, dd, k0, k1, k2, k3, k5, hC, hbm, hal⟩ := T.cls
  have X1 : K.In s.heap := X.keeps kb
  obtain ⟨hp, g, dr, tk, os⟩ := s
  have k : ∀ b o, hp.get? b = some o → ((hp.push (kdv_tup vs)).push (excO C hp.objs.size)).get? b = some o := fun b o e => Heap.get?_push_of_some _ (Heap.get?_push_of_some _ e)
  have hget : ((hp.push (kdv_tup vs)).push (excO C hp.objs.size)).get? (hp.objs.size + 1) = some (excO C hp.objs.size) := by heap_get
  have hnx : K.lookup (hp.objs.size + 1) = none := by
    cases e : K.lookup (hp.objs.size + 1) with
    | none => rfl
    | some o =>
      have z : hp.get? (hp.objs.size + 1) = some o := X1 _ _ e
      exact absurd (Nat.lt_of_succ_lt (Heap.lt_size z)) (Nat.lt_irrefl _)
  have hxC : hp.objs.size + 1 ≠ C := fun z => by
    have q := Heap.lt_size (show hp.get? C = some _ from X1 _ _ hC)
    rw [← z] at q
    exact absurd (Nat.lt_of_succ_lt q) (Nat.lt_irrefl _)
  refine call_own F.excBase_ValueError (fun X => refsVE_contains X bm hbm) (X1 _ _ hC) (looks_findIn X1 T.iC) (fun self => bind_fn X1 self T.tC) hz ?_
  refine hini _ _ ⟨(hp.push (kdv_tup vs)).push (excO C hp.objs.size), g, dr, tk, os⟩ _ _ (fun b o e => k b o (kb b o e)) hget hnx hxC (by show A.depth + 1 < recursionLimit; exact hroom) fun h' tk' dx t1 ⟨k', hx, dn, dne, hns⟩ => ?_
  have old : ∀ b o, hp.get? b = some o → h'.get? b = some o := fun b o e => k' b o (Nat.ne_of_lt (Nat.lt_succ_of_lt (Heap.lt_size e))) (k b o e)
  have z : hp.objs.size + 1 + 1 ≤ dx := by
    have q := dn
    rw [Heap.size_push, Heap.size_push] at q
    exact q
  exact ⟨rfl, hq h' tk' (hp.objs.size + 1) dx ⟨old, Nat.le_succ _, ⟨t1, hx⟩, Nat.le_trans (Nat.le_trans (Nat.le_succ _) (Nat.le_succ _)) z, dne, hns⟩⟩
end
end ErrX
end PySem
namespace L2
open PySem PySem.Spec PyProof.Rows
section
variable {X : Cx} {C fI cc cda : Addr} {qual : Str} {params : Arguments} {body : List Stmt} {scope : Scope} {fs : List Str}
/-- C(e, ..), fs the fields, in the order in which they are stored -/
def tErr (C : Addr) (fs : List Str) (ta : TA) : St → Hp → XK → Prop := fun σ H Q => ta σ H fun vs H1 => vs.length = fs.length ∧ ∀ d, H1 d = none → Q (.ref C) (some d) (upd H1 d (.xd (fs.zip vs)))
theorem pmk_err {x : Str} {e : Expr} {es : List Expr} {ta : TA} {p pos : Pos} {k : Nat} (T : PySem.ErrX.Txt X.K X.prog C fI cc cda qual params body scope fs)
    (hini : L2.Mod X.K X.mg X.base → ∀ us : List Value, us.length = fs.length → PySem.ErrX.Inits X.prog X.w X.K X.base C fI us (fun y => (fs.zip us).lookup y)) (hfs : fs.length ≤ 1000)
    (hr : Room k X.A) (hm : X.mg x = some (.ref C)) (ha : PA X (e :: es) ta) (hg : Gl X x := by rfl) (hdb : (x == ("__debug__" : Str)) = false := by decide)
    (he : starEach (e :: es) X.env = (false, eval e X.env) :: starEach es X.env := by rfl) (hpl : (backTo pos (starEach es X.env)).any (·.1) = false := by rfl) :
    PMk X (.Call (.Name x p) (e :: es) [] pos) (tErr C fs ta) := by
  intro pins s σ H Q I h
  refine wpAny_Call_Name_kw (ld_glob I hg hm ?_ hdb)
  refine PySem.W.callWith_K (h₀ := X.base) I.ok.mod.kin T.kC (thn (ha.run pos pins s σ H _ I h) fun us s1 hh => ?_) he hpl
  obtain ⟨vs, H1, I1, r1, hl, q1⟩ := hh
  refine ⟨I1.kIn, ?_⟩
  show wpAny _ _ (call (.ref C) us) _ _ _
  have hlu : us.length = fs.length := by rw [← Paired.length r1]; exact hl
  have hini' := hini I1.ok.mod us hlu
  obtain ⟨hp, g, dr, tk, os⟩ := s1
  refine wpAny_call (PySem.ErrX.err_made T I1.ok.mod.kin I1.bk (by have := hr.dp; omega) (by rw [hlu]; exact Nat.le_trans hfs (by decide)) hini' fun h' tk' e d M => ?_)
  show MkP X pins σ Q (.ref e) ⟨h', g, dr, tk', os⟩
  obtain ⟨t1, hoe⟩ := M.obj
  have hns := M.ns
  obtain ⟨G', g1, g2⟩ := restrict h' fun b => decide (b ≠ e)
  have gk : ∀ b, b ≠ e → G'.get? b = h'.get? b := fun b hb => g1 b (decide_eq_true hb)
  have ge : G'.get? e = none := g2 e (by simp)
  have old : ∀ b o, hp.get? b = some o → G'.get? b = some o := fun b o q => (gk b (Nat.ne_of_lt (Nat.lt_of_lt_of_le (Heap.lt_size q) M.new))).trans (M.keep b o q)
  have rel : ∀ (fs : List Str) (vs : List V) (us : List Value), Vals vs us → ∀ f, RelO ((fs.zip vs).lookup f) ((fs.zip us).lookup f) := by
    intro fs
    induction fs with
    | nil => intro vs us _ f; trivial
    | cons g fs ih =>
      intro vs us r f
      cases r with
      | nil => trivial
      | cons a t =>
        rw [List.zip_cons_cons, List.zip_cons_cons, lookup_put]
        have ih' := ih _ _ t f
        by_cases e : f = g
        · subst e
          rw [if_pos rfl]
          simp [List.lookup]
          exact a
        · rw [if_neg e]
          have q : (f == g) = false := by simpa using e
          simp [List.lookup, q]
          exact ih'
  have ob : ObjOk X.prog X.w (upd H1 d (.xd (fs.zip vs))) G' d (.xd (fs.zip vs)) :=
    ⟨_, hns.at (fun o q => (gk d M.dne).trans q), fun f => rel fs vs us r1 f⟩
  have J : Inv X pins σ (upd H1 d (.xd (fs.zip vs))) ⟨G', g, dr, tk', os⟩ := I1.laid (t' := tk') old M.dbig ob
  refine ⟨e, _, _, ⟨G', g, dr, tk', os⟩, _, .ref C, some d, rfl, J, fun b o q => ?_, ge, hoe, ⟨rfl, rfl⟩, rfl, rfl, ?_, rfl, I1.bare, raises_own T.exC T.tyC, q1 d (I1.hok.fresh M.dbig)⟩
  · by_cases hb : b = e
    · have q' : G'.get? b = some o := q
      rw [hb, ge] at q'; cases q'
    · exact (gk b hb).symm.trans q
  · rw [upd_ne (Ne.symm M.dne)]
    exact I1.hok.fresh M.new
end
end L2
end

section
set_option Elab.async false
set_option linter.all false
set_option maxRecDepth 100000
set_option maxHeartbeats 4000000
/-! A list comprehension whose element calls what may raise. -/
namespace PySem
namespace LcX
open Sem (wp)
section
variable {M : Model} {A : Around} {E : Value → Shared → Prop} {s : Shared} {env : Env}
/-- what is wanted behind the block: at an error, of the block's own scope and frame -/
def post (M : Model) (A : Around) (E : Value → Shared → Prop) (Q : Value → Shared → Prop) (acc : Value) (C : Addr) (fr : Option Addr) (r : Result) (s' : Shared) : Prop :=
  match r with
  | .ok _ => ∃ m, s'.heap.Ns C m ∧ ∀ h', Heap.SameBut C s'.heap h' → Q acc { s' with heap := h' }
  | .error x => ∃ m, s'.heap.Ns C m ∧ ∀ h', Heap.SameBut C s'.heap h' → ∀ cenv : Env, cenv.locals = C → cenv.frame = fr → wpAny M A (passOn "comprehension.variables-let-go" x cenv : Sem Value) (fun _ _ => False) E { s' with heap := h' }
theorem comp_free {e : Expr} {scope : Scope} {pos : Pos} {newAcc first : Sem Value} {g : Comprehension} {gs : List Comprehension} {cl : List (Str × Addr)} {Q : Value → Shared → Prop}
    (hcl : clausesOf e = g :: gs) (hs : ∀ x, foldedSetIterable g.iter env x = pure x) (hclos : closureFor scope env = pure cl)
    (hkind : scope.kind = .function) (hnames : ∀ x ∈ scope.names, x.2 = .local → scope.names.lookup x.1 = some .local)
    (h : wpAny M A first (fun x s₁ => wpAny M A (pyIter x) (fun it s₂ => wpAny M A newAcc (fun acc s₃ =>
      wpAny M A (newFunctionEnv scope env.globals cl [] env.qual none .none (some env)) (fun cenv s₄ =>
        codeAny M A (.compStart e 0 it acc { cenv with scope := relabel scope env }) (post M A E Q acc cenv.locals cenv.frame) s₄) E s₃) E s₂) E s₁) E s) :
    wpAny M A (comprehension e scope env pos newAcc false first none) Q E s := by
  unfold comprehension
  rw [hclos, hcl]
  refine wpAny_bind (wpAny_mono h (fun x s₁ h₁ => wpAny_bind (wpAny_standAt (wpAny_bind (wpAny_of_eq (hs x) (wpAny_bind (wpAny_holding (wpAny_mono h₁ (fun it s₂ h₂ =>
    wpAny_standIf (wpAny_bind (wpAny_mono h₂ (fun acc s₃ h₃ => wpAny_bind (wpAny_pure (wpAny_bind (wpAny_mono h₃ (fun cenv s₄ h₄ => ?_) fun _ _ h' => h')))) fun _ _ h' => h')))
      fun _ _ h' => h'))))))) fun _ _ h' => h')
  dsimp only
  have hv : ∀ x ∈ (scope.names.filter fun x => (x.2 == .local || x.2 == .cell) && x.1 != (".0" : Str)).reverse, x.2 = .local →
      Env.kindOf { cenv with scope := relabel scope env } x.1 = some .local := fun x hx hl => lookup_relabel_local (hnames x (List.mem_filter.mp (List.mem_reverse.mp hx)).1 hl)
  refine wpAny_holding (wpAny_bind (wpAny_attempt (wpAny_holding (wpAny_run (codeAny_mono h₄ fun r s' hr => ?_)))))
  cases r with
  | ok f =>
    obtain ⟨m, hn, hr⟩ := hr
    exact wpAny_bind (wpAny_holding (wpAny_comp_letGo (cenv := { cenv with scope := relabel scope env }) hkind _ s' m hv hn fun h' m' _ hs' => wpAny_pure (hr h' hs')))
  | error x =>
    obtain ⟨m, hn, hr⟩ := hr
    exact wpAny_bind (wpAny_holding (wpAny_comp_letGo (cenv := { cenv with scope := relabel scope env }) hkind _ s' m hv hn fun h' m' _ hs' => wpAny_mono (hr h' hs' _ rfl rfl) (fun _ _ f => f.elim) fun _ _ y => y))
end
end LcX
end PySem
namespace L2
open PySem PySem.Spec PyProof.Rows
section
variable {X : Cx} {pins : List (Addr × Obj)} {σ : St} {H : Hp} {s s' : Shared} {E : XK}
/-- behind a call that let an exception out: the state without it -/
theorem call_air (I : Inv X pins σ H s) {u : Value} (c : CX X.prog X.w X.stack H s E u s') : ∃ (a : Addr) (B : Heap) (sI : Shared) (H' : Hp) (cls : Value) (d : Option Addr), u = .ref a ∧ Inv X pins σ H' sI ∧
    (∀ b o, sI.heap.get? b = some o → b ∉ frs X.stack → B.get? b = some o) ∧ sI.heap.UpToSlots s'.heap ∧ HandSPX.FlyingZ B X.stack a (Zc cls d) s'.heap ∧ H' a = none ∧ s'.os = sI.os ∧ AllBare s'.gens ∧ E cls d H' := by
  obtain ⟨a, B, H', cls, d, rfl, fl, hok, ub, na, os, ag, hE⟩ := c
  obtain ⟨G, g1, g2⟩ := restrict s'.heap fun b => (B.get? b).isSome || decide (b ∈ frs X.stack)
  have st : B.StaysIn s'.heap := fl.1
  have gB : ∀ b o, B.get? b = some o → G.get? b = some o := fun b o e => by
    rw [g1 b (by simp [e])]
    exact st b o e
  have gF : ∀ b, b ∈ frs X.stack → G.get? b = s'.heap.get? b := fun b hb => g1 b (by simp [hb])
  have og : ∀ b o, G.get? b = some o → s'.heap.get? b = some o ∧ ((B.get? b).isSome = true ∨ b ∈ frs X.stack) := fun b o e => by
    cases q : ((B.get? b).isSome || decide (b ∈ frs X.stack)) with
    | false => rw [g2 b q] at e; cases e
    | true =>
      rw [g1 b q] at e
      exact ⟨e, by simpa [Bool.or_eq_true] using q⟩
  refine ⟨a, B, { s with heap := G, gens := s'.gens, drawn := s'.drawn, toks := s'.toks }, H', cls, d, rfl, ?_, fun b o e hb => ?_, Heap.UpToSlots.of_keeps fun b o e => (og b o e).1, fl, na, os, ag, hE⟩
  · refine I.call (ch := []) ⟨fun b o e n hb _ => gB b o (ub.keep b o e n hb), fun b o e n hb _ => ?_, fun b o e n _ => ub.free b o e n, fun b o e _ => ?_, ub.tups, ub.frzs, ub.tbls⟩ (hok.kept gB) ag (fun _ z => nomatch z)
    · obtain ⟨sl, q⟩ := ub.slot b o e hb
      exact ⟨sl, by rw [gF b hb]; exact q⟩
    · by_cases hb : b ∈ frs X.stack
      · obtain ⟨sl, q⟩ := ub.slot b o e hb
        exact ⟨_, by rw [gF b hb]; exact q⟩
      · obtain ⟨o', q⟩ := ub.there b o e hb
        exact ⟨o', gB b o' q⟩
  · obtain ⟨e', h⟩ := og b o e
    rcases h with h | h
    · obtain ⟨o', q⟩ := Option.isSome_iff_exists.mp h
      have z := st b o' q
      rw [e'] at z; cases z
      exact q
    · exact absurd h hb
theorem noteFrame_frame {x : Value} {e1 e2 : Env} (h : e1.frame = e2.frame) : noteFrame x e1 = noteFrame x e2 := by
  unfold noteFrame PySem.frameOf
  rw [h]
theorem funFrames_at {base h h' : Heap} : ∀ {l : List Env}, h.FunFrames base l → (∀ L ∈ frs l, ∀ o, h.get? L = some o → ∃ o', h'.get? L = some o' ∧ o'.data = o.data) → h'.FunFrames base l
  | [], _, _ => trivial
  | env :: l, h, hn => by
    obtain ⟨hk, ⟨L, o, hf, n, ho, hd⟩, hr⟩ := h
    obtain ⟨o', e', d'⟩ := hn L (List.mem_filterMap.mpr ⟨env, List.mem_cons_self, hf⟩) o ho
    exact ⟨hk, ⟨L, o', hf, n, e', by rw [d']; exact hd⟩, funFrames_at hr fun b hb => by
      obtain ⟨e, he, q⟩ := List.mem_filterMap.mp hb
      exact hn b (List.mem_filterMap.mpr ⟨e, List.mem_cons_of_mem _ he, q⟩)⟩
/-- what the block's error comes to: it is in our air -/
theorem block_error {W : WX} {Qf : Value → Shared → Prop} {D : Value} {C : Addr} {ce : Env} {fp : List Addr} {scope : Scope} {s3 sB : Shared} {H3 HB : Hp} {pinsB : List (Addr × Obj)} {σB : St} {u : Value} {xe : Value → Shared → Prop}
    (hs : X.stack = X.env :: X.outer) (hf : X.env.frame = some X.env.locals) (tk : Takes X W) (hW : ∀ cls d σ H, E cls d H → W cls d σ H)
    (I3 : Inv X pins σ H3 s3) (f3 : ∀ b ∈ fp, FpOk X pins H3 b) (cL : ce.locals = C) (cF : ce.frame = X.env.frame) (hC : s3.heap.objs.size ≤ C)
    (IB : Inv ((X.blk s3 H3 scope ce fp).wish xe) pinsB σB HB sB) (c : CX X.prog X.w X.stack HB sB E u s') :
    wpAny (model X.prog X.w) X.A (noteFrame u ce) (fun _ s'' => PySem.LcX.post (model X.prog X.w) X.A X.xe Qf D C X.env.frame (.error u) s'') (fun e s'' => PySem.LcX.post (model X.prog X.w) X.A X.xe Qf D C X.env.frame (.error e) s'') s' := by
  obtain ⟨a, B, sI, H', cls, d, rfl, JB', nb, up, fl, na, os, ag, hE⟩ := call_air (X := (X.blk s3 H3 scope ce fp).wish xe) IB c
  have JB : Inv (X.blk s3 H3 scope ce fp) pinsB σB H' sI := JB'.unwish
  have hfr : X.A.frames = some (X.env :: X.outer) := by rw [I3.ok.frames, hs]
  have JX : Inv X pins σ H' sI := I3.call' (ch := fp) JB.os JB.base JB.hok JB.bare fun b hb => ⟨(f3 b hb).2.2.2.1, (f3 b hb).2.1, (f3 b hb).2.2.2.2.1, (f3 b hb).2.2.2.2.2⟩
  have nC : H' C = none := by
    have z : H' ce.locals = none := JB.free
    rw [cL] at z
    exact z
  have fC := I3.fpOk hC nC
  obtain ⟨m, hnI, _⟩ := JB.loc
  have hnI : sI.heap.Ns C m := by
    have z : sI.heap.Ns ce.locals m := hnI
    rw [cL] at z
    exact z
  obtain ⟨oC, es, ep, hoC, hdC, hcC⟩ := id hnI
  have fl' : HandSPX.FlyingZ B (X.env :: X.outer) a (Zc cls d) s'.heap := by
    have z : HandSPX.FlyingZ B X.stack a (Zc cls d) s'.heap := fl
    rw [hs] at z
    exact z
  have nfC : C ∉ frs X.stack := fun z => by
    rcases List.mem_cons.mp (I3.stkSub _ z) with q | q
    · exact fC.2.1 q
    · exact fC.2.2.1 q
  have hBC : B.get? C = some oC := nb _ _ hoC nfC
  rw [noteFrame_frame cF]
  refine HandSPX.looks_onZ Zc.steady hfr hf fl' fun h1 hh up1 => ?_
  obtain ⟨x1, x2, x3, oe, vs, T, oT, ts, he, hz, hd, h1', hnT, hTe, hT, hdT, h3⟩ := hh
  have hC1 : h1.get? C = some oC := x1 _ _ hBC
  refine ⟨m, ⟨oC, es, ep, hC1, hdC, hcC⟩, fun h2 sb cenv cl cf => ?_⟩
  have aC : a ≠ C := fun z => by
    rw [z, hBC] at x2
    cases x2
  have TC : T ≠ C := fun z => by
    rw [z, hBC] at hnT
    cases hnT
  obtain ⟨B2, b1, b2⟩ := restrict B fun b => decide (b ≠ C)
  have bk : ∀ b o, B2.get? b = some o → b ≠ C ∧ B.get? b = some o := fun b o e => by
    by_cases hb : b = C
    · rw [hb, b2 C (by simp)] at e; cases e
    · exact ⟨hb, by rw [← b1 b (decide_eq_true hb)]; exact e⟩
  have bn : ∀ b, B.get? b = none → B2.get? b = none := fun b e => by
    cases q : B2.get? b with
    | none => rfl
    | some o =>
      have z := (bk b o q).2
      rw [e] at z; cases z
  have heldB : HandSPX.HeldZ B2 (X.env :: X.outer) a (Zc cls d) X.env.locals h2 := by
    refine ⟨fun b o e => ?_, bn _ x2, ?_, oe, vs, T, oT, ts, (sb.2 a aC).trans he, hz, hd, h1', bn _ hnT, hTe, (sb.2 T TC).trans hT, hdT, h3⟩
    · obtain ⟨hb, q⟩ := bk b o e
      exact (sb.2 b hb).trans (x1 b o q)
    · have q1 : h1.FunFrames B2 (X.env :: X.outer) := funFrames_none x3 fun b hb => bn b (x3.mem hb).1
      exact funFrames_at q1 fun L hL o e => ⟨o, (sb.2 L (fun z => nfC (by rw [← z, hs]; exact hL))).trans e, rfl⟩
  unfold PySem.passOn
  refine wpAny_bind (wpAny_field ((sb.2 a aC).trans he) hd h1' ?_)
  rw [if_neg (show ¬ ((Value.ref T == Value.none) = true) from by simp)]
  obtain ⟨G, g1, g2⟩ := restrict sI.heap fun b => decide (b ≠ C)
  have gk : ∀ b o, b ≠ C → sI.heap.get? b = some o → G.get? b = some o := fun b o hb e => by
    rw [g1 b (decide_eq_true hb)]
    exact e
  have gs : ∀ b o, G.get? b = some o → b ≠ C ∧ sI.heap.get? b = some o := fun b o e => by
    by_cases hb : b = C
    · rw [hb, g2 C (by simp)] at e; cases e
    · exact ⟨hb, by rw [← g1 b (decide_eq_true hb)]; exact e⟩
  obtain ⟨f0, f1, f2, f4, f5, f6⟩ := fC
  have J2 : Inv X pins σ H' { sI with heap := G, toks := sI.toks } := JX.turned (t' := sI.toks) gk f0 f1 f4 f5 f6
  have fin : wpAny (model X.prog X.w) X.A (setFlight (.ref a) cenv.frame) (fun _ s4 => wpAny (model X.prog X.w) X.A (throw (.ref a) : Sem Value) (fun _ _ => False) X.xe s4) X.xe { s' with heap := h2 } := by
    rw [cf, hf]
    refine HandSPX.setFlight_onZ heldB fun h4 hh4 up4 => wpAny_throw (tk _ _ ?_)
    refine ⟨a, B2, { sI with heap := G, toks := sI.toks }, pins, σ, H', cls, d, rfl, J2, fun b o e hb => ?_, fun b o e nf => ?_, .inr (.inr (by rw [hs]; exact hh4)), na, os, ag, hW _ _ _ _ hE⟩
    · obtain ⟨hbC, q⟩ := gs b o e
      rw [b1 b (decide_eq_true hbC)]
      exact nb b o q hb
    · obtain ⟨hbC, q⟩ := gs b o e
      obtain ⟨sl1, e1⟩ := up b o q nf
      obtain ⟨sl2, e2⟩ := up1 b _ e1 nf
      have e3 : h2.get? b = _ := (sb.2 b hbC).trans e2
      obtain ⟨sl3, e4⟩ := up4 b _ e3 nf
      exact ⟨sl3, e4⟩
  first
    | exact wpAny_bind (wpAny_pure (wpAny_bind fin))
    | exact wpAny_bind fin
theorem lc_coreX {W : WX} {E : XK} {pins : List (Addr × Obj)} {s : Shared} {σ : St} {H : Hp} {Q : VK} {elt tg iter : Expr} {ifs : List Expr} {scope : Scope} {own : List (Str × Nat)} {pos pos' : Pos} {wi : TI} {g : TG} {tt : TT} {te : TE} {Qf : Value → Shared → Prop}
    (hst : X.stack = X.env :: X.outer) (hfr : X.env.frame = some X.env.locals) (tk : Takes X W) (hW : ∀ cls d σ H, E cls d H → W cls d σ H) (hc : X.calm = true) (hN : X.N.Nodup) (I : Inv X pins σ H s) (hi : PI X tg iter wi) (ok : BlkOk X.N X.env.scope scope own)
    (hg : ∀ (s : Shared) (H : Hp) (C : Addr) (cl : List (Str × Addr)) (fp : List Addr), PG (X.blk s H scope (compEnvC scope cl C X.env) fp) tg g) (ht : ∀ (s : Shared) (H : Hp) (C : Addr) (cl : List (Str × Addr)) (fp : List Addr), PTs (X.blk s H scope (compEnvC scope cl C X.env) fp) ifs tt)
    (he : ∀ (s : Shared) (H : Hp) (C : Addr) (cl : List (Str × Addr)) (fp : List Addr) (xe : Value → Shared → Prop), Passes (L2.CX X.prog X.w) ((X.blk s H scope (compEnvC scope cl C X.env) fp).wish xe) E → PE ((X.blk s H scope (compEnvC scope cl C X.env) fp).wish xe) elt te) (hs : ∀ x, foldedSetIterable iter X.env x = pure x)
    (h : tLc wi g tt te (own.map (·.2)) σ H Q)
    (hRR : ∀ D C s' m H', Inv X pins σ H' s' → Q (.ref D) H' → s'.heap.Ns C m → FpOk X pins H' C → PySem.LcX.post (model X.prog X.w) X.A X.xe Qf (.ref D) C X.env.frame (.ok .next) s') :
    wpAny (model X.prog X.w) X.A (comprehension (.ListComp elt [⟨tg, iter, ifs, 0⟩] scope pos) scope X.env pos' (newList []) false (eval iter X.env) none) Qf X.xe s := by
  have hfree : ∀ y ∈ scope.names, y.2 = .free → ∃ c, X.env.cells.lookup y.1 = some c := fun y hy e => by
    rcases ok.free y hy e with k | k
    · exact I.ok.has _ (.inl k)
    · exact I.ok.has _ (.inr k)
  refine PySem.LcX.comp_free rfl hs (closure_ok hfree) ok.kind (fun y hy e => by rw [ok.uniq y hy, e])
    (thn (hi.run pins s σ H _ I h) fun xv s1 hx => thn hx fun itv s2 h2 => ?_)
  obtain ⟨it, fp, tn, J, H2, e, I2, T, st2, f2, q⟩ := h2
  subst e
  refine wpAny_newObj_type (newEnv_comp ?_) (by show 0 ≤ sizeLine; decide)
  generalize hD : s2.heap.objs.size = D
  have hDn : H2 D = none := I2.hok.fresh (Nat.le_of_eq hD)
  obtain ⟨W, ⟨m0, w0⟩, turn⟩ := q D hDn
  -- the new list
  generalize hs3 : ({ s2 with heap := s2.heap.push { cls := .type "list", data := .seq ([] : List Value).toArray } } : Shared) = s3
  have I3 : Inv X pins σ (upd H2 D (.lst [])) s3 := by
    rw [← hs3]
    refine I2.laid (t' := s2.toks) (fun b o e => Heap.get?_push_of_some _ e) (Nat.le_of_eq hD) ⟨Nat.zero_le _, [], 0, .nil, ?_⟩
    rw [← hD]
    exact Heap.get?_push_size _ rfl
  have h3 : s3.heap = s2.heap.push { cls := .type "list", data := .seq ([] : List Value).toArray } := by rw [← hs3]
  have sz : ∀ b ∈ fp, b < s2.heap.objs.size := fun b hb => by
    obtain ⟨o, e, _⟩ := T.obj _ _ st2 b hb
    exact Heap.lt_size e
  have f3 : ∀ b ∈ fp, FpOk X pins (upd H2 D (.lst [])) b ∧ b < s3.heap.objs.size := fun b hb => by
    have hlt := sz b hb
    refine ⟨⟨?_, (f2 b hb).2⟩, by rw [h3, Heap.size_push]; exact Nat.lt_succ_of_lt hlt⟩
    rw [upd_ne (by rw [← hD]; exact Nat.ne_of_lt hlt)]
    exact (f2 b hb).1
  have st3 : tn 0 s3.heap := T.keep _ _ _ st2 fun b _ o e => by rw [h3]; exact Heap.get?_push_of_some _ e
  have I4 := block_start I3 ok hN f3
  have pg := hg s3 (upd H2 D (.lst [])) s3.heap.objs.size (cellsFrom (s3.heap.objs.size + 1) scope.names (cloFrom X.env.cells scope.names [])) fp
  have pt := ht s3 (upd H2 D (.lst [])) s3.heap.objs.size (cellsFrom (s3.heap.objs.size + 1) scope.names (cloFrom X.env.cells scope.names [])) fp
  have pe := he s3 (upd H2 D (.lst [])) s3.heap.objs.size (cellsFrom (s3.heap.objs.size + 1) scope.names (cloFrom X.env.cells scope.names [])) fp (notedBy (model X.prog X.w) X.A (compEnvC scope (cellsFrom (s3.heap.objs.size + 1) scope.names (cloFrom X.env.cells scope.names [])) s3.heap.objs.size X.env) fun e s' => PySem.LcX.post (model X.prog X.w) X.A X.xe Qf (.ref D) s3.heap.objs.size X.env.frame (.error e) s')
    (fun pinsB σB HB sB e s' IB c => block_error hst hfr tk hW I3 (fun b hb => (f3 b hb).1) rfl rfl (Nat.le_refl _) IB c)
  show codeAny _ _ (.compStart (.ListComp elt [⟨tg, iter, ifs, 0⟩] scope pos) 0 (.ref it) (.ref D) (compEnvC scope (cellsFrom (s3.heap.objs.size + 1) scope.names (cloFrom X.env.cells scope.names [])) s3.heap.objs.size X.env)) (PySem.LcX.post (model X.prog X.w) X.A X.xe Qf (.ref D) s3.heap.objs.size X.env.frame) { s3 with heap := pushCells (s3.heap.push { cls := .type "dict", data := .dict #[] }) scope.names }
  have nfp : ∀ b ∈ fp, (upd H2 D (.lst [])) b = none := fun b hb => (f3 b hb).1.1
  generalize hce : compEnvC scope (cellsFrom (s3.heap.objs.size + 1) scope.names (cloFrom X.env.cells scope.names [])) s3.heap.objs.size X.env = ce at I4 pg pt pe ⊢
  have cL : ce.locals = s3.heap.objs.size := by subst hce; rfl
  generalize hH3 : upd H2 D (.lst []) = H3 at I3 I4 pg pt pe w0 nfp f3
  generalize hs4 : ({ s3 with heap := pushCells (s3.heap.push { cls := .type "dict", data := .dict #[] }) scope.names } : Shared) = s4 at I4 ⊢
  have st4 : tn 0 s4.heap := T.keep _ _ _ st3 fun b _ o e => by rw [← hs4]; exact pushCells_keeps _ _ _ _ (Heap.get?_push_of_some _ e)
  have stat : ∀ {σ' : St} {H' : Hp} {s' : Shared}, Inv (X.blk s3 H3 scope ce fp) [] σ' H' s' → (∀ b ∈ fp, H' b = none) → ∀ b ∈ fp, FpOk (X.blk s3 H3 scope ce fp) [] H' b := fun {σ' H' s'} I' hn b hb =>
    ⟨hn b hb, (I'.ok.exf b hb).1, I'.ok.exfs b hb, .inl hb, fun x c e => (I'.ok.exf b hb).2 x c e, fun p hp => absurd (show p ∈ ([] : List (Addr × Obj)) ++ [] from hp) (by simp)⟩
  have loop : codeAny (model X.prog X.w) X.A (.compLoop (.ListComp elt [⟨tg, iter, ifs, 0⟩] scope pos) 0 (.ref it) (.ref D) ce) (PySem.LcX.post (model X.prog X.w) X.A X.xe Qf (.ref D) s3.heap.objs.size X.env.frame) s4 := by
    refine compLoop_any (fun n s' => ∃ i H', Inv (X.blk s3 H3 scope ce fp) [] (wipe σ (own.map (·.2))) H' s' ∧ tn i s'.heap ∧ (∀ b ∈ fp, H' b = none) ∧ W i n H') ?_ m0 ⟨0, H3, I4, st4, nfp, w0⟩
    rintro n s5 ⟨i, H5, I5, st5, n5, w5⟩
    rcases turn i n H5 w5 with ⟨stop, qq⟩ | ⟨go, Nx, hNx, step⟩
    · have td := T.done (X.blk s3 H3 scope ce fp) rfl rfl rfl hc i [] s5 _ H5 (fun _ _ => False) I5 (stat I5 n5) st5 stop
      refine thnF td fun r s6 ⟨hr, I6⟩ => ?_
      subst hr
      -- back in the def's context
      have I7 : Inv X pins σ H5 s6 := I3.call' (ch := fp) I6.os I6.base I6.hok I6.bare fun b hb => ⟨(f3 b hb).1.2.2.2.1, (f3 b hb).1.2.1, (f3 b hb).1.2.2.2.2.1, (f3 b hb).1.2.2.2.2.2⟩
      have nC : H5 s3.heap.objs.size = none := by
        have z : H5 ce.locals = none := I6.free
        rw [cL] at z
        exact z
      obtain ⟨m, hn, _⟩ := I6.loc
      have hn : s6.heap.Ns ce.locals m := hn
      rw [cL] at hn
      exact hRR D s3.heap.objs.size s6 m H5 I7 qq hn (I3.fpOk (Nat.le_refl _) nC)
    · have ti := T.item (X.blk s3 H3 scope ce fp) rfl rfl rfl hc i [] s5 _ H5 (fun _ _ => False) I5 (stat I5 n5) st5 go
      refine thnF ti fun r s6 ⟨u, hr, h6⟩ => ?_
      subst hr
      refine thnF h6 fun _ s7 ⟨x, H7, I7, r7, y7, st7, n7⟩ => ?_
      have I7' := I7.pinned (stat I7 n7) (T.obj _ _ st7)
      refine thnF (pg.run _ s7 _ H7 x u _ I7' r7 (step x H7 y7)) fun _ s8 ⟨σ8, H8, I8, hw8, q8⟩ => ?_
      refine thnF (pt.run _ s8 σ8 H8 _ I8 q8) fun b s9 ⟨H9, I9, q9⟩ => ?_
      -- the turn's end
      have fin : ∀ {s' : Shared} {H' : Hp}, Inv (X.blk s3 H3 scope ce fp) ([] ++ pinsAt fp s7.heap) σ8 H' s' → Nx H' → ∃ m, m < n ∧ ∃ i H', Inv (X.blk s3 H3 scope ce fp) [] (wipe σ (own.map (·.2))) H' s' ∧ tn i s'.heap ∧ (∀ b ∈ fp, H' b = none) ∧ W i m H' := fun {s' H'} I' nx => by
        obtain ⟨m', hm, w'⟩ := hNx H' nx
        have pin' : ∀ b ∈ fp, ∀ o, s7.heap.get? b = some o → s'.heap.get? b = some o ∧ H' b = none := fun b hb o e =>
          let z := I'.pin (b, o) (List.mem_append_right _ (List.mem_append_right _ (mem_pinsAt hb e)))
          ⟨z.1, z.2.1⟩
        have hl : (wipe σ (own.map (·.2))).length = σ8.length := by rw [← hw8, wipe_length]
        refine ⟨m', hm, i + 1, H', (I'.unpinned (pins := [])).weak hl (fun j v e => ?_), T.keep _ _ _ st7 fun b hb o e => (pin' b hb o e).1, fun b hb => ?_, w'⟩
        · rw [← hw8] at e
          exact (wipe_some e).1
        · obtain ⟨o, e, _⟩ := T.obj _ _ st7 b hb
          exact (pin' b hb o e).2
      cases b with
      | false =>
        simp only [Bool.false_eq_true, if_false] at q9 ⊢
        exact fin I9 q9
      | true =>
        simp only [if_true] at q9 ⊢
        refine thn (pe.run _ s9 σ8 H9 _ (I9.wish _) q9) fun z s10 ⟨yv, H10, I10', r10, acc, hD10, hz10, nx⟩ => ?_
        have I10 := I10'.unwish
        exact app_ok (X := X.blk s3 H3 scope ce fp) I10 hD10 hz10 r10 fun s11 I11 => fin I11 nx
  exact codeAny_compStart_list loop (T.self X.A 0 _ _ _ st4 loop)
/-- as a value; E: what the element's calls may let out -/
theorem pe_lcX {W : WX} {E : XK} {elt tg iter : Expr} {ifs : List Expr} {scope : Scope} {own : List (Str × Nat)} {pos : Pos} {wi : TI} {g : TG} {tt : TT} {te : TE} (hst : X.stack = X.env :: X.outer) (hfr : X.env.frame = some X.env.locals) (tk : Takes X W) (hW : ∀ cls d σ H, E cls d H → W cls d σ H)
    (hc : X.calm = true) (hN : X.N.Nodup) (hi : PI X tg iter wi) (ok : BlkOk X.N X.env.scope scope own)
    (hg : ∀ (s : Shared) (H : Hp) (C : Addr) (cl : List (Str × Addr)) (fp : List Addr), PG (X.blk s H scope (compEnvC scope cl C X.env) fp) tg g) (ht : ∀ (s : Shared) (H : Hp) (C : Addr) (cl : List (Str × Addr)) (fp : List Addr), PTs (X.blk s H scope (compEnvC scope cl C X.env) fp) ifs tt)
    (he : ∀ (s : Shared) (H : Hp) (C : Addr) (cl : List (Str × Addr)) (fp : List Addr) (xe : Value → Shared → Prop), Passes (L2.CX X.prog X.w) ((X.blk s H scope (compEnvC scope cl C X.env) fp).wish xe) E → PE ((X.blk s H scope (compEnvC scope cl C X.env) fp).wish xe) elt te) (hs : ∀ x, foldedSetIterable iter X.env x = pure x := by intro _; rfl) :
    PE X (.ListComp elt [⟨tg, iter, ifs, 0⟩] scope pos) (tLc wi g tt te (own.map (·.2))) := by
  refine ⟨fun pins s σ H Q I h => ?_⟩
  rw [eval_ListComp]
  refine lc_coreX hst hfr tk hW hc hN I hi ok hg ht he hs h fun D C s' m H' I' q hn f => ⟨m, hn, fun h'' sb => ?_⟩
  obtain ⟨f0, f1, f2, f3, f4, f5⟩ := f
  exact ⟨.ref D, H', I'.turned (t' := s'.toks) (fun b o hb e => (sb.2 b hb).trans e) f0 f1 f3 f4 f5, rfl, q⟩
end
end L2
end

section
set_option Elab.async false
set_option linter.all false
set_option maxRecDepth 100000
set_option maxHeartbeats 4000000
/-! A lambda with one parameter that has a written default, handed to a def that calls it with nothing. -/
namespace LamX
open PySem PySem.Spec PyProof.Rows L2
section
variable {X : Cx} {pins : List (Addr × Obj)} {σ : L2.St} {H : Hp} {s : Shared}
/-- the lambda is made, its default's tuple too -/
theorem lam_make3 {n : Int} {cp : Pos} {ck : Tok} {T : List (Addr × Str)} {c P : Addr} {params : Arguments} {body : Expr} {scope : Scope} {pos : Pos} {E : Value → Shared → Prop} {Q : Value → Shared → Prop} (I : Inv X pins σ H s) (TB : TabB X.base X.mg c P) (hcode : X.env.code = .ref c)
    (hm : (P, X.env.qual ++ "<lambda>") ∈ T) (hu : ∀ p ∈ T, p.1 = P → p.2 = X.env.qual ++ "<lambda>") (hT : Tabs T H) (hdef : defaultsOf params X.env = (evalEach [.Constant (.int n) ck cp] X.env, [])) (hfree : ∀ y ∈ scope.names, y.2 = .free → ∃ c, X.env.cells.lookup y.1 = some c)
    (h : ∀ (f c' Td : Addr) (v pm ctv doc : Value) (H1 : Hp) (s' : Shared), s'.heap.get? Td = some (PySem.W.kdv_tup [v]) → H1 Td = none → Td ∉ frs X.stack → Inv X pins σ H1 s' → ExtN H H1 → Tabs T H1 →
      s'.heap.get? f = some (PySem.W.kdv_obj "<lambda>" (X.env.qual ++ "<lambda>") params (.expr body) scope (cloFrom X.env.cells scope.names []) (.ref Td) doc pm c' ctv) → H1 f = none → f ∉ frs X.stack → H1 c' = some (CodeO c' (X.env.qual ++ "<lambda>")) → Q (.ref f) s') :
    wpAny (model X.prog X.w) X.A (eval (.Lambda params body scope pos) X.env) Q E s := by
  rw [arm_eval_Lambda, hdef]
  show wpAny _ _ (do let dv ← evalAll (evalEach [.Constant (.int n) ck cp] X.env); let kdv ← holding dv (evalAllOpt []); makeFunction "<lambda>" (X.env.qual ++ "<lambda>") params (.expr body) scope X.env dv kdv [] pos pos.line) Q E s
  refine wpAny_bind (PySem.W.kdv_all1 (wpAny_Constant_int (PySem.W.kdv_all0 ?_)))
  refine wpAny_bind (wpAny_holding (wpAny_pure ?_))
  rw [makeFunction_eq]
  simp only [List.zip_nil_right, List.filterMap_nil, List.isEmpty_nil, List.isEmpty_cons, Bool.false_eq_true, if_false, if_true, pure_bind]
  refine wpAny_bind (wpAny_newTextTuple ?_)
  obtain ⟨hp, g, d, tk0, os⟩ := s
  have hTdn : H hp.objs.size = none := I.hok.fresh (Nat.le_refl _)
  have kT : ∀ b o, hp.get? b = some o → (hp.push (PySem.W.kdv_tup [Value.int n tk0])).get? b = some o := fun b o e => Heap.get?_push_of_some _ e
  have hTd : (hp.push (PySem.W.kdv_tup [Value.int n tk0])).get? hp.objs.size = some (PySem.W.kdv_tup [Value.int n tk0]) := Heap.get?_push_size _ rfl
  have nTd : hp.objs.size ∉ frs X.stack := fun z => by
    rcases List.mem_cons.mp (I.stkSub _ z) with e | e
    · have h1 := I.lt
      rw [← e] at h1
      exact Nat.lt_irrefl _ h1
    · exact I.nofs (Nat.le_refl _) e
  have I0 : Inv X pins σ H ⟨hp.push (PySem.W.kdv_tup [Value.int n tk0]), g, d, tk0 + 1, os⟩ := I.kept (h' := hp.push (PySem.W.kdv_tup [Value.int n tk0])) (t' := tk0 + 1) kT
  generalize hpe : hp.objs.size = Td at hTdn hTd nTd ⊢
  generalize hs0 : (⟨hp.push (PySem.W.kdv_tup [Value.int n tk0]), g, d, tk0 + 1, os⟩ : Shared) = s at I0 ⊢
  have hTd : s.heap.get? Td = some (PySem.W.kdv_tup [Value.int n tk0]) := by rw [← hs0]; exact hTd
  show wpAny _ _ (makeTail "<lambda>" (X.env.qual ++ "<lambda>") params (.expr body) scope X.env (.ref Td) .none none pos pos.line) Q E s
  clear I hs0 kT
  have I := I0
  obtain ⟨ps, hP, ht, ha⟩ := hT _ hm
  have bP : s.heap.BuiltinsAt X.mg P := TB.bm.keeps I.bk
  have hP' : s.heap.get? P = some { cls := .none, data := .fields ps } := I.hok P _ hP
  have nofr : ∀ f, s.heap.objs.size ≤ f → f ∉ frs X.stack := fun f hf z => by
    rcases List.mem_cons.mp (I.stkSub _ z) with e | e
    · have h1 := I.lt
      rw [← e] at h1
      exact Nat.lt_irrefl _ (Nat.lt_of_lt_of_le h1 hf)
    · exact I.nofs hf e
  cases hc : codeAmong pos ps.toList with
  | none =>
    refine PySem.W.kdv_makeTail (dV := .ref Td) (mg := X.mg) (c := c) (P := P) (ps := ps) (closure_ok hfree) I.ok.glob (I.mod.glob.keeps I.bk) hcode (TB.code.keeps I.bk) hP' ht hc TB.gP bP fun c' ctv doc h' tk hx hge hlt hrec htb => ?_
    obtain ⟨c2, oc, vs, t, e2, hoc, hd, hv⟩ := hrec
    cases e2
    have hsz : s.heap.objs.size ≤ h'.objs.size := Nat.le_trans hge (Nat.le_of_lt hlt)
    have nC : H c' = none := I.hok.fresh hge
    have I1 := inv_table (t' := tk) (more := #[rawInt pos.line, rawInt pos.col, .ref c']) (h' := h'.push (PySem.W.kdv_obj "<lambda>" (X.env.qual ++ "<lambda>") params (.expr body) scope (cloFrom X.env.cells scope.names []) (.ref Td) doc ((X.mg "__name__").getD .none) c' ctv)) I hP
      (fun b o hb e => Heap.get?_push_of_some _ (hx b o hb e)) (Heap.get?_push_of_some _ htb) hge ⟨oc, vs, t, Heap.get?_push_of_some _ hoc, hd, hv⟩
    have hE : ExtN H (upd (upd H P (.tbl (ps ++ #[rawInt pos.line, rawInt pos.col, .ref c']))) c' (CodeO c' (X.env.qual ++ "<lambda>"))) := fun b o e n => by
      rw [upd_ne (ne_of_none e nC), upd_ne (fun z => n ps (Option.some.inj (e.symm.trans (by rw [z]; exact hP))))]
      exact e
    have eL : (ps ++ #[rawInt pos.line, rawInt pos.col, .ref c']).toList = ps.toList ++ [rawInt pos.line, rawInt pos.col, .ref c'] := by simp
    have nTc : Td ≠ c' := fun z => by
      have q := Heap.lt_size hTd
      rw [z] at q
      exact Nat.lt_irrefl _ (Nat.lt_of_lt_of_le q hge)
    have nTP : Td ≠ P := ne_of_none hP hTdn |>.symm
    refine h h'.objs.size c' Td (Value.int n tk0) ((X.mg "__name__").getD .none) ctv doc _ _ (Heap.get?_push_of_some _ (hx _ _ nTP hTd)) (by rw [upd_ne nTc, upd_ne nTP]; exact hTdn) nTd I1 hE (fun p hp => ?_) (Heap.get?_push_size _ rfl) ?_ (nofr _ hsz) upd_same
    · by_cases hb : p.1 = P
      · rw [hu p hp hb, hb]
        refine ⟨_, by rw [upd_ne (ne_of_none hP nC), upd_same], by rw [eL]; exact PySem.TriplesOk_snoc _ _ _ _ ht, fun p' cv hcv => ?_⟩
        rw [eL] at hcv
        rcases among_app _ ht hcv with z | z
        · obtain ⟨c0, e1, e2⟩ := ha p' cv z
          exact ⟨c0, e1, hE _ _ e2 codeO_ne⟩
        · exact ⟨c', z, upd_same⟩
      · obtain ⟨ps', a1, a2, a3⟩ := hT p hp
        refine ⟨ps', by rw [upd_ne (ne_of_none a1 nC), upd_ne hb]; exact a1, a2, fun p' cv hcv => ?_⟩
        obtain ⟨c0, e1, e2⟩ := a3 p' cv hcv
        exact ⟨c0, e1, hE _ _ e2 codeO_ne⟩
    · have n1 : h'.objs.size ≠ c' := Nat.ne_of_gt hlt
      have n2 : h'.objs.size ≠ P := Nat.ne_of_gt (Nat.lt_of_lt_of_le (Heap.lt_size hP') hsz)
      rw [upd_ne n1, upd_ne n2]
      exact I.hok.fresh hsz
  | some cv =>
    obtain ⟨c', e, hco⟩ := ha pos cv hc
    subst e
    refine PySem.W.kdv_makeTailHit (dV := .ref Td) (mg := X.mg) (c := c) (P := P) (ps := ps) (closure_ok hfree) I.ok.glob (I.mod.glob.keeps I.bk) hcode (TB.code.keeps I.bk) hP' ht hc bP fun ctv doc h' tk hx hsz => ?_
    have I1 : Inv X pins σ H { s with heap := h'.push (PySem.W.kdv_obj "<lambda>" (X.env.qual ++ "<lambda>") params (.expr body) scope (cloFrom X.env.cells scope.names []) (.ref Td) doc ((X.mg "__name__").getD .none) c' ctv), toks := tk } := I.kept fun b o e => Heap.get?_push_of_some _ (hx b o e)
    exact h h'.objs.size c' Td (Value.int n tk0) ((X.mg "__name__").getD .none) ctv doc H _ (Heap.get?_push_of_some _ (hx _ _ hTd)) hTdn nTd I1 (ExtN.refl H) hT (Heap.get?_push_size _ rfl) (I.hok.fresh hsz) (nofr _ hsz) hco
end
/-- a lambda's names: its one parameter (a1), captured ones and globals -/
structure LamD (N : List Str) (sc scope : Scope) (a1 : Str) : Prop where
  kind : scope.kind = .function
  co : scope.isCoroutine = false
  gen : scope.isGenerator = false
  own : ∀ y ∈ scope.names, y.2 ≠ .cell ∧ (y.2 = .local → y.1 ∉ N)
  free : ∀ y ∈ scope.names, y.2 = .free → sc.names.lookup y.1 = some .cell ∨ sc.names.lookup y.1 = some .free
  par : scope.names.lookup a1 = some .local
def lamDB (N : List Str) (sc scope : Scope) (a1 : Str) : Bool :=
  decide (scope.kind = .function) && !scope.isCoroutine && !scope.isGenerator && (scope.names.all fun y => !decide (y.2 = .cell) && (!decide (y.2 = .local) || !decide (y.1 ∈ N)) && (!decide (y.2 = .free) || decide (sc.names.lookup y.1 = some .cell) || decide (sc.names.lookup y.1 = some .free))) && decide (scope.names.lookup a1 = some .local)
theorem lamD_by {N : List Str} {sc scope : Scope} {a1 : Str} (h : lamDB N sc scope a1 = true) : LamD N sc scope a1 := by
  unfold lamDB at h
  simp only [Bool.and_eq_true, Bool.or_eq_true, Bool.not_eq_true', decide_eq_true_eq, decide_eq_false_iff_not, List.all_eq_true] at h
  obtain ⟨⟨⟨⟨h1, h2⟩, h3⟩, h4⟩, h5⟩ := h
  refine ⟨h1, h2, h3, fun y hy => ⟨(h4 y hy).1.1, fun e => ?_⟩, fun y hy e => ?_, h5⟩
  · rcases (h4 y hy).1.2 with z | z
    · exact absurd e z
    · exact z
  · rcases (h4 y hy).2 with (z | z) | z
    · exact absurd e z
    · exact .inl z
    · exact .inr z
theorem LamD.has {X : Cx} {scope : Scope} {a1 : Str} (L : LamD X.N X.env.scope scope a1) (ok : X.Ok) : ∀ y ∈ scope.names, y.2 = .free → ∃ c, X.env.cells.lookup y.1 = some c := fun y hy e => by
  rcases L.free y hy e with k | k
  · exact ok.has _ (.inl k)
  · exact ok.has _ (.inr k)
section
variable {X : Cx} {pins : List (Addr × Obj)} {σ : L2.St} {H HZ : Hp} {s s1 : Shared}
theorem lam_start3 {a1 : Str} {v1 : Value} {A : Around} {outer : List Env} {E : XK} {scope : Scope} {f c' : Addr} {h₁ : Heap} {tk : Nat} (I : Inv X pins σ H s) (L : LamD X.N X.env.scope scope a1) (e0 : Env0 X.prog X.w X.K X.mg X.base A outer s1 HZ) (hd : A.handled = none)
    (un : Un (frs X.stack) [] H HZ s.heap s1.heap) (hns : h₁.Ns s1.heap.objs.size fun y => ([(a1, v1)] : List (Str × Value)).reverse.lookup y) (kp : ∀ b o, s1.heap.get? b = some o → h₁.get? b = some o) :
    Inv (lamCx X A outer s1 HZ E scope f c') [] σ HZ { s1 with heap := h₁, toks := tk } := by
  have hfree := L.has I.ok
  have cm : ∀ {y c}, (cloFrom X.env.cells scope.names []).lookup y = some c → X.env.cells.lookup y = some c := fun {y c} e => by
    rcases cloFrom_mem (PySem.mem_of_lookup e) with hm | ⟨h1, h2⟩
    · cases hm
    · obtain ⟨c1, hc⟩ := hfree _ h1 rfl
      have hc : X.env.cells.lookup y = some c1 := hc
      have e2 : c = c1 := by
        rw [h2, hc] <;> rfl
      rw [e2]
      exact hc
  have look : ∀ {y}, scope.names.lookup y = some .free → ∃ c, (cloFrom X.env.cells scope.names []).lookup y = some c := fun {y} hl => by
    have hy : (y, NameKind.free) ∈ scope.names := PySem.mem_of_lookup hl
    exact mem_lookup (cloFrom_has (cells := X.env.cells) (acc := []) hy)
  have cellK : ∀ {c : Addr} {v : Option Value}, H c = none → s.heap.IsCell c v → h₁.IsCell c v := fun {c v} n ⟨o, ho, hd⟩ => by
    obtain ⟨sl, q⟩ := un.any ho n (by simp)
    exact ⟨_, kp _ _ q, hd⟩
  have noA : ∀ b : Addr, b ∉ (lamCx X A outer s1 HZ E scope f c').ex := fun b z => absurd (show b ∈ ([] : List Addr) from z) (by simp)
  refine ⟨⟨e0.mod, L.kind, rfl, rfl, Nat.le_refl _, fun y z c e1 e2 => I.ok.inj y z c (cm e1) (cm e2), fun y hy => ?_, fun y c z _ => ?_, fun _ => hd, Around.frames_deeper e0.frames, .inr ⟨rfl, rfl⟩, fun b z => absurd z (noA b), e0.bs, e0.bsz, fun b _ _ => noA b,
      fun b z => absurd z (noA b), e0.funs, e0.frf⟩,
    rfl, e0.bare, Un.kept kp, ⟨_, hns, fun i y v e1 e2 e3 => ?_⟩, fun y c e => ?_, e0.hok.fresh (Nat.le_refl _), fun y c e => ?_, fun q hq => absurd (show q ∈ ([] : List (Addr × Obj)) ++ [] from hq) (by simp), e0.hok.kept kp, I.len⟩
  · have hy : scope.names.lookup y = some .cell ∨ scope.names.lookup y = some .free := hy
    rcases hy with hy | hy
    · exact absurd rfl (L.own _ (PySem.mem_of_lookup hy)).1
    · exact look hy
  · have z : false = true := z
    cases z
  · have e3 : Vis scope y := e3
    rcases e3 with k | k | k
    · exact absurd (List.mem_of_getElem? (show X.N[i]? = some y from e1)) ((L.own _ (PySem.mem_of_lookup k)).2 rfl)
    · exact absurd rfl (L.own _ (PySem.mem_of_lookup k)).1
    · obtain ⟨m, hn, hl⟩ := I.loc
      have hvis : Vis X.env.scope y := (L.free _ (PySem.mem_of_lookup k) rfl).elim (fun k => .inr (.inl k)) (fun k => .inr (.inr k))
      obtain ⟨w', r, q⟩ := hl i y v e1 e2 hvis
      obtain ⟨c2, h2⟩ := look k
      refine ⟨w', r, .inr ⟨.inr k, c2, h2, ?_⟩⟩
      have c1 := cm h2
      rcases q with ⟨k', _⟩ | ⟨_, c3, e', z⟩
      · have k' : X.env.scope.names.lookup y = some .local := k'
        rcases L.free _ (PySem.mem_of_lookup k) rfl with k2 | k2 <;> rw [show X.env.scope.names.lookup y = _ from k2] at k' <;> cases k'
      · rw [c1] at e'
        cases e'
        exact cellK (I.freeC y _ c1) z
  · obtain ⟨w', z⟩ := I.cell y c (cm e)
    exact ⟨w', cellK (I.freeC y c (cm e)) z⟩
  · obtain ⟨v, o, ho, hd⟩ := I.cell y c (cm e)
    exact un.free c o ho (I.freeC y c (cm e)) (by simp)
/-- x(), in the def that got the lambda: Z is that def's context, entered at s -/
theorem pe_act3 {a1 : Str} {Td : Addr} {v1 doc : Value} {CXg : CXT} {Eg : XK} {Ng : List Str} {qg : Str} {sg : Scope} {g f c' : Addr} {cdg pm ctv : Value} {params : Arguments} {body : Expr} {scope : Scope} {k i : Nat} {a : Str} {pn : List (Addr × Obj)} {xe : Value → Shared → Prop} {W : WX} {E : XK} {tb : TE} {p1 p2 : Pos}
    (I : Inv X pins σ H s) (L : LamD X.N X.env.scope scope a1) (hTd : s.heap.get? Td = some (PySem.W.kdv_tup [v1])) (hTn : H Td = none) (hTf : Td ∉ frs X.stack) (hf : s.heap.get? f = some (PySem.W.kdv_obj "<lambda>" (X.env.qual ++ "<lambda>") params (.expr body) scope (cloFrom X.env.cells scope.names []) (.ref Td) doc pm c' ctv)) (hfn : H f = none) (hfr : f ∉ frs X.stack)
    (hbind : ∃ k, bindArgs (PySem.W.kdv_fn "<lambda>" (X.env.qual ++ "<lambda>") params (.expr body) scope (cloFrom X.env.cells scope.names []) (.ref Td) doc pm (.ref c') ctv) ⟨[], []⟩ = seqItems? (.ref Td) >>= k ∧ k (some #[v1]) = pure [(a1, v1)])
    (tk : Takes ((cxOf CXg X.prog X.w X.K X.mg X.base Ng qg sg g cdg X.A X.stack s H Eg).tr pn xe) W) (hW : ∀ cls d σ' H', E cls d H' → W cls d σ' H') (hr : Room (k + 1) (X.A.deeper (envOfC qg sg s.heap.objs.size g cdg)))
    (hbody : ∀ (A : Around) (outer : List Env) (s : Shared) (H : Hp), Room k (A.deeper (lamEnv X scope s.heap.objs.size f c')) → PE (lamCx X A outer s H E scope f c') body tb)
    (hN : Ng[i]? = some a) (hv : Vis sg a) (hd : (a == ("__debug__" : Str)) = false := by decide) (hcd : (a == ("__classdict__" : Str)) = false := by decide) :
    PE ((cxOf CXg X.prog X.w X.K X.mg X.base Ng qg sg g cdg X.A X.stack s H Eg).tr pn xe) (.Call (.Name a p1) [] [] p2)
      (fun σZ HZ Q => σZ[i]? = some (some (.ref f)) ∧ HZ c' = some (CodeO c' (X.env.qual ++ "<lambda>")) ∧ tb σ HZ Q) := by
  refine ⟨fun pinsZ sZ σZ HZ Q IZ h => ?_⟩
  obtain ⟨hs, hc, ht⟩ := h
  refine wpAny_Call_Name_kw (thn ((pe_var (pos := p1) (i := i) hN hv hd hcd).run pinsZ sZ σZ HZ (fun v H1 => v = .ref f ∧ H1 = HZ) IZ ⟨.ref f, hs, rfl, rfl⟩) fun u s1 ⟨v, H1, I1, r1, q1⟩ => ?_)
  obtain ⟨ev, eH⟩ := q1
  subst ev
  rw [eH] at I1
  obtain rfl : u = Value.ref f := r1
  have of1 : s1.heap.get? f = some (PySem.W.kdv_obj "<lambda>" (X.env.qual ++ "<lambda>") params (.expr body) scope (cloFrom X.env.cells scope.names []) (.ref Td) doc pm c' ctv) := I1.base.keep f _ hf hfn hfr (fun z => nomatch (show f ∈ ([] : List Addr) from z))
  refine PySem.W.callWith_F0 ⟨_, _, _, _, of1⟩ ?_
  have un : Un (frs X.stack) [] H HZ s.heap s1.heap := I1.base
  obtain ⟨⟨oc, vs, t, hoc, hdc, hvc⟩, _, _⟩ := I1.hok c' _ hc
  have rc : codeAny (model X.prog X.w) (X.A.deeper (envOfC qg sg s.heap.objs.size g cdg)) (.call (.ref f) ⟨[], []⟩) (CR (L2.CX X.prog X.w) (envOfC qg sg s.heap.objs.size g cdg :: X.stack) X.prog X.w HZ s1 Q E) s1 := by
    refine PySem.W.kla_callFunE hr.depth of1 rfl L.co L.gen rfl ⟨c', oc, vs, t, rfl, hoc, hdc, hvc⟩ ?_
    obtain ⟨kb, hb1, hb2⟩ := hbind
    rw [hb1]
    have oT1 : s1.heap.get? Td = some (PySem.W.kdv_tup [v1]) := I1.base.keep Td _ hTd hTn hTf (fun z => nomatch (show Td ∈ ([] : List Addr) from z))
    refine wpAny_bind (wpAny_seqItems oT1 rfl ?_)
    rw [hb2]
    refine wpAny_pure (wpAny_newFunctionEnv (fun y hy => (L.own y hy).1) (fun y hy => by rw [List.mem_singleton.mp hy]; exact L.par) (fun h₁ hns hsb => ⟨I1.nolimit.fresh _ hsb, ?_⟩) L.kind)
    show codeAny _ _ (.expr body (lamEnv X scope s1.heap.objs.size f c')) _ _
    have kp : ∀ b o, s1.heap.get? b = some o → h₁.get? b = some o := fun b o e => hsb.extBut b o (Nat.ne_of_lt (Heap.lt_size e)) (Heap.get?_push_of_some _ e)
    have J : Inv (lamCx X (X.A.deeper (envOfC qg sg s.heap.objs.size g cdg)) (envOfC qg sg s.heap.objs.size g cdg :: X.stack) s1 HZ E scope f c') [] σ HZ { s1 with heap := h₁, toks := s1.toks + ([(a1, v1)] : List (Str × Value)).length } :=
      lam_start3 I L I1.env0 hr.hd un hns kp
    refine PySem.W.kla_codeExpr (wpAny_mono ((hbody _ _ s1 HZ (hr.deeper _)).run [] _ _ HZ Q J ht) (fun v s' hq => ?_) fun e s' hq => hq)
    obtain ⟨w', H', J', rv, q⟩ := hq
    exact ⟨w', H', J'.os, J'.bare, J'.base, J'.hok, rv, q⟩
  have hx : Passes (L2.CX X.prog X.w) ((cxOf CXg X.prog X.w X.K X.mg X.base Ng qg sg g cdg X.A X.stack s H Eg).tr pn xe) E := passes_call tk hW
  refine wpAny_call (codeAny_mono rc fun r s' hq => ?_)
  cases r with
  | error e => exact hx pinsZ σZ HZ s1 e s' I1 hq
  | ok fl =>
    cases fl with
    | ret u => exact I1.after hq
    | next => exact False.elim hq
    | brk => exact False.elim hq
    | cont => exact False.elim hq
end
section
variable {X : Cx}
/-- x(lambda: body) -/
theorem pe_lamcall3 {a1 : Str} {n : Int} {cp : Pos} {ck : Tok} {T : List (Addr × Str)} {TT : (XK → Hp → VK → Prop) → Hp → VK → Prop} {x a : Str} {g c P : Addr} {k : Nat} {pg : Arguments} {bg : List Stmt} {sg : Scope} {dV kV doc pm cdv ct oc : Value} {an od : Option Addr} {osl : Array (Option Value)} {Ng : List Str}
    {params : Arguments} {body : Expr} {scope : Scope} {t : XK → TE} {p lpos pos : Pos} (hg : Gl X x) (hm : X.mg x = some (.ref g)) (hk : PySem.W.keepIn X.K (.ref g) = true)
    (lk : X.K.lookup g = some ⟨oc, od, .func (PySem.W.fnOf x x pg bg sg dV kV doc pm an cdv ct), osl⟩) (hcg : PySem.W.codeIn X.K cdv x = true) (hb : L2.Binds X.K (PySem.W.fnOf x x pg bg sg dV kV doc pm an cdv ct) [a] []) (Sg : FnScope Ng [a] sg) (hNg : Ng[0]? = some a) (hva : Vis sg a)
    (hG : GivesTo X Ng x sg g cdv bg a (X.env.qual ++ "<lambda>") TT)
    (TB : TabB X.base X.mg c P) (hcode : X.env.code = .ref c) (hmT : (P, X.env.qual ++ "<lambda>") ∈ T) (hu : ∀ p ∈ T, p.1 = P → p.2 = X.env.qual ++ "<lambda>") (hr : Room (k + 2) X.A) (L : LamD X.N X.env.scope scope a1) (hdef : defaultsOf params X.env = (evalEach [.Constant (.int n) ck cp] X.env, []))
    (hbind : ∀ (q : Str) (cl : List (Str × Addr)) (Td : Addr) (doc pm cv ctv : Value), ∃ k, bindArgs (PySem.W.kdv_fn "<lambda>" q params (.expr body) scope cl (.ref Td) doc pm cv ctv) ⟨[], []⟩ = seqItems? (.ref Td) >>= k ∧ ∀ v1, k (some #[v1]) = pure [(a1, v1)])
    (hbody : ∀ (A : Around) (outer : List Env) (s : Shared) (H : Hp) (E : XK) (f c' : Addr), Room k (A.deeper (lamEnv X scope s.heap.objs.size f c')) → PE (lamCx X A outer s H E scope f c') body (t E))
    (hdb : (x == ("__debug__" : Str)) = false := by decide) (hd : (a == ("__debug__" : Str)) = false := by decide) (hcd : (a == ("__classdict__" : Str)) = false := by decide) :
    PE X (.Call (.Name x p) [.Lambda params body scope lpos] [] pos) (tLam T TT t) := by
  refine ⟨fun pins s σ H Q I h => ?_⟩
  obtain ⟨hT, h⟩ := h
  refine wpAny_Call_Name_kw (ld_glob I hg hm ?_ hdb)
  refine PySem.W.callWith_K (h₀ := X.base) I.ok.mod.kin hk ?_ (by rfl) (by rfl)
  show wpAny _ _ (spliced ((false, eval (.Lambda params body scope lpos) X.env) :: backTo pos (starEach [] X.env))) _ _ s
  refine Calls.spliced_cons (lam_make3 I TB hcode hmT hu hT hdef (L.has I.ok) fun f c' Td v1 pm' ctv doc H1 s' hTd hTn hTf I1 eN T1 hf hfn hfr hco => ?_)
  refine Calls.spliced_nil ⟨I1.kIn, ?_⟩
  have rc : codeAny (model X.prog X.w) X.A (.call (.ref g) ⟨[.ref f], []⟩) (CR C8.CX0 X.stack X.prog X.w H1 s' Q C8.E0) s' := by
    refine run_ofS (N := Ng) (ps := [a]) (us := [.ref f]) (vs := [.ref f]) lk hcg Sg hr I1.env0 (hb s' [.ref f] I1.kIn rfl) (.cons rfl .nil) rfl fun hr' => ?_
    obtain ⟨t', ht', hq'⟩ := hG f c' s' H1 Q (fun E H' Q' => t E σ H' Q') (fun W pn xe E p1 p2 tk hW => pe_act3 (i := 0) I1 L hTd hTn hTf hf hfn hfr (by obtain ⟨kb, h1, h2⟩ := hbind (X.env.qual ++ "<lambda>") (cloFrom X.env.cells scope.names []) Td doc pm' (.ref c') ctv; exact ⟨kb, h1, h2 v1⟩) tk hW hr' (fun A outer s H hr2 => hbody A outer s H E f c' hr2) hNg hva hd hcd) hco (h H1 eN T1)
    exact ⟨t', ht'.nox, hq'⟩
  refine wpAny_call (codeAny_mono rc fun r s2 hq => ?_)
  cases r with
  | error e => exact (show False from hq).elim
  | ok fl =>
    cases fl with
    | ret u => exact I1.after hq
    | next => exact False.elim hq
    | brk => exact False.elim hq
    | cont => exact False.elim hq
end
end LamX
end

section
set_option Elab.async false
set_option linter.all false
set_option maxRecDepth 100000
set_option maxHeartbeats 4000000
/-! try .. except X as n, the error kept as a value behind the clause; its class asked, its fields read. -/
namespace L2
open PySem PySem.Spec PyProof.Rows
/-- an error that was caught, at a: its class, its own dict -/
def ExcA (cls : Value) (d : Option Addr) (a : Addr) : HO := .ext fun h => ∃ (oe : Obj) (vs : Array Value), h.get? a = some oe ∧ Zc cls d oe ∧ oe.data = .fields vs
theorem excA_ok {P : Program} {w : World} {H : Hp} {h : Heap} {a : Addr} {cls : Value} {d : Option Addr} {oe : Obj} (e : h.get? a = some oe) (z : Zc cls d oe) (f : ∃ vs, oe.data = .fields vs) : ObjOk P w H h a (ExcA cls d a) := by
  obtain ⟨vs, f⟩ := f
  exact ⟨⟨oe, vs, e, z, f⟩, ⟨oe, e⟩, fun _ _ ⟨o, v, q, r⟩ k => ⟨o, v, k o q, r⟩⟩
theorem excA_at {P : Program} {w : World} {H : Hp} {h : Heap} {a : Addr} {cls : Value} {d : Option Addr} (hok : HOk P w H h) (e : H a = some (ExcA cls d a)) : ∃ (oe : Obj) (vs : Array Value), h.get? a = some oe ∧ Zc cls d oe ∧ oe.data = .fields vs := by
  have x : ObjOk P w H h a (.ext fun h => ∃ (oe : Obj) (vs : Array Value), h.get? a = some oe ∧ Zc cls d oe ∧ oe.data = .fields vs) := hok a _ e
  exact x.1
section
variable {X : Cx} {pins : List (Addr × Obj)} {σ : St} {H : Hp} {s : Shared}
/-- an untracked object of ours, newer than the entry, is tracked -/
theorem Inv.track {a : Addr} {cls : Value} {d : Option Addr} (I : Inv X pins σ H s) (hex : X.ex = []) (n0 : X.s_0.heap.get? a = none) (na : H a = none) (nL : a ≠ X.env.locals) (nC : ∀ x c, X.env.cells.lookup x = some c → c ≠ a) (np : ∀ p ∈ X.pn ++ pins, p.1 ≠ a)
    (ok : ObjOk X.prog X.w (upd H a (ExcA cls d a)) s.heap a (ExcA cls d a)) : Inv X pins σ (upd H a (ExcA cls d a)) s := by
  have ne0 : ∀ b o, X.s_0.heap.get? b = some o → b ≠ a := fun b o e z => by
    rw [z, n0] at e
    cases e
  have neS : ∀ b u, H b = some u → b ≠ a := fun b u e z => by
    rw [z, na] at e
    cases e
  refine ⟨I.ok, I.os, I.bare, ⟨I.base.keep, I.base.slot, fun b o e n hq => by rw [upd_ne (ne0 b o e)]; exact I.base.free b o e n hq, I.base.there, fun b xs e => ?_, fun b o u e => ?_, fun b ps e => ?_⟩, I.loc, I.cell, by rw [upd_ne (Ne.symm nL)]; exact I.free, fun x c e => by rw [upd_ne (nC x c e)]; exact I.freeC x c e, fun p hp => ?_, fun b u e => ?_, I.len⟩
  · have q := I.base.tups b xs e
    rw [upd_ne (neS b _ q)]
    exact q
  · have q := I.base.frzs b o u e
    rw [upd_ne (neS b _ q)]
    exact q
  · obtain ⟨m, q⟩ := I.base.tbls b ps e
    exact ⟨m, by rw [upd_ne (neS b _ q)]; exact q⟩
  · obtain ⟨e, n, r⟩ := I.pin p hp
    exact ⟨e, by rw [upd_ne (np p hp)]; exact n, r⟩
  · by_cases hb : b = a
    · subst hb
      rw [upd_same] at e
      cases e
      exact ok
    · rw [upd_ne hb] at e
      exact (I.hok b u e).stay (fun c v _ q => q) (fun c q => by rw [upd_ne (neS c _ q)]; exact q) fun c xs q => by rw [upd_ne (neS c _ q)]; exact q
end
/-- what the clause 'except x as n' wishes of an exception of the body, the error kept behind the suite: slot i is n's -/
def wKeep (K : PySem.W.Frag) (c : Value) (i : Nat) (ts : Addr → Value → Option Addr → TS) (Wout : WX) (D : Ends) : WX := fun cls d σ H =>
  ∃ b, PySem.W.exmOne K cls c = some b ∧ (b = true → ∀ a, H a = none → ts a cls d { nx := fun σ' H' => D.nx (σ'.set i none) (upd H' a (ExcA cls d a)), rt := D.rt, bk := fun σ' H' => D.bk (σ'.set i none) H', ct := fun σ' H' => D.ct (σ'.set i none) H' } (σ.set i (some (.ref a))) H) ∧
    (b = false → Wout cls d σ H)
section
variable {X : Cx} {x n : Str} {c : Value} {i : Nat} {body suite : List Stmt} {b₀ : Stmt} {np pos pos' : Pos} {tb : WX → TS} {ts : Addr → Value → Option Addr → TS} {Wout : WX}
theorem ps_try_keep (hex : X.ex = []) (hs : X.stack = X.env :: X.outer) (hf : X.env.frame = some X.env.locals) (hN : X.N.Nodup) (hi : X.N[i]? = some n) (hln : X.env.kindOf n = some .local) (hc : Names X x c) (tk : Takes X Wout)
    (hb : ∀ (W : WX) (pn : List (Addr × Obj)) (xe : Value → Shared → Prop), Takes (X.tr pn xe) W → PassesOwn (model X.prog X.w) X.A X.env xe → PSs (X.tr pn xe) body (tb W))
    (hsu : ∀ (a : Addr) (oe : Obj) (cls : Value) (d : Option Addr) (pn : List (Addr × Obj)), Zc cls d oe → (∃ vs, oe.data = .fields vs) → PSs (X.suite a ((a, oe) :: pn)) (b₀ :: suite) (ts a cls d)) :
    PS X (.Try body [.ExceptHandler (some (.Name x np)) (some n) (b₀ :: suite) pos'] [] [] pos) (fun D σ H => tb (wKeep X.K c i ts Wout D) D σ H) := by
  refine ⟨fun pins s σ H D I h => ?_⟩
  have ok := I.ok
  have hfr : X.A.frames = some (X.env :: X.outer) := by rw [ok.frames, hs]
  have hloc : Loc X.env.scope n := .inl hln
  refine wpAny_Try_except ?_
  refine wpAny_mono ((hb (wKeep X.K c i ts Wout D) (X.pn ++ pins) (fun e s₁ => wpAny (model X.prog X.w) X.A (noteFrame e X.env) (fun _ s₂ => wpAny (model X.prog X.w) X.A (setFlight e none) (fun _ s₃ =>
    wpAny (model X.prog X.w) X.A (handleBy e X.env [.ExceptHandler (some (.Name x np)) (some n) (b₀ :: suite) pos']) (SP X pins D) X.xe s₃) X.xe s₂) X.xe s₁) (fun u s' xx => ?_) PassesOwn.looking).run [] s σ H D (I.toTry _) h) (fun f s1 hsp => ?_) (fun e s1 he => he)
  · -- the catch
    obtain ⟨a, B, sI, pins', σ', H', cls, d, rfl, J', nb, up, sky, na, os, ag, b, hb1, hyes, hno⟩ := xx
    have J : Inv X pins σ' H' sI := J'.ofTry ok
    have sky' : Sky B (X.env :: X.outer) a (Zc cls d) X.env.locals s'.heap := by rw [← hs]; exact sky
    show wpAny (model X.prog X.w) X.A (noteFrame (.ref a) X.env) _ _ _
    refine Sky.land Zc.steady hfr hf sky' fun h3 fl3 up3 => ?_
    have J3 : Inv X pins σ' H' { s' with heap := h3 } := J.landed nb fl3.1 (up.trans up3) os ag
    obtain ⟨oe3, vs3, he3, hz3, hd3⟩ := fl3.there
    have notFr : ∀ {h : Heap} {o : Obj} {vs : Array Value}, h.FunFrames B (X.env :: X.outer) → h.get? a = some o → o.data = .fields vs → a ∉ frs (X.env :: X.outer) := fun {h o vs} ff e dd hm => by
      obtain ⟨_, o', e', hnf⟩ := ff.mem hm
      rw [e] at e'; cases e'
      exact hnf _ dd
    have nfr := notFr fl3.2.2.1 he3 hd3
    have nL : a ≠ X.env.locals := fun z => nfr (List.mem_filterMap.mpr ⟨X.env, List.mem_cons_self, by rw [hf, z]⟩)
    have nF : a ∉ X.fs := fun hm => by
      obtain ⟨e, he, q⟩ := List.mem_filterMap.mp hm
      exact nfr (List.mem_filterMap.mpr ⟨e, List.mem_cons_of_mem _ he, q⟩)
    have S3 := J3.suite he3 hd3 na nL nF
    refine wpAny_handleBy_cons (codeAny_handlers_test ?_) (by intro q; cases q)
    have LT : PySem.W.Looks (model X.prog X.w) h3 (typeOf (.ref a)) cls := fun A Q E s k q => wpAny_typeOf_ref (k _ _ he3) (by rw [hz3.1]; exact q)
    have LM := PySem.W.exm_one (M := model X.prog X.w) (J3.kIn) LT hb1
    have test : ∀ {Q : Value → Shared → Prop} {E : Value → Shared → Prop}, Q c { s' with heap := h3 } → wpAny (model X.prog X.w) (X.A.mark (some (.ref a))) (eval (.Name x np) X.env) Q E { s' with heap := h3 } := fun {Q E} q => by
      obtain ⟨hg, hdbg, hm | ⟨hm, hv, hnn⟩⟩ := hc
      · exact ld_glob (X := X.suite a ((a, oe3) :: (X.pn ++ pins))) S3 hg hm q hdbg
      · exact ld_blt (X := X.suite a ((a, oe3) :: (X.pn ++ pins))) S3 hg hm hv q hnn hdbg
    refine test (LM.here ?_)
    cases b with
    | true =>
      refine codeAny_handlers_suite_as ?_
      refine HandSPX.lands_againZ fl3 fun h4 fl4 up4 => ?_
      have J4 : Inv X pins σ' H' { s' with heap := h4 } := J.landed nb fl4.1 ((up.trans up3).trans up4) os ag
      obtain ⟨oe4, vs4, he4, hz4, hd4⟩ := fl4.there
      have S4 := J4.suite he4 hd4 na nL nF
      refine store_ok (X := X.suite a ((a, oe4) :: (X.pn ++ pins))) (v := .ref a) S4 hN hi hloc rfl (fun s5 S5 => ?_) (.inr hln)
      refine wpAny_mono ((hsu a oe4 cls d (X.pn ++ pins) hz4 ⟨_, hd4⟩).run [] s5 _ H' _ S5 (hyes rfl a na)) (fun f s6 hsp => ?_) (fun _ _ z => False.elim z)
      have sIa : sI.heap.get? a = none := by
        cases q : sI.heap.get? a with
        | none => rfl
        | some o =>
          have z := nb a o q (by rw [hs]; exact nfr)
          have z2 : B.get? a = none := fl3.2.1
          rw [z2] at z
          cases z
      have n0 : X.s_0.heap.get? a = none := by
        cases q : X.s_0.heap.get? a with
        | none => rfl
        | some o =>
          obtain ⟨o', z⟩ := J.base.there a o q (by rw [hex]; exact fun z => nomatch z)
          rw [sIa] at z
          cases z
      have nC : ∀ x c, X.env.cells.lookup x = some c → c ≠ a := fun x c e z => by
        obtain ⟨v, o, ho, _⟩ := J.cell x c e
        rw [z, sIa] at ho
        cases ho
      have np : ∀ p ∈ X.pn ++ pins, p.1 ≠ a := fun p hp z => by
        have q := (J.pin p hp).1
        rw [z, sIa] at q
        cases q
      have end_ : ∀ {σ6 : St} {H6 : Hp} {Q : Shared → Prop}, Inv (X.suite a ((a, oe4) :: (X.pn ++ pins))) [] σ6 H6 s6 → (∀ s7, Inv X pins (σ6.set i none) H6 s7 → Q s7) →
          wpAny (model X.prog X.w) X.A (do bindName X.env n .none; unbindBehindTheSuite X.env n pos') (fun _ s7 => Q s7) X.xe s6 := fun {σ6 H6 Q} S6 hq => gone_ok (S6.unsuite ok) hN hi hln hq
      have endK : ∀ {σ6 : St} {H6 : Hp} {Q : Shared → Prop}, Inv (X.suite a ((a, oe4) :: (X.pn ++ pins))) [] σ6 H6 s6 → (∀ s7, Inv X pins (σ6.set i none) (upd H6 a (ExcA cls d a)) s7 → Q s7) →
          wpAny (model X.prog X.w) X.A (do bindName X.env n .none; unbindBehindTheSuite X.env n pos') (fun _ s7 => Q s7) X.xe s6 := fun {σ6 H6 Q} S6 hq =>
        gone_ok (X := X.suite a ((a, oe4) :: (X.pn ++ pins))) S6 hN hi hln fun s7 S7 => by
          obtain ⟨e7, n7, _⟩ := S7.pin (a, oe4) (List.mem_append_left _ List.mem_cons_self)
          exact hq s7 ((S7.unsuite ok).track hex n0 n7 nL nC np (excA_ok e7 hz4 ⟨_, hd4⟩))
      cases f with
      | next =>
        obtain ⟨σ6, H6, S6, q6⟩ := hsp
        exact endK S6 fun s7 J7 => ⟨_, _, J7, q6⟩
      | brk =>
        obtain ⟨σ6, H6, S6, q6⟩ := hsp
        exact end_ S6 fun s7 J7 => ⟨_, _, J7, q6⟩
      | cont =>
        obtain ⟨σ6, H6, S6, q6⟩ := hsp
        exact end_ S6 fun s7 J7 => ⟨_, _, J7, q6⟩
      | ret u =>
        obtain ⟨v6, σ6, H6, S6, r6, q6⟩ := hsp
        exact end_ S6 fun s7 J7 => ⟨_, _, _, J7, r6, q6⟩
    | false =>
      show wpAny _ X.A (handleBy (.ref a) X.env []) _ _ _
      refine wpAny_handleBy_nil ?_
      obtain ⟨k1, k2, k3, oe, vs, T, oT, ts', he, hz, hd, h1, hr⟩ := id fl3
      unfold PySem.passOn
      refine wpAny_bind (wpAny_field he hd h1 ?_)
      rw [if_neg (show ¬ ((Value.ref T == Value.none) = true) from by simp)]
      have fin : wpAny (model X.prog X.w) X.A (setFlight (.ref a) X.env.frame) (fun _ s4 => wpAny (model X.prog X.w) X.A (throw (.ref a) : Sem Flow) (SP X pins D) X.xe s4) X.xe { s' with heap := h3 } := by
        rw [hf]
        refine HandSPX.setFlight_upZ fl3 fun h4 hh4 up4 => wpAny_throw (tk _ _ ?_)
        exact ⟨a, B, sI, pins, σ', H', cls, d, rfl, J, nb, (up.trans up3).trans up4, .inr (.inr (by rw [hs]; exact hh4)), na, os, ag, hno rfl⟩
      first
        | exact wpAny_bind (wpAny_pure (wpAny_bind fin))
        | exact wpAny_bind fin
  · cases f with
    | next =>
      obtain ⟨σ', H', J', q⟩ := hsp
      exact wpAny_execs_nil ⟨σ', H', J'.ofTry ok, q⟩
    | brk =>
      obtain ⟨σ', H', J', q⟩ := hsp
      exact ⟨σ', H', J'.ofTry ok, q⟩
    | cont =>
      obtain ⟨σ', H', J', q⟩ := hsp
      exact ⟨σ', H', J'.ofTry ok, q⟩
    | ret u =>
      obtain ⟨v, σ', H', J', r, q⟩ := hsp
      exact ⟨v, σ', H', J'.ofTry ok, r, q⟩
end
/-- what an error's class must say, so that its instances are asked rightly -/
structure ErrC (K : PySem.W.Frag) (D : Addr) : Prop where
  hg : PySem.W.findIn K (.ref D) "__getattribute__" = some (some (.builtin "BaseException.__getattribute__"))
  hk : PySem.W.findIn K (.ref D) "__getattr__" = some none
  hs : PySem.W.subIn K (.ref D) (.type "BaseException") = some true
  hd : PySem.W.hasDictIn K D = true
  ha : PySem.W.findIn K (.ref D) "__class__" = some (some (.builtin "object.__class__"))
  hn : PySem.W.specialIn K (.builtin "object.__class__") "__get__" = some (some (.builtin "getset_descriptor.__get__"))
  ht : PySem.W.takesIn K (.builtin "object.__class__") = some true
  hm : PySem.W.mroIn K D (.type "object") = some true
section
variable {X : Cx} {pins : List (Addr × Obj)} {σ : St} {H : Hp} {s : Shared}
theorem errA_inst {a D dd : Addr} {fs : List (Str × V)} (I : Inv X pins σ H s) (ha : H a = some (ExcA (.ref D) (some dd) a)) (hd : H dd = some (.xd fs)) : ∃ oe od, PySem.W.InstAt s.heap a oe D (some od) ∧ s.heap.get? dd = some od := by
  obtain ⟨oe, vs, e, z, f⟩ := excA_at I.hok ha
  obtain ⟨mA, hns, hr⟩ := (show ObjOk X.prog X.w H s.heap dd (.xd fs) from I.hok dd _ hd)
  obtain ⟨od, es, ep, ho, _⟩ := hns
  refine ⟨oe, od, ⟨e, z.1, by unfold PySem.W.notCls; rw [f] <;> rfl, ?_⟩, ho⟩
  rw [z.2]
  exact ho
/-- isinstance(e, c), e an error that was caught -/
def rIsA (K : PySem.W.Frag) : List V → Hp → VK → Prop := fun xs H Q => ∃ (a D dd : Addr) (fs : List (Str × V)) (c : V) (u : Value) (b : Bool), xs = [.ref a, c] ∧ H a = some (ExcA (.ref D) (some dd) a) ∧ H dd = some (.xd fs) ∧ ErrC K D ∧ ClsV c u ∧ PySem.W.kitOne K (.ref D) u = some b ∧ Q (.bl b) H
theorem call_isA : CallR X (.builtin "isinstance") (rIsA X.K) := by
  intro pins s σ H xs us Q I r h
  obtain ⟨a, D, dd, fs, c, u, b, rfl, ha, hd, C, k, e, q⟩ := h
  obtain ⟨u1, u2, rfl, r1, r2⟩ := vals2 r
  cases (show u1 = Value.ref a from r1)
  have e2 := k.eq r2
  subst e2
  obtain ⟨oe, od, J, _⟩ := errA_inst I ha hd
  have hcl : (PySem.W.clsIn X.K D).isSome = true := by
    have z := C.hd
    unfold PySem.W.hasDictIn at z
    cases q : PySem.W.clsIn X.K D with
    | none => rw [q] at z; cases z
    | some cd => rfl
  exact PySem.W.kia_one (PySem.W.kitx_exc (od := some od) hcl C.hg C.hk C.hs C.ha C.hn C.ht C.hm) I.kIn J e (fun z => nomatch z) fun tk => ⟨.bl b, H, I.tok tk, rfl, q⟩
/-- e.f, e an error that was caught -/
def tXat (K : PySem.W.Frag) (f : Str) (te : TE) : TE := fun σ H Q => te σ H fun x H1 => ∃ (a D dd : Addr) (fs : List (Str × V)) (v : V), x = .ref a ∧ H1 a = some (ExcA (.ref D) (some dd) a) ∧ H1 dd = some (.xd fs) ∧ ErrC K D ∧ PySem.W.findIn K (.ref D) f = some none ∧ fs.lookup f = some v ∧ Q v H1
theorem pe_xat {e : Expr} {f : Str} {te : TE} {pos : Pos} (he : PE X e te) (hb : attributeBase e f X.env (eval e X.env) = eval e X.env := by rfl) : PE X (.Attribute e f pos) (tXat X.K f te) := by
  refine ⟨fun pins s σ H Q I h => ?_⟩
  refine attr_of hb (thn (he.run pins s σ H _ I h) fun u s1 hh => ?_)
  obtain ⟨x, H1, I1, rx, a, D, dd, fs, v, ex, ha, hd, C, hno, hl, q⟩ := hh
  subst ex
  obtain rfl : u = Value.ref a := rx
  obtain ⟨oe, od, J, ho⟩ := errA_inst I1 ha hd
  obtain ⟨mA, hns, hr⟩ := (show ObjOk X.prog X.w H1 s1.heap dd (.xd fs) from I1.hok dd _ hd)
  obtain ⟨od', ho', hlk⟩ := lookIn_ns hns
  rw [ho] at ho'
  cases ho'
  obtain ⟨u, hu, ru⟩ := RelO.some_of (v := v) (o := mA f) (by rw [← hl]; exact hr f)
  exact HandSPX.exc_get I1.kIn J C.hg C.hk C.hs (PySem.W.findObj_own C.hd hno rfl (by rw [hlk, hu])) (handed_of ru) ⟨v, H1, I1.tok _, ru, q⟩
end
end L2
end

section
set_option Elab.async false
set_option linter.all false
set_option maxRecDepth 100000
set_option maxHeartbeats 4000000
/-! A Hook that tells of error classes whose __init__ says super().__init__(text), too; it looks at cStatics besides. -/
namespace He
open PySem PySem.Spec PyProof.Rows L2
/-- such a class: its name, its __init__'s row, its fields -/
structure ErrD where
  x : Str
  qual : Str
  params : Arguments
  body : List Stmt
  scope : Scope
  fs : List Str
abbrev FnZ : Type := Option (Str × Str × Arguments × FuncBody × Scope × Addr × List Str × Addr)
def fnZ (K : PySem.W.Frag) (p : Str × Option Str) : FnZ := match K.lookup (fAd K p) with
  | some ⟨_, _, .func fd, _⟩ => some (fd.name, fd.qualname, fd.params, fd.body, fd.scope, fd.globals, fd.closure.map (·.1), fd.builtins)
  | _ => none
def ErrD.val (d : ErrD) : FnZ := some ("__init__", d.qual, d.params, .stmts d.body, d.scope, mainGlobals, ["__class__"], builtinsNs)
abbrev ErrD.p (d : ErrD) : Str × Option Str := (d.x, some "__init__")
def cellOf (K : PySem.W.Frag) (p : Str × Option Str) : Addr := match K.lookup (fAd K p) with
  | some ⟨_, _, .func fd, _⟩ => (match fd.closure with
    | (_, c) :: _ => c
    | _ => 0)
  | _ => 0
def clsB (K : PySem.W.Frag) (C : Addr) : Bool := match K.lookup C with
  | some ⟨.type t, _, .cls cd, sl⟩ => (match cd.mro, sl.toList with
    | .ref C' :: bm, [_, _, _, _, some (.builtin n), _] => decide (t = "type") && (decide (C' = C) && (decide (n = "ValueError.__new__") && (!cd.hasDel && (cd.hasDict && (PySem.HandSPX.refsVE bm && eqO (PySem.W.alongIn K "__init__" bm) (some (some (.builtin "ValueError.__init__"))))))))
    | _, _ => false)
  | _ => false
theorem clsB_ok {K : PySem.W.Frag} {C : Addr} (h : clsB K C = true) : ∃ nm q N bs bm sn sub ab col dd k0 k1 k2 k3 k5, K.lookup C = some (excClassObj nm q C N bs bm true sn sub ab col dd k0 k1 k2 k3 k5 "ValueError.__new__") ∧ PySem.HandSPX.refsVE bm = true ∧
    PySem.W.alongIn K "__init__" bm = some (some (.builtin "ValueError.__init__")) := by
  unfold clsB at h
  split at h
  · rename_i t dd cd sl ho
    split at h
    · rename_i C' bm k0 k1 k2 k3 n k5 hm hs
      obtain ⟨h1, h⟩ := ba h
      obtain ⟨h2, h⟩ := ba h
      obtain ⟨h3, h⟩ := ba h
      obtain ⟨h4, h⟩ := ba h
      obtain ⟨h5, h⟩ := ba h
      obtain ⟨h6, h7⟩ := ba h
      have e1 := of_decide_eq_true h1
      have e2 := of_decide_eq_true h2
      have e3 := of_decide_eq_true h3
      subst e1 e2 e3
      obtain ⟨nm, bs, mro, ns, qn, hd, sn, sub, ab, col, del⟩ := cd
      dsimp only at hm h4 h5
      subst hm
      have e5 : hd = true := h5
      have e4 : del = false := by simpa using h4
      subst e5 e4
      have hsl : sl = #[k0, k1, k2, k3, some (.builtin "ValueError.__new__"), k5] := by
        obtain ⟨l⟩ := sl
        simp only at hs
        rw [hs]
      subst hsl
      exact ⟨nm, qn, ns, bs, bm, sn, sub, ab, col, dd, k0, k1, k2, k3, k5, ho, h6, eqO_ok h7⟩
    · cases h
  · cases h
def fileB (K : PySem.W.Frag) (P : Program) (c : Addr) : Bool := match K.lookup c with
  | some ⟨_, _, .fields vs, _⟩ => (match (vs[2]? : Option Value) with
    | some (.str file _) => P.main.file == file
    | _ => false)
  | _ => false
theorem fileB_ok {K : PySem.W.Frag} {P : Program} {c : Addr} (h : fileB K P c = true) : ∃ (ccl : Value) (cdd : Option Addr) (vs : Array Value) (ccs : Array (Option Value)) (file : Str) (tf : Tok), K.lookup c = some ⟨ccl, cdd, .fields vs, ccs⟩ ∧ vs[2]? = some (.str file tf) ∧ ((P.main.file : Str) == file) = true := by
  unfold fileB at h
  split at h
  · rename_i a b vs d ho
    split at h
    · rename_i file tf hv
      exact ⟨_, _, _, _, _, _, ho, hv, h⟩
    · cases h
  · cases h
def cellB (K : PySem.W.Frag) (cc C : Addr) : Bool := match K.lookup cc with
  | some ⟨_, _, .cell (some (.ref C')), _⟩ => decide (C' = C)
  | _ => false
theorem cellB_ok {K : PySem.W.Frag} {cc C : Addr} (h : cellB K cc C = true) : ∃ (cl : Value) (cld : Option Addr) (csl : Array (Option Value)), K.lookup cc = some ⟨cl, cld, .cell (some (.ref C)), csl⟩ := by
  unfold cellB at h
  split at h
  · rename_i a b C' d ho
    have e := of_decide_eq_true h
    rw [e] at ho
    exact ⟨_, _, _, ho⟩
  · cases h
def isRefB : Value → Bool
  | .ref _ => true
  | _ => false
def initB (K : PySem.W.Frag) (p : Str × Option Str) : Bool := match K.lookup (fAd K p) with
  | some ⟨_, _, .func fd, _⟩ => decide (fd.defaults = .none) && (decide (fd.kwdefaults = .none) && isRefB fd.code)
  | _ => false
def ErrD.ok (K : PySem.W.Frag) (P : Program) (d : ErrD) : Bool :=
  clsB K (ga K d.x) && (eqO (PySem.W.findIn K (.ref (ga K d.x)) "__setattr__") (some (some (.builtin "object.__setattr__"))) && ((d.fs.all fun f => eqO (PySem.W.findIn K (.ref (ga K d.x)) f) (some none)) &&
  (eqO (PySem.W.findIn K (.ref (ga K d.x)) "__init__") (some (some (.ref (fAd K d.p)))) && (decide (PySem.W.typeIn K (.ref (fAd K d.p)) = some (.type "function")) && (decide (PySem.W.subIn K (.ref (ga K d.x)) (.type "ValueError") = some true) &&
  (PySem.W.keepIn K (.ref (ga K d.x)) && (decide (PySem.W.subIn K (.ref (ga K d.x)) (.type "BaseException") = some true) && (decide (PySem.W.typeIn K (.ref (ga K d.x)) = some (.type "type")) && (eqO (PySem.W.nsIn K cStatics "thirdparty.any") (some none) &&
  (eqO (PySem.W.nsIn K mainGlobals "super") (some none) && (!(P.main.scope.names.lookup ("super" : Str)).isSome && (initB K d.p && (PySem.W.codeIn K (.ref (codeOf K d.p)) d.qual && (fileB K P (codeOf K d.p) && cellB K (cellOf K d.p) (ga K d.x)))))))))))))))
theorem ErrD.txt {K : PySem.W.Frag} {P : Program} {d : ErrD} (e : fnZ K d.p = d.val) (c : d.ok K P = true) : PySem.ErrX.Txt K P (ga K d.x) (fAd K d.p) (cellOf K d.p) (codeOf K d.p) d.qual d.params d.body d.scope d.fs := by
  obtain ⟨c1, c⟩ := ba c
  obtain ⟨c2, c⟩ := ba c
  obtain ⟨c3, c⟩ := ba c
  obtain ⟨c4, c⟩ := ba c
  obtain ⟨c5, c⟩ := ba c
  obtain ⟨c6, c⟩ := ba c
  obtain ⟨c7, c⟩ := ba c
  obtain ⟨c8, c⟩ := ba c
  obtain ⟨c9, c⟩ := ba c
  obtain ⟨c10, c⟩ := ba c
  obtain ⟨c11, c⟩ := ba c
  obtain ⟨c12, c⟩ := ba c
  obtain ⟨c13, c⟩ := ba c
  obtain ⟨c14, c⟩ := ba c
  obtain ⟨c15, c16⟩ := ba c
  refine ⟨clsB_ok c1, eqO_ok c2, fun f hf => eqO_ok (List.all_eq_true.mp c3 f hf), eqO_ok c4, of_decide_eq_true c5, of_decide_eq_true c6, c7, of_decide_eq_true c8, of_decide_eq_true c9, eqO_ok c10, eqO_ok c11, by simpa using c12, ?_, c14, fileB_ok c15, cellB_ok c16⟩
  unfold initB at c13
  unfold codeOf cellOf
  unfold fnZ at e
  cases q : K.lookup (fAd K d.p) with
  | none =>
    rw [q] at c13
    cases c13
  | some o =>
    obtain ⟨oc, od, dt, osl⟩ := o
    rw [q] at c13 e
    cases dt with
    | func fd =>
      obtain ⟨n1, n2, n3, n4, n5, n6, n7, n8, n9, n10, n11, n12, n13, n14, n15⟩ := fd
      have e2 : (some (n1, n2, n3, n4, n5, n6, n7.map (·.1), n15) : FnZ) = (some (("__init__" : Str), d.qual, d.params, FuncBody.stmts d.body, d.scope, mainGlobals, [("__class__" : Str)], builtinsNs) : FnZ) := e
      simp only [Option.some.injEq, Prod.mk.injEq] at e2
      obtain ⟨h1, h2, h3, h4, h5, h6, h7, h8⟩ := e2
      subst h1 h2 h3 h4 h5 h6 h8
      obtain ⟨k1, k⟩ := ba (show (decide (n8 = .none) && (decide (n9 = .none) && isRefB n13)) = true from c13)
      obtain ⟨k2, k3⟩ := ba k
      have e8 := of_decide_eq_true k1
      have e9 := of_decide_eq_true k2
      subst e8 e9
      cases n7 with
      | nil => cases h7
      | cons a r =>
        obtain ⟨a1, a2⟩ := a
        cases r with
        | cons b r => cases h7
        | nil =>
          have ea : a1 = "__class__" := by
            have z : [a1] = [("__class__" : Str)] := h7
            injection z
          subst ea
          cases n13 with
          | ref c => exact ⟨oc, od, _, _, _, _, osl, rfl⟩
          | _ => cases k3
    | _ => cases c13
/-- what an asked error's class says -/
def errcB (K : PySem.W.Frag) (D : Addr) : Bool :=
  eqO (PySem.W.findIn K (.ref D) "__getattribute__") (some (some (.builtin "BaseException.__getattribute__"))) && (eqO (PySem.W.findIn K (.ref D) "__getattr__") (some none) && (decide (PySem.W.subIn K (.ref D) (.type "BaseException") = some true) && (PySem.W.hasDictIn K D &&
  (eqO (PySem.W.findIn K (.ref D) "__class__") (some (some (.builtin "object.__class__"))) && (eqO (PySem.W.specialIn K (.builtin "object.__class__") "__get__") (some (some (.builtin "getset_descriptor.__get__"))) &&
  (decide (PySem.W.takesIn K (.builtin "object.__class__") = some true) && decide (PySem.W.mroIn K D (.type "object") = some true)))))))
theorem errcB_ok {K : PySem.W.Frag} {D : Addr} (c : errcB K D = true) : ErrC K D := by
  obtain ⟨c1, c⟩ := ba c
  obtain ⟨c2, c⟩ := ba c
  obtain ⟨c3, c⟩ := ba c
  obtain ⟨c4, c⟩ := ba c
  obtain ⟨c5, c⟩ := ba c
  obtain ⟨c6, c⟩ := ba c
  obtain ⟨c7, c8⟩ := ba c
  exact ⟨eqO_ok c1, eqO_ok c2, of_decide_eq_true c3, c4, eqO_ok c5, eqO_ok c6, of_decide_eq_true c7, of_decide_eq_true c8⟩
def kitB (K : PySem.W.Frag) (x y : Str) (b : Bool) : Bool := decide (PySem.W.kitOne K (.ref (ga K x)) (.ref (ga K y)) = some b)
theorem kitB_ok {K : PySem.W.Frag} {x y : Str} {b : Bool} (h : kitB K x y b = true) : PySem.W.kitOne K (.ref (ga K x)) (.ref (ga K y)) = some b := of_decide_eq_true h
/-- a tuple of the written part, at a -/
def tupAt (K : PySem.W.Frag) (a : Addr) (vs : List Dv) : Bool := match K.lookup a with
  | some ⟨.type c, _, .seq its _, _⟩ => decide (c = "tuple") && (decide (its.size ≤ sizeLine) && relAll (vs.map (Dv.v K)) its.toList)
  | _ => false
theorem tupAt_ok {K : PySem.W.Frag} {a : Addr} {vs : List Dv} (h : tupAt K a vs = true) (H : Hp) : SqT K H a (vs.map (Dv.v K)) := by
  unfold tupAt at h
  cases q : K.lookup a with
  | none =>
    rw [q] at h
    cases h
  | some o =>
    obtain ⟨oc, od, dt, osl⟩ := o
    rw [q] at h
    cases oc with
    | type c =>
      cases dt with
      | seq its n =>
        obtain ⟨h1, h2⟩ := ba (show (decide (c = "tuple") && (decide (its.size ≤ sizeLine) && relAll (vs.map (Dv.v K)) its.toList)) = true from h)
        obtain ⟨h3, h4⟩ := ba h2
        exact .inr ⟨_, its, n, q, congrArg Value.type (of_decide_eq_true h1), rfl, of_decide_eq_true h3, relAll_ok h4⟩
      | _ => cases h
    | _ => cases dt <;> cases h
/-! ### the Hook -/
def asY (g : Addr → Option Obj) (n : Nat) : List Addr := cStatics :: asD g n
structure SaysY (P : Program) (fa : List Fa) (fn : List DefD) (ts : List Tab) (tf : List Defn) (er : List ErrD) (ex : PySem.W.Frag → Bool) (w : World) (h : Heap) (K : PySem.W.Frag) : Prop where
  t : SaysT fa fn ts w K
  more : ex K = true
  hd : ∀ p ∈ tf, PySem.W.codeHdIn K (cT K p).1 (cT K p).2 = true
  out : ∀ p ∈ tf, K.lookup (cT K p).2 = none
  empty : ∀ p ∈ tf, h.get? (cT K p).2 = some { cls := .none, data := .fields #[] }
  err : ∀ d ∈ er, PySem.ErrX.Txt K P (ga K d.x) (fAd K d.p) (cellOf K d.p) (codeOf K d.p) d.qual d.params d.body d.scope d.fs
abbrev AlY : Type := AlT × List FnZ × Bool
def obsY (P : Program) (n : Nat) (fa : List Fa) (fn : List DefD) (ts : List Tab) (tf : List Defn) (er : List ErrD) (ex : PySem.W.Frag → Bool) (g : Addr → Option Obj) : AlY :=
  (obsT fa fn ts (frT g (asY g n)), er.map (fun d => fnZ (frT g (asY g n)) d.p), ex (frT g (asY g n)) && (tabsB g tf (frT g (asY g n)) && er.all fun d => d.ok (frT g (asY g n)) P))
def valY (fn : List DefD) (ts : List Tab) (er : List ErrD) (w : World) : AlY := (valT fn ts w, er.map ErrD.val, true)
theorem saysY_of {P : Program} {n : Nat} {fa : List Fa} {fn : List DefD} {ts : List Tab} {tf : List Defn} {er : List ErrD} {ex : PySem.W.Frag → Bool} {w : World} {h : Heap} (e : obsY P n fa fn ts tf er ex h.get? = valY fn ts er w) : SaysY P fa fn ts tf er ex w h (frT h.get? (asY h.get? n)) := by
  have e1 : obsT fa fn ts (frT h.get? (asY h.get? n)) = valT fn ts w := congrArg (fun z : AlY => z.1) e
  have e3 : er.map (fun d => fnZ (frT h.get? (asY h.get? n)) d.p) = er.map ErrD.val := congrArg (fun z : AlY => z.2.1) e
  have e2 : (ex (frT h.get? (asY h.get? n)) && (tabsB h.get? tf (frT h.get? (asY h.get? n)) && er.all fun d => d.ok (frT h.get? (asY h.get? n)) P)) = true := congrArg (fun z : AlY => z.2.2) e
  obtain ⟨h1, h2'⟩ := ba e2
  obtain ⟨h2, h3'⟩ := ba h2'
  have key : ∀ p ∈ tf, PySem.W.codeHdIn (frT h.get? (asY h.get? n)) (cT (frT h.get? (asY h.get? n)) p).1 (cT (frT h.get? (asY h.get? n)) p).2 = true ∧ ∃ o, h.get? (cT (frT h.get? (asY h.get? n)) p).2 = some o ∧ emptyTab o = true := fun p hp => by
    obtain ⟨h3, h4⟩ := ba (List.all_eq_true.mp h2 p hp)
    refine ⟨h3, ?_⟩
    cases q : h.get? (cT (frT h.get? (asY h.get? n)) p).2 with
    | none =>
      rw [q] at h4
      cases h4
    | some o =>
      rw [q] at h4
      exact ⟨o, rfl, h4⟩
  exact ⟨e1, h1, fun p hp => (key p hp).1, fun p hp => by
    obtain ⟨_, o, q, z⟩ := key p hp
    exact frT_none q z, fun p hp => by
    obtain ⟨_, o, q, z⟩ := key p hp
    rw [q, emptyTab_eq z], fun d hd => ErrD.txt (List.map_inj_left.mp e3 d hd) (List.all_eq_true.mp h3' d hd)⟩
def hookY (P : Program) (n : Nat) (fa : List Fa) (fn : List DefD) (ts : List Tab) (tf : List Defn) (er : List ErrD) (ex : PySem.W.Frag → Bool) : PySem.W.Hook where
  α := AlY
  obs := fun s => obsY P n fa fn ts tf er ex s.heap.get?
  val := fun w => valY fn ts er w
  says := fun w h => ∃ K : PySem.W.Frag, K.In h ∧ SaysY P fa fn ts tf er ex w h K
  of := fun _ _ e => ⟨_, frT_in, saysY_of e⟩
  keeps := fun _ _ _ ⟨K, hK, c⟩ k => ⟨K, PySem.W.Frag.In.keeps hK k, ⟨c.t, c.more, c.hd, c.out, fun p hp => k _ _ (c.empty p hp), c.err⟩⟩
theorem obsY_eq {P : Program} {n : Nat} {fa : List Fa} {fn : List DefD} {ts : List Tab} {tf : List Defn} {er : List ErrD} {ex : PySem.W.Frag → Bool} {g : Addr → Option Obj} {s : Shared} (h : ∀ a, g a = s.heap.get? a) : obsY P n fa fn ts tf er ex g = (hookY P n fa fn ts tf er ex).obs s := by
  have e : g = s.heap.get? := funext h
  rw [e] <;> rfl
end He
end

section
set_option Elab.async false
set_option linter.all false
set_option maxRecDepth 100000
set_option maxHeartbeats 4000000
/-! o.m( *d), d a written dict with text keys. -/
namespace He
open PySem PySem.Spec PyProof.Rows L2
/-- the keys of such a dict, in order -/
theorem dicW_keys {K : PySem.W.Frag} {w : World} {a : Addr} {ks : List Str} (h : dicW K a = some (keysIn w.params ks)) : ∃ es n, KDict K w a es n ∧ Vals (ks.map V.str) (es.toList.map (·.key)) := by
  obtain ⟨es, n, D⟩ := dicW_ok h
  refine ⟨es, n, D, ?_⟩
  have e : es.toList.map keyOf = keysIn w.params ks := by
    unfold dicW at h
    rw [D.at_] at h
    have h1 : (match decide (("dict" : String) = "dict") && ((#[] : Array (Option Value)).isEmpty && !(a == sysModules)) with
      | true => some (es.toList.map keyOf)
      | false => none) = some (keysIn w.params ks) := h
    rw [D.low] at h1
    exact Option.some.inj h1
  clear D h
  generalize es.toList = l at e ⊢
  induction l generalizing ks with
  | nil => cases ks with
    | nil => exact .nil
    | cons k ks => cases e
  | cons x l ih => cases ks with
    | nil => cases e
    | cons k ks =>
      have h1 : keyOf x :: l.map keyOf = some (k, PyData.keyHash w.params k) :: keysIn w.params ks := e
      injection h1 with h2 h3
      refine .cons ?_ (ih h3)
      unfold keyOf at h2
      split at h2
      · rename_i z t q
        have h4 := Option.some.inj h2
        obtain ⟨h5, h6⟩ := Prod.mk.inj h4
        exact ⟨t, by show x.key = Value.str k t; rw [q, h5]⟩
      · cases h2
theorem SaysT.keys {fa : List Fa} {fn : List DefD} {ts : List Tab} {w : World} {K : PySem.W.Frag} (c : SaysT fa fn ts w K) (i : Nat) {t : Tab} (h : ts[i]? = some t := by rfl) : ∃ es n, KDict K w (t.1 K) es n ∧ Vals (t.2.map V.str) (es.toList.map (·.key)) := by
  have e : ts.map (fun t => dicW K (t.1 K)) = ts.map fun t => some (keysIn w.params t.2) := congrArg (fun z : AlT => z.2) c
  have e2 : (ts.map fun t => dicW K (t.1 K))[i]? = (ts.map fun t => some (keysIn w.params t.2))[i]? := by rw [e]
  rw [List.getElem?_map, List.getElem?_map, h] at e2
  exact dicW_keys (Option.some.inj e2)
end He
namespace L2
open PySem PySem.Spec PyProof.Rows
section
variable {X : Cx} {pins : List (Addr × Obj)} {σ : St} {H : Hp} {s : Shared}
theorem star_kd {a : Addr} {es : Array DictEntry} {n : Nat} {xs : List V} {E : Value → Shared → Prop} {Q : List Value → Shared → Prop} (hc : X.calm = true) (I : Inv X pins σ H s) (D : KDict X.K X.w a es n) (hk : Vals xs (es.toList.map (·.key))) (hz : es.size ≤ sizeLine)
    (hQ : ∀ us s', Inv X pins σ H s' → Vals xs us → Q us s') : PySem.W.StarOf (model X.prog X.w) X.A E (.ref a) Q s := by
  have hr : s.heap.DictRaw a es n := ⟨_, I.kIn _ _ D.at_, ⟨rfl, rfl, rfl⟩, rfl⟩
  have z : wpAny (model X.prog X.w) X.A (collect (.ref a)) Q E s := by
    refine PySem.W.kdu_collect (PySem.KdlSrc.rawDict (prog := X.prog) (w := X.w) (es := es) (ep := n) D.low) (I.ok.hd hc) hr hz fun h' tk acc k hacc => ?_
    have e : acc.toList = es.toList.map (·.key) := by
      apply List.ext_getElem
      · rw [Array.length_toList, List.length_map, Array.length_toList]
        exact hacc.1
      · intro i h1 h2
        have hi : i < acc.size := by rw [Array.length_toList] at h1; exact h1
        obtain ⟨h3, q⟩ := hacc.2 i _ (Array.getElem?_eq_getElem hi)
        rw [Array.getElem_toList, q, List.getElem_map, Array.getElem_toList]
    rw [e]
    exact hQ _ _ (I.kept (t' := tk) k) hk
  unfold PySem.W.StarOf notIterableAtAll
  exact wpAny_bind (wpAny_specialOf hr.typeIs PySem.F.slot_dict_iter.lookup (wpAny_pure ⟨rfl, z⟩))
def tMethSK (C : Addr) (m : Str) (g d : Addr) (xs : List V) (sp : Sp) (E : XK) (ta te : TE) : TE := fun σ H Q => ta σ H fun x H1 => ∃ a dx fs, x = .ref a ∧ H1 a = some (.ins C dx fs) ∧ fs.lookup m = none ∧
  ∀ q, H1 q = none → te σ (upd H1 q (.met g a)) fun y H2 => y = .ref d ∧ H2 q = some (.met g a) ∧ sp (.ref a :: xs) H2 Q E
/-- o.m( *d), d a written dict -/
theorem pe_methSK {CX : CXT} {k : Nat} {C g d : Addr} {m : Str} {es : Array DictEntry} {n : Nat} {xs : List V} {sp : Sp} {E : XK} {o e : Expr} {ta te : TE} {p apos pos : Pos} (hc : X.calm = true) (he : PE X o ta) (c : Cls X.K C) (b : BMeth X.K C m g) (D : KDict X.K X.w d es n) (hk : Vals xs (es.toList.map (·.key))) (hz : es.size ≤ sizeLine)
    (F : FnR X.prog X.w X.K X.mg X.base CX k g sp) (hr : Room k X.A) (hx : Passes CX X E) (ha : PE X e te) (hbase : attributeBase o m X.env (eval o X.env) = eval o X.env := by rfl) : PE X (.Call (.Attribute o m apos) [.Starred e p] [] pos) (tMethSK C m g d xs sp E ta te) := by
  refine ⟨fun pins s σ H Q I h => ?_⟩
  refine starcall_of hbase (thn (he.run pins s σ H _ I h) fun u s1 ⟨x, H1, I1, rx, a, dx, fs, ex, ea, l, q⟩ => ?_)
  subst ex
  obtain rfl : u = Value.ref a := rx
  refine getbound_ok I1 ea c b l fun q1 s2 hq1 I2 => ?_
  refine PySem.W.ks_call (P := PySem.W.MethP X.K q1 g (.ref a)) rfl (PySem.W.keeps_M b.fi) (PySem.W.ks_lone ?_)
  refine thn (ha.run pins s2 σ _ _ I2 (q q1 hq1)) fun v s3 ⟨y, H2, I3, ry, ey, hm, hsp⟩ => ?_
  subst ey
  obtain rfl : v = Value.ref d := ry
  refine star_kd hc I3 D hk hz fun us s4 I4 rv => ⟨met_P I4 hm, ?_⟩
  exact wpAny_call (PySem.W.method_call (met_P I4 hm).1 (run_fnR (us := Value.ref a :: us) (vs := V.ref a :: xs) F hr hx I4 (.cons rfl rv) hsp))
end
end L2
end

section
set_option Elab.async false
set_option linter.all false
set_option maxRecDepth 100000
set_option maxHeartbeats 4000000
/-! zip(text, list or tuple). -/
namespace ZpX
open PySem PySem.Spec PyProof.Rows L2
/-- a kind of sequence: lists, tuples -/
structure SeqK where
  Sq : PySem.W.Frag → Hp → Addr → List V → Prop
  It : Heap → Addr → Addr → Nat → Prop
  Is : Heap → Addr → Array Value → Prop
  ty : String
  draws : ∀ {prog : Program} {w : World} {A : Around}, A.handled = none → ∀ (it l : Addr), l ≠ it → ∀ items : Array Value, Draws prog w A it [it, l] items.size (fun i v => items[i]? = some v) (fun i h => It h it l i ∧ Is h l items)
  obj : ∀ {h : Heap} {it l : Addr} {i : Nat}, It h it l i → ∃ o, h.get? it = some o ∧ ∀ v, o.data ≠ .cell v
  at_ : ∀ {h h' : Heap} {it l : Addr} {i : Nat}, It h it l i → (∀ o, h.get? it = some o → h'.get? it = some o) → It h' it l i
  of : ∀ {X : Cx} {pins : List (Addr × Obj)} {σ : L2.St} {H : Hp} {s : Shared} {a : Addr} {xs : List V}, Inv X pins σ H s → Sq X.K H a xs → ∃ its : List Value, Vals xs its ∧ Is s.heap a its.toArray ∧ a < s.heap.objs.size
  inj : ∀ {X : Cx} {pins : List (Addr × Obj)} {σ : L2.St} {H : Hp} {s : Shared} {a : Addr} {xs ys : List V}, Inv X pins σ H s → Sq X.K H a xs → Sq X.K H a ys → xs = ys
  iter : ∀ {prog : Program} {w : World} {A : Around} {E : Value → Shared → Prop} {s : Shared} {l : Addr} {items : Array Value} {Q : Value → Shared → Prop}, Is s.heap l items →
    Q (.ref s.heap.objs.size) { s with heap := s.heap.push { cls := .type ty, data := .fields #[.ref l, .int 0 0] } } → wpAny (model prog w) A (pyIter (.ref l)) Q E s
  start : ∀ {h : Heap} {it l : Addr}, h.get? it = some { cls := .type ty, data := .fields #[.ref l, .int 0 0] } → It h it l 0
  push : ∀ {h : Heap} {l : Addr} {items : Array Value} {o : Obj}, Is h l items → Is (h.push o) l items
def listK : SeqK where
  Sq := fun K H a xs => SqL K H a xs
  It := fun h it l i => h.IsListIter it l i
  Is := fun h l items => h.IsList l items
  ty := "list_iterator"
  draws := fun hh it l hne items => Draws.list hh it l hne items
  obj := fun st => by
    obtain ⟨o, e, _, d⟩ := st
    exact ⟨o, e, fun v q => by rw [d] at q; cases q⟩
  at_ := fun st k => st.at k
  of := fun I h => by
    obtain ⟨its, rv, p, _⟩ := I.list h
    exact ⟨its, rv, p.isList, p.lt⟩
  inj := fun I h h' => I.list_inj h h'
  iter := fun hl q => wpAny_pyIter_list hl q
  start := fun e => ⟨_, e, rfl, rfl⟩
  push := fun h => Heap.IsList.push h _
def tupK : SeqK where
  Sq := fun K H a xs => SqT K H a xs
  It := fun h it l i => h.IsTupleIter it l i
  Is := fun h l items => h.IsTuple l items
  ty := "tuple_iterator"
  draws := fun hh it l hne items => Draws.tuple hh it l hne items
  obj := fun st => by
    obtain ⟨o, e, _, d⟩ := st
    exact ⟨o, e, fun v q => by rw [d] at q; cases q⟩
  at_ := fun st k => st.at k
  of := fun I h => by
    obtain ⟨its, rv, p, _⟩ := I.tuple h
    obtain ⟨o, ho, _⟩ := id p
    exact ⟨its, rv, p, Heap.lt_size ho⟩
  inj := fun I h h' => I.tuple_inj h h'
  iter := fun hl q => wpAny_pyIter_tuple hl q
  start := fun e => ⟨_, e, rfl, rfl⟩
  push := fun h => Heap.IsTuple.push h _
abbrev SignV (x : Str) (i : Nat) (v : Value) : Prop := ∃ c u, x.cps[i]? = some c ∧ v = .str ⟨#[c]⟩ u
/-- the text x and the sequence at b -/
def Itzx (S : SeqK) (K : PySem.W.Frag) (x : Str) (b : Addr) : It :=
  ⟨fun i H => i < x.cps.size ∧ ∃ (ys : List V) (y : V), S.Sq K H b ys ∧ ys[i]? = some y,
    fun i H v H' => ∃ T c y, v = .ref T ∧ H T = none ∧ H' = upd H T (.tup [.str ⟨#[c]⟩, y]) ∧ x.cps[i]? = some c ∧ ∀ ys, S.Sq K H b ys → ys[i]? = some y,
    fun i H => ∃ ys : List V, S.Sq K H b ys ∧ i ≤ x.cps.size ∧ i ≤ ys.length ∧ (i = x.cps.size ∨ i = ys.length)⟩
theorem turn_zipx {P : Program} {w : World} {K : PySem.W.Frag} {elts : List Expr} {kk : Nat} {tpos : Pos} {b z TI TO i1 i2 : Addr} {x : Str} {t : Tok} (S : SeqK) (D : ZipSep2 z TI TO i1 i2 [i1] [i2, b]) (hb2 : b ≠ i2) :
    Turn P w K (.Tuple elts kk tpos) (Itzx S K x b) [z, TI, TO, i1, i2] z (fun i h => IsZip h z TI TO .none ∧ IsPair h TI (.ref i1) (.ref i2) ∧ (∃ x y, IsPair h TO x y) ∧ h.IsStrIter i1 (strIterType x) x t i ∧ S.It h i2 b i) where
  mem := by simp
  obj := fun i h st c hc => by
    obtain ⟨hz, hTI, ⟨x, y, hTO⟩, ⟨o1, e1, _, d1⟩, s2⟩ := st
    have e' : c = z ∨ c = TI ∨ c = TO ∨ c = i1 ∨ c = i2 := by simpa using hc
    rcases e' with q | q | q | q | q
    · rw [q]; exact ⟨_, hz, fun v q => nomatch q⟩
    · rw [q]; exact ⟨_, hTI, fun v q => nomatch q⟩
    · rw [q]; exact ⟨_, hTO, fun v q => nomatch q⟩
    · rw [q]; exact ⟨o1, e1, fun v q => by rw [d1] at q; cases q⟩
    · rw [q]; exact S.obj s2
  keep := fun i h h' st k => by
    obtain ⟨hz, hTI, ⟨x, y, hTO⟩, ⟨o1, e1, r1⟩, h2⟩ := st
    exact ⟨k z (by simp) _ hz, k TI (by simp) _ hTI, ⟨x, y, k TO (by simp) _ hTO⟩, ⟨o1, k i1 (by simp) o1 e1, r1⟩, S.at_ h2 fun o q => k i2 (by simp) o q⟩
  item := by
    intro X hP hw hK hc i pins s σ H E I hf st hg
    subst hP hw hK
    obtain ⟨hz, hTI, ⟨x0, y0, hTO⟩, h1, h2⟩ := st
    obtain ⟨hix, ys, y, hqy, hy⟩ := hg
    obtain ⟨its2, rv2, p2, _⟩ := S.of I hqy
    obtain ⟨u2, hu2, ru2⟩ := rv2.get hy
    have hzl : z < s.heap.objs.size := Heap.lt_size hz
    have hA : X.A.in1.handled = none := I.ok.hd hc
    have li : its2.toArray.size = ys.length := by rw [List.size_toArray, rv2.length]
    have hl2 : i < its2.toArray.size := by rw [li]; exact (List.getElem?_eq_some_iff.mp hy).1
    refine wpAny_pyNext_zipD2_item D (Draws.text hA i1 x t) (S.draws hA i2 b hb2 its2.toArray) hz hTI hTO h1 ⟨h2, p2⟩ hix hl2 fun w1 w2 h' tk P1 P2 z' TO' h1' h2' hT hsz hk => ?_
    obtain ⟨c, u, hc1, ew⟩ := P1
    subst ew
    have e2 : w2 = u2 := by
      have q : its2.toArray[i]? = some u2 := by simpa using hu2
      rw [q] at P2
      exact (Option.some.inj P2).symm
    subst e2
    refine ⟨_, rfl, wpAny_letOwnedTupleGo_zip (s := { s with heap := h', toks := tk }) z' fun h'' z'' sb => ?_⟩
    have hT2 : h''.get? s.heap.objs.size = some { cls := .type "tuple", data := .seq #[.str ⟨#[c]⟩ u, w2] } := (sb.2 _ (Nat.ne_of_gt hzl)).trans hT
    have new : ObjOk X.prog X.w (upd H s.heap.objs.size (.tup [.str ⟨#[c]⟩, y])) h'' s.heap.objs.size (.tup [.str ⟨#[c]⟩, y]) :=
      ⟨by show 2 ≤ sizeLine; decide, [.str ⟨#[c]⟩ u, w2], .cons ⟨u, rfl⟩ (.cons ru2 .nil), ⟨_, hT2, rfl, _, rfl⟩⟩
    have I1 : Inv X pins σ (upd H s.heap.objs.size (.tup [.str ⟨#[c]⟩, y])) { s with heap := h'', toks := tk } :=
      I.turnedNew (t' := tk) (ch := [z, TI, TO, i1, i2]) (fun c o hb q => (sb.2 c (fun q' => hb (by simp [q']))).trans (hk c o (fun q' => hb (by simp [q'])) (fun q' => hb (by simp [q'])) (fun q' => hb (by simp [q'])) (fun q' => hb (by simp [q'])) q)) hf (Nat.le_refl _) new
    refine ⟨.ref s.heap.objs.size, _, I1, rfl, ⟨_, c, y, rfl, I.hok.fresh (Nat.le_refl _), rfl, hc1, fun l hl => by rw [S.inj I hl hqy]; exact hy⟩, ⟨z'', ?_, ⟨.str ⟨#[c]⟩ u, w2, ?_⟩, ?_, ?_⟩, fun c hcm => ?_⟩
    · exact (sb.2 _ D.TIz).trans (hk _ _ D.TIz D.TITO D.TIi1 D.TIi2 hTI)
    · exact (sb.2 _ D.TOz).trans TO'
    · obtain ⟨o, ho, r⟩ := h1'
      exact ⟨o, (sb.2 _ (Ne.symm D.zi1)).trans ho, r⟩
    · exact S.at_ h2'.1 fun o q => (sb.2 _ (Ne.symm D.zi2)).trans q
    · have hlt : c < s.heap.objs.size := by
        have e' : c = z ∨ c = TI ∨ c = TO ∨ c = i1 ∨ c = i2 := by simpa using hcm
        rcases e' with q | q | q | q | q
        · rw [q]; exact hzl
        · rw [q]; exact Heap.lt_size hTI
        · rw [q]; exact Heap.lt_size hTO
        · rw [q]; obtain ⟨_, e1, _⟩ := h1; exact Heap.lt_size e1
        · rw [q]; obtain ⟨_, e2, _⟩ := S.obj h2; exact Heap.lt_size e2
      rw [upd_ne (Nat.ne_of_lt hlt)]
      exact (hf c hcm).1
  done := by
    intro X hP hw hK hc i pins s σ H E I hf st hg
    subst hP hw hK
    obtain ⟨hz, hTI, ⟨x0, y0, hTO⟩, h1, h2⟩ := st
    obtain ⟨ys, hqy, l1, l2, hend⟩ := hg
    obtain ⟨its2, rv2, p2, _⟩ := S.of I hqy
    have hA : X.A.in1.handled = none := I.ok.hd hc
    have li : its2.toArray.size = ys.length := by rw [List.size_toArray, rv2.length]
    exact wpAny_pyNext_zipD2_end D (Draws.text hA i1 x t) (S.draws hA i2 b hb2 its2.toArray) hz hTI hTO h1 ⟨h2, p2⟩ l1 (by omega) (by omega) fun h' tk hk => ⟨rfl, I.turnedL (t' := tk) (ch := [z, TI, TO, i1, i2]) (fun c o hb q =>
      hk c o (fun q' => hb (by simp [q'])) (fun q' => hb (by simp [q'])) (fun q' => hb (by simp [q'])) (fun q' => hb (by simp [q'])) q) hf⟩
  self := fun A i s Q E st h => wpAny_pyIter_zip st.1 h
abbrev zH1 (h : Heap) (x : Str) (t : Tok) : Heap := h.push { cls := .type (strIterType x), data := .fields #[.str x t, .int 0 0] }
abbrev zH2 (ty : String) (h : Heap) (x : Str) (t : Tok) (l2 : Addr) : Heap := (zH1 h x t).push { cls := .type ty, data := .fields #[.ref l2, .int 0 0] }
abbrev zH3 (ty : String) (h : Heap) (x : Str) (t : Tok) (l2 : Addr) : Heap := (zH2 ty h x t l2).push { cls := .type "tuple", data := .seq #[.ref h.objs.size, .ref (zH1 h x t).objs.size] }
abbrev zH4 (ty : String) (h : Heap) (x : Str) (t : Tok) (l2 : Addr) : Heap := (zH3 ty h x t l2).push { cls := .type "tuple", data := .seq #[.none, .none] }
abbrev zH5 (ty : String) (h : Heap) (x : Str) (t : Tok) (l2 : Addr) : Heap := (zH4 ty h x t l2).push { cls := .type "zip", data := .fields #[.none, .bool false, .bool false, .ref (zH2 ty h x t l2).objs.size, .ref (zH3 ty h x t l2).objs.size] }
theorem meets_zipx_new (S : SeqK) (x : Str) (t : Tok) (l2 : Addr) (ys : Array Value) :
    Meets (Builtin.«zip.__new__» ⟨[.type "zip", .str x t, .ref l2], []⟩) (fun _ R s => S.Is s.heap l2 ys ∧
      R (.ok (.ret (.ref (zH4 S.ty s.heap x t l2).objs.size))) { s with heap := zH5 S.ty s.heap x t l2 }) :=
  .of_wp fun prog w A R s h => by
    obtain ⟨hp, g, d, tk, os⟩ := s; obtain ⟨hl2, h⟩ := h
    have hsub := sub_zip
    have i2 : ∀ {A : Around} {E : Value → Shared → Prop} {Q : Value → Shared → Prop}, Q (.ref (zH1 hp x t).objs.size) ⟨zH2 S.ty hp x t l2, g, d, tk, os⟩ → wpAny (model prog w) A (pyIter (.ref l2)) Q E ⟨zH1 hp x t, g, d, tk, os⟩ := fun q => S.iter (s := ⟨zH1 hp x t, g, d, tk, os⟩) (S.push hl2) q
    wp_walk using wpAny_pyIter_strU, i2
    exact ⟨_, rfl, h⟩
section
variable {prog : Program} {w : World} {A : Around} {E : Value → Shared → Prop} {s : Shared}
theorem typeCall_zip_x (a b : Value) : checkTypeCall "zip" ⟨[a, b], []⟩ = pure () := F.typeCall_zip_2 a b
theorem call_zipx (S : SeqK) {x : Str} {t : Tok} {l2 : Addr} {ys : Array Value} {Q : Value → Shared → Prop} (hl2 : S.Is s.heap l2 ys)
    (h : ∀ h', IsZip h' (s.heap.objs.size + 4) (s.heap.objs.size + 2) (s.heap.objs.size + 3) .none → IsPair h' (s.heap.objs.size + 2) (.ref s.heap.objs.size) (.ref (s.heap.objs.size + 1)) →
      IsPair h' (s.heap.objs.size + 3) .none .none → h'.IsStrIter s.heap.objs.size (strIterType x) x t 0 → S.It h' (s.heap.objs.size + 1) l2 0 → h'.objs.size = s.heap.objs.size + 5 →
      (∀ c o, s.heap.get? c = some o → h'.get? c = some o) → Q (.ref (s.heap.objs.size + 4)) { s with heap := h' }) :
    wpAny (model prog w) A (call (.type "zip") [.str x t, .ref l2]) Q E s := by
  refine callType_new F.called_zip (by decide) (F.typeCall_zip_2 _ _) (F.newCall_zip_2 _ _) (fun obj => F.args_object_init_3 obj _ _) F.entry_zip_new
    (meets_zipx_new S x t l2 ys) ⟨hl2, ?_⟩
  have z1 : (zH1 s.heap x t).objs.size = s.heap.objs.size + 1 := Heap.size_push ..
  have z2 : (zH2 S.ty s.heap x t l2).objs.size = s.heap.objs.size + 2 := by rw [Heap.size_push, z1]
  have z3 : (zH3 S.ty s.heap x t l2).objs.size = s.heap.objs.size + 3 := by rw [Heap.size_push, z2]
  have z4 : (zH4 S.ty s.heap x t l2).objs.size = s.heap.objs.size + 4 := by rw [Heap.size_push, z3]
  have z5 : (zH5 S.ty s.heap x t l2).objs.size = s.heap.objs.size + 5 := by rw [Heap.size_push, z4]
  have g5 : (zH5 S.ty s.heap x t l2).get? (zH4 S.ty s.heap x t l2).objs.size = some _ := Heap.get?_push_size _ rfl
  have g4 : (zH5 S.ty s.heap x t l2).get? (zH3 S.ty s.heap x t l2).objs.size = some _ := Heap.get?_push_of_some _ (Heap.get?_push_size _ rfl)
  have g3 : (zH5 S.ty s.heap x t l2).get? (zH2 S.ty s.heap x t l2).objs.size = some _ := Heap.get?_push_of_some _ (Heap.get?_push_of_some _ (Heap.get?_push_size _ rfl))
  have g2 : (zH5 S.ty s.heap x t l2).get? (zH1 s.heap x t).objs.size = some _ := Heap.get?_push_of_some _ (Heap.get?_push_of_some _ (Heap.get?_push_of_some _ (Heap.get?_push_size _ rfl)))
  have g1 : (zH5 S.ty s.heap x t l2).get? s.heap.objs.size = some _ := Heap.get?_push_of_some _ (Heap.get?_push_of_some _ (Heap.get?_push_of_some _ (Heap.get?_push_of_some _ (Heap.get?_push_size _ rfl))))
  show _ ∧ _
  rw [z2, z3, z4] at g5
  rw [z1, z2] at g3
  rw [z3] at g4
  rw [z1] at g2
  rw [z4]
  exact ⟨⟨_, g5, rfl⟩, h _ g5 g3 g4 ⟨_, g1, rfl, rfl⟩ (S.start g2) z5 fun c o x =>
    Heap.get?_push_of_some _ (Heap.get?_push_of_some _ (Heap.get?_push_of_some _ (Heap.get?_push_of_some _ (Heap.get?_push_of_some _ x))))⟩
end
theorem neA {a b : Nat} (h : a < b ∨ b < a) : (a : Addr) ≠ b := fun e => h.elim (fun q => Nat.lt_irrefl _ (e ▸ q)) (fun q => Nat.lt_irrefl _ (e ▸ q))
theorem sep_at (n b : Nat) (hb : b < n) : ZipSep2 (n + 4) (n + 2) (n + 3) n (n + 1) [n] [n + 1, b] := by
  have h1 : ∀ k, n + k + 1 ≠ n := fun k => by omega
  constructor
  · exact neA (by omega)
  · exact neA (by omega)
  · exact neA (by omega)
  · exact neA (by omega)
  · exact List.mem_singleton.mpr rfl
  · exact fun q => neA (a := n + 4) (b := n) (by omega) (List.mem_singleton.mp q)
  · exact fun q => neA (a := n + 3) (b := n) (by omega) (List.mem_singleton.mp q)
  · exact neA (by omega)
  · exact List.mem_cons_self
  · exact fun q => (List.mem_cons.mp q).elim (neA (a := n + 4) (b := n + 1) (by omega)) fun q => neA (a := n + 4) (b := b) (by omega) (List.mem_singleton.mp q)
  · exact fun q => (List.mem_cons.mp q).elim (neA (a := n + 3) (b := n + 1) (by omega)) fun q => neA (a := n + 3) (b := b) (by omega) (List.mem_singleton.mp q)
  · exact fun q => (List.mem_cons.mp q).elim (neA (a := n) (b := n + 1) (by omega)) fun q => neA (a := n) (b := b) (by omega) (List.mem_singleton.mp q)
  · exact fun q => neA (a := n + 1) (b := n) (by omega) (List.mem_singleton.mp q)
/-- zip(text, seq) -/
def iZipx (K : PySem.W.Frag) (ta : TA) : TI := fun σ H R => ta σ H fun vs H1 => ∃ (S : SeqK) (x : Str) (b : Addr) (ys : List V), vs = [.str x, .ref b] ∧ S.Sq K H1 b ys ∧ R (Itzx S K x b) H1
theorem pi_zipx {X : Cx} {e e2 : Expr} {ta : TA} {p pos tpos : Pos} {elts : List Expr} {kk : Nat} (hg : Gl X "zip") (hm : X.mg "zip" = none) (ha : PA X [e, e2] ta)
    (hs : starEach [e, e2] X.env = (false, eval e X.env) :: starEach [e2] X.env := by rfl) (hpl : (backTo pos (starEach [e2] X.env)).any (·.1) = false := by rfl) :
    PI X (.Tuple elts kk tpos) (.Call (.Name "zip" p) [e, e2] [] pos) (iZipx X.K ta) := by
  refine ⟨fun pins s σ H R I h => ?_⟩
  refine Call_ (ld_blt I hg hm PyProof.Rows.boot_zip (PyProof.Rows.callWith_type1 (thn (ha.run pos pins s σ H _ I h) fun us s1 ⟨vs, H1, I1, r1, q1⟩ => ?_) hs hpl))
  obtain ⟨S, x, b, ys, ex, hqy, q⟩ := q1
  subst ex
  cases r1 with
  | cons r rr =>
    cases rr with
    | cons r' rr =>
      cases rr
      obtain ⟨t, rfl⟩ := r
      cases r'
      obtain ⟨its2, rv2, p2, lb⟩ := S.of I1 hqy
      refine call_zipx S p2 fun h' hz hTI hTO h1 h2 hsz hk => wpAny_pyIter_zip hz ?_
      have I2 : Inv X pins σ H1 { s1 with heap := h' } := I1.kept (t' := s1.toks) hk
      refine ⟨s1.heap.objs.size + 4, [s1.heap.objs.size + 4, s1.heap.objs.size + 2, s1.heap.objs.size + 3, s1.heap.objs.size, s1.heap.objs.size + 1], _, _, H1, rfl, I2, turn_zipx (x := x) (t := t) S (sep_at s1.heap.objs.size b lb) (neA (.inl (Nat.lt_succ_of_lt lb))), ⟨hz, hTI, ⟨_, _, hTO⟩, h1, h2⟩, fun c hcm => ?_, q⟩
      have e' : c = s1.heap.objs.size + 4 ∨ c = s1.heap.objs.size + 2 ∨ c = s1.heap.objs.size + 3 ∨ c = s1.heap.objs.size ∨ c = s1.heap.objs.size + 1 := by simpa using hcm
      have hle : s1.heap.objs.size ≤ c := by
        rcases e' with z | z | z | z | z
        · rw [z]; exact Nat.le_add_right _ _
        · rw [z]; exact Nat.le_add_right _ _
        · rw [z]; exact Nat.le_add_right _ _
        · rw [z]; exact Nat.le_refl _
        · rw [z]; exact Nat.le_add_right _ _
      exact I1.fpOk hle (I1.hok.fresh hle)
/-- a comprehension over it -/
theorem lc_zipx {S : SeqK} {K : PySem.W.Frag} {x : Str} {b : Addr} {ys : List V} {g : TG} {tt : TT} {te : TE} {vs : List Nat} {σ : L2.St} {H1 : Hp} {D : Addr} {Qd : Hp → Prop} (hlen : x.cps.size = ys.length) (Pv : Nat → Hp → Prop) (h0 : Pv 0 (upd H1 D (.lst []))) (hl : ∀ i H, i ≤ ys.length → Pv i H → S.Sq K H b ys)
    (hs : ∀ i c y T H, x.cps[i]? = some c → ys[i]? = some y → H T = none → Pv i H → g (.ref T) (wipe σ vs) (upd H T (.tup [.str ⟨#[c]⟩, y])) fun σ2 H2 => wipe σ2 vs = wipe σ vs ∧ tt σ2 H2 fun b H3 =>
      if b = true then te σ2 H3 fun y H4 => ∃ acc, H4 D = some (.lst acc) ∧ acc.length < sizeLine ∧ Pv (i + 1) (upd H4 D (.lst (acc ++ [y]))) else Pv (i + 1) H3) (hd : ∀ H, Pv ys.length H → Qd H) :
    ∃ W : Nat → Nat → Hp → Prop, (∃ m, W 0 m (upd H1 D (.lst []))) ∧ ∀ i m H, W i m H →
      ((Itzx S K x b).stop i H ∧ Qd H) ∨ ((Itzx S K x b).go i H ∧ ∃ Nx : Hp → Prop, (∀ H', Nx H' → ∃ m', m' < m ∧ W (i + 1) m' H') ∧ ∀ v H', (Itzx S K x b).yld i H v H' → g v (wipe σ vs) H' fun σ2 H2 => wipe σ2 vs = wipe σ vs ∧ tt σ2 H2 fun b H3 =>
        if b = true then te σ2 H3 fun y H4 => ∃ acc, H4 D = some (.lst acc) ∧ acc.length < sizeLine ∧ Nx (upd H4 D (.lst (acc ++ [y]))) else Nx H3) := by
  refine ⟨fun i m H => m = ys.length - i ∧ i ≤ ys.length ∧ Pv i H, ⟨ys.length, by simp, Nat.zero_le _, h0⟩, ?_⟩
  rintro i m H ⟨rfl, hi, p⟩
  have q := hl i H hi p
  by_cases hlt : i < ys.length
  · refine .inr ⟨⟨by omega, ys, ys[i], q, by simp [hlt]⟩, Pv (i + 1), fun H' p' => ⟨ys.length - (i + 1), by omega, rfl, hlt, p'⟩, fun v H' y => ?_⟩
    obtain ⟨T, c, y, ev, hn, eH, hc, hy⟩ := y
    subst ev eH
    exact hs i c y T H hc (hy ys q) hn p
  · have e : i = ys.length := by omega
    subst e
    exact .inl ⟨⟨ys, q, by omega, Nat.le_refl _, .inr rfl⟩, hd H p⟩
end ZpX
end

section
set_option Elab.async false
set_option linter.all false
set_option maxRecDepth 100000
set_option maxHeartbeats 4000000
/-! Small rules: text * int, str of a text or an int, a walk over a list or a tuple, a comprehension over a text. -/
namespace L2
open PySem PySem.Spec PyProof.Rows
/-- z, k times over -/
def repS (z : Str) (k : Nat) : Str := ⟨((List.replicate k z.cps.toList).flatten).toArray⟩
section
variable {X : Cx}
def rRepS : R2 := fun x y H Q => ∃ (z : Str) (k : Nat), x = .str z ∧ y = .int (k : Int) ∧ 1 ≤ k ∧ k ≤ 1000 ∧ z.length ≤ 1000 ∧ Q (.str (repS z k)) H
theorem repS_fold (z : Str) (k : Nat) : (⟨(List.replicate k z.cps).foldl (· ++ ·) #[]⟩ : Str) = repS z k := by
  have f0 : ∀ (m : Nat) (a : Array Nat), (List.replicate m z.cps).foldl (· ++ ·) a = a ++ ((List.replicate m z.cps.toList).flatten).toArray := fun m => by
    induction m with
    | zero => intro a; simp
    | succ m ih =>
      intro a
      rw [List.replicate_succ, List.foldl_cons, ih, List.replicate_succ, List.flatten_cons]
      apply Array.ext'
      simp
  unfold repS
  rw [f0]
  simp
theorem op_repS : OpR X (binaryOp .Mult) rRepS := by
  intro pins s σ H x y v u Q I rx ry h
  obtain ⟨z, k, rfl, rfl, h1, h2, hz, q⟩ := h
  obtain ⟨t, rfl⟩ := rx
  obtain ⟨t', rfl⟩ := ry
  have hl : z.length * k ≤ 1000 * 1000 := Nat.mul_le_mul hz h2
  refine PySem.P.mul_str ?_ (fun _ _ => ?_) (fun _ _ => ?_) ?_
  · rw [decide_eq_false (by omega), decide_eq_false (by omega)] <;> rfl
  · have : (z.length : Int) ≤ (2 ^ 63 - 1) / (k : Int) := by
      refine Int.le_trans (show (z.length : Int) ≤ 1000 by omega) ?_
      exact (Int.le_ediv_iff_mul_le (by omega)).mpr (by omega)
    omega
  · have e : ((k : Int)).toNat = k := Int.toNat_natCast k
    rw [e]
    unfold Builtin.Str.tooLong
    have := PySem.sizeLine_eq
    exact decide_eq_false (by omega)
  · rw [if_neg (by omega)]
    have e : ((k : Int)).toNat = k := Int.toNat_natCast k
    by_cases hk : (((k : Int) == 1 || z.length == 0)) = true
    · rw [if_pos hk]
      have ez : repS z k = z := by
        unfold repS
        rcases Bool.or_eq_true_iff.mp hk with a | a
        · have : k = 1 := by have := eq_of_beq a; omega
          subst this
          simp
        · have : z.cps.toList = [] := by
            have := eq_of_beq a
            have l : z.length = z.cps.toList.length := TL.len_tl z
            exact List.length_eq_zero_iff.mp (by omega)
          have e2 : (List.replicate k z.cps.toList).flatten = [] := by rw [this]; simp
          rw [e2]
          exact TL.ext_tl (by show ([] : List Nat) = z.cps.toList; rw [this])
      rw [ez] at q
      exact ⟨.str z, H, I, ⟨t, rfl⟩, q⟩
    · rw [if_neg hk, e, repS_fold]
      exact ⟨by
        have l : (repS z k).length = k * z.length := by
          show ((List.replicate k z.cps.toList).flatten).toArray.size = _
          rw [List.size_toArray]
          have l2 : z.length = z.cps.toList.length := TL.len_tl z
          rw [l2]
          simp
        have := PySem.sizeLine_eq
        rw [l, Nat.mul_comm]
        omega, .str (repS z k), H, I.tok _, ⟨_, rfl⟩, q⟩
def rStrAny : List V → Hp → VK → Prop := fun xs H Q => (∃ i, xs = [.int i] ∧ i.natAbs.log2 < 1920 ∧ Q (.str (toString i)) H) ∨ ∃ a, xs = [.str a] ∧ Q (.str a) H
theorem call_str_any : CallR X (.type "str") rStrAny := call_str_int.or SkE.call_str_str
def iSeq (K : PySem.W.Frag) (tl : TE) : TI := fun σ H R => tl σ H fun x H1 => ∃ a, x = .ref a ∧ ((∃ xs, SqL K H1 a xs) ∧ R (Itl K a) H1 ∨ (∃ xs, SqT K H1 a xs) ∧ R (Itt K a) H1)
theorem pi_seq {tg l : Expr} {tl : TE} (hl : PE X l tl) : PI X tg l (iSeq X.K tl) := by
  refine ⟨fun pins s σ H R I h => ?_⟩
  refine thn (hl.run pins s σ H _ I h) fun v s1 ⟨x, H1, I1, r1, q1⟩ => ?_
  obtain ⟨a, e, q1⟩ := q1
  subst e
  cases r1
  have fp : ∀ b ∈ [s1.heap.objs.size], FpOk X pins H1 b := fun b hb => by
    have e : b = s1.heap.objs.size := by simpa using hb
    subst e
    exact I1.fpOk (Nat.le_refl _) (I1.hok.fresh (Nat.le_refl _))
  rcases q1 with ⟨⟨xs, hq⟩, q⟩ | ⟨⟨xs, hq⟩, q⟩
  · obtain ⟨its, rv, p, hz⟩ := I1.list hq
    refine wpAny_pyIter_list p.isList ?_
    exact ⟨s1.heap.objs.size, [s1.heap.objs.size], _, _, H1, rfl, I1.kept (t' := s1.toks) fun b o e => Heap.get?_push_of_some _ e, turn_list a _, ⟨_, Heap.get?_push_size _ rfl, rfl, rfl⟩, fp, q⟩
  · obtain ⟨its, rv, p, hz⟩ := I1.tuple hq
    refine wpAny_pyIter_tuple (show s1.heap.IsTuple a its.toArray from p) ?_
    exact ⟨s1.heap.objs.size, [s1.heap.objs.size], _, _, H1, rfl, I1.kept (t' := s1.toks) fun b o e => Heap.get?_push_of_some _ e, turn_tuple a _, ⟨_, Heap.get?_push_size _ rfl, rfl, rfl⟩, fp, q⟩
end
/-- a comprehension over a text -/
theorem lc_str {x : Str} {g : TG} {tt : TT} {te : TE} {vs : List Nat} {σ : St} {H1 : Hp} {D : Addr} {Qd : Hp → Prop} (Pv : Nat → Hp → Prop) (h0 : Pv 0 (upd H1 D (.lst [])))
    (hs : ∀ i c H, x.cps[i]? = some c → Pv i H → g (.str ⟨#[c]⟩) (wipe σ vs) H fun σ2 H2 => wipe σ2 vs = wipe σ vs ∧ tt σ2 H2 fun b H3 =>
      if b = true then te σ2 H3 fun y H4 => ∃ acc, H4 D = some (.lst acc) ∧ acc.length < sizeLine ∧ Pv (i + 1) (upd H4 D (.lst (acc ++ [y]))) else Pv (i + 1) H3) (hd : ∀ H, Pv x.cps.size H → Qd H) :
    ∃ W : Nat → Nat → Hp → Prop, (∃ m, W 0 m (upd H1 D (.lst []))) ∧ ∀ i m H, W i m H →
      ((Its x).stop i H ∧ Qd H) ∨ ((Its x).go i H ∧ ∃ Nx : Hp → Prop, (∀ H', Nx H' → ∃ m', m' < m ∧ W (i + 1) m' H') ∧ ∀ v H', (Its x).yld i H v H' → g v (wipe σ vs) H' fun σ2 H2 => wipe σ2 vs = wipe σ vs ∧ tt σ2 H2 fun b H3 =>
        if b = true then te σ2 H3 fun y H4 => ∃ acc, H4 D = some (.lst acc) ∧ acc.length < sizeLine ∧ Nx (upd H4 D (.lst (acc ++ [y]))) else Nx H3) := by
  refine ⟨fun i m H => m = x.cps.size - i ∧ i ≤ x.cps.size ∧ Pv i H, ⟨x.cps.size, by simp, Nat.zero_le _, h0⟩, ?_⟩
  rintro i m H ⟨rfl, hi, p⟩
  by_cases hlt : i < x.cps.size
  · refine .inr ⟨hlt, Pv (i + 1), fun H' p' => ⟨x.cps.size - (i + 1), by omega, rfl, hlt, p'⟩, fun v H' y => ?_⟩
    obtain ⟨e, c, hc, ev⟩ := y
    subst e ev
    exact hs i c _ hc p
  · have e : i = x.cps.size := by omega
    subst e
    exact .inl ⟨Nat.le_refl _, hd H p⟩
end L2
end

section
set_option Elab.async false
set_option linter.all false
set_option maxRecDepth 100000
set_option maxHeartbeats 0
namespace K88
open PySem PySem.Spec PyProof.Rows L2
def top (i : Nat) : Stmt := PySem.Challenge.pw_opencuts_k88_asks_as_texts.main.body.getD i (.Pass ⟨0, 0, 0, 0⟩)
def gl (x : Str) (i : Nat) : He.DefD := ⟨(x, none), x, x, defArgs (top i), defBody (top i), defScope (top i), [], []⟩
def mt (c x q : Str) (i j : Nat) : He.DefD := ⟨(c, some x), x, q, defArgs (inClass (top i) j), defBody (inClass (top i) j), defScope (inClass (top i) j), [], []⟩
def fn : List He.DefD := [gl "is_integer" 14, gl "is_within" 15, gl "is_listed" 16,
  mt "Scan" "__init__" "Scan.__init__" 21 0, mt "Scan" "refuse" "Scan.refuse" 21 1, mt "Scan" "is_over" "Scan.is_over" 21 2, mt "Scan" "coming" "Scan.coming" 21 3, mt "Scan" "take" "Scan.take" 21 4,
  mt "Scan" "take_any" "Scan.take_any" 21 5, mt "Scan" "take_integer" "Scan.take_integer" 21 6, mt "Scan" "finish" "Scan.finish" 21 7,
  gl "integer_in" 22, gl "scan_of" 23, gl "need_one_line" 24, gl "is_name" 32, gl "is_number" 33, gl "is_ask" 34, gl "take_name" 35, gl "take_number" 36, gl "take_ask" 37,
  gl "words_of_ask" 38, gl "need_ask" 39, gl "ask_text" 40, gl "read_ask" 41, gl "_law_pen" 43, gl "_law_draw" 44, gl "_law_pick" 45, gl "_law_heard" 46, gl "_law_ask" 47, gl "law" 48]
def fa0 : List He.Fa := [.glo "BellError", .glo "BadNumber", .glo "BadBits", .glo "BadBook", .glo "BadRow", .glo "BadPattern", .glo "BadPaper", .glo "Misfit", .glo "BadText", .glo "BadWord", .glo "TooMany", .glo "NoName"]
def fa1 : List He.Fa := [.glo "is_integer", .glo "is_within", .glo "is_listed", .glo "Scan", .glo "integer_in", .glo "scan_of", .glo "need_one_line", .glo "SHAPES", .glo "is_name", .glo "is_number", .glo "is_ask", .glo "take_name"]
def fa2 : List He.Fa := [.glo "take_number", .glo "take_ask", .glo "words_of_ask", .glo "need_ask", .glo "ask_text", .glo "read_ask", .glo "_law_pen", .glo "_law_draw", .glo "_law_pick", .glo "_law_heard", .glo "_law_ask", .glo "law"]
def fa3 : List He.Fa := [.free "isinstance", .free "int", .free "bool", .free "list", .free "tuple", .free "str", .free "len", .free "all", .free "zip", .free "range", .free "abs", .int "MOST_FIGURES" 60]
def fa4 : List He.Fa := [.int "MOST_DAYS" 12, .int "MOST_NAME" 8, .int "MOST_NUMBER" (10 ^ 60 - 1), .str "FIGURES" "0123456789", .str "NONE" "-", .str "DAYS" "days", .str "LETTERS" "abcdefghijklmnopqrstuvwxyz", .cls "Scan", .noat "Scan" "words", .noat "Scan" "line", .noat "Scan" "at", .meth "Scan" "refuse"]
def fa5 : List He.Fa := [.meth "Scan" "is_over", .meth "Scan" "coming", .meth "Scan" "take", .meth "Scan" "take_any", .meth "Scan" "take_integer", .meth "Scan" "finish", .mkr "Scan", .exm "BadText" "BellError" true, .exm "BadPaper" "BellError" true]
def fa : List He.Fa := fa0 ++ (fa1 ++ (fa2 ++ (fa3 ++ (fa4 ++ (fa5)))))
def keys : List Str := ["rings", "claim", "falls", "alike", "within", "never", "moved", "cure", "days"]
def ts : List He.Tab := [(fun K => He.ga K "SHAPES", keys)]
def tf : List He.Defn := [("law", none)]
def er : List He.ErrD := [⟨"BadText", "BadText.__init__", defArgs (inClass (top 9) 0), defBody (inClass (top 9) 0), defScope (inClass (top 9) 0), ["line", "word"]⟩,
  ⟨"BadPaper", "BadPaper.__init__", defArgs (inClass (top 7) 0), defBody (inClass (top 7) 0), defScope (inClass (top 7) 0), ["part"]⟩]
/-- SHAPES: how many names, the kinds of the numbers -/
def shapesK : List (Str × Int × Str) := [("rings", 1, "nn"), ("claim", 1, "nnnh"), ("falls", 1, ""), ("alike", 2, ""), ("within", 2, ""), ("never", 1, ""), ("moved", 2, "k"), ("cure", 1, "nnn"), ("days", 1, "nnnh")]
def shAd (K : PySem.W.Frag) (x : Str) : Addr := match PySem.W.nsIn K (He.ga K "SHAPES") x with
  | some (some (.ref t)) => t
  | _ => 0
def errs : List Str := ["BadNumber", "BadBits", "BadBook", "BadRow", "BadPattern", "BadPaper", "Misfit", "BadText", "BadWord", "TooMany", "NoName"]
def bmB (K : PySem.W.Frag) (C : Addr) (m : Str) : Bool := He.eqO (PySem.W.specialIn K (.ref (He.ma K C m)) "__get__") (some (some (.builtin "function.__get__"))) && (decide (PySem.W.takesIn K (.ref (He.ma K C m)) = some false) && (!PySem.W.copiedNames.contains m && PySem.W.fnIn K (He.ma K C m)))
def ex (K : PySem.W.Frag) : Bool := He.errcB K (He.ga K "BadText") && (He.errcB K (He.ga K "BadPaper") && ((errs.all fun y => He.kitB K "BadText" y (decide (y = "BadText"))) && ((errs.all fun y => He.kitB K "BadPaper" y (decide (y = "BadPaper"))) &&
  ((shapesK.all fun q => He.eqO (PySem.W.nsIn K (He.ga K "SHAPES") q.1) (some (some (.ref (shAd K q.1)))) && He.tupAt K (shAd K q.1) [.int q.2.1, .str q.2.2]) && (He.eqO (PySem.W.nsIn K (He.ga K "SHAPES") "ring") (some none) && bmB K (He.ga K "Scan") "take")))))
abbrev R : PySem.W.OpenRow := PySem.W.OpenLaw.row PySem.Challenge.rw_opencuts_k88_asks_as_texts
abbrev Pr : Program := PySem.Challenge.pw_opencuts_k88_asks_as_texts
abbrev hk : PySem.W.Hook := He.hookY Pr 6 fa fn ts tf er ex
def ob (s : PySem.W.SharedT) : He.AlY := He.obsY Pr 6 fa fn ts tf er ex (HandSHeadRun.getT s)
theorem ob_eq (s : PySem.W.SharedT) : ob s = hk.obs s.abs := He.obsY_eq (HandSHeadRun.getT_eq s)
def names1 : List Str := ["BellError", "BadNumber", "BadBits", "BadBook", "BadRow", "BadPattern", "BadPaper", "Misfit", "BadText", "BadWord", "TooMany", "NoName", "is_integer", "is_within", "is_listed"]
def names2 : List Str := ["MOST_FIGURES", "FIGURES", "NONE", "Scan", "integer_in", "scan_of", "need_one_line", "SHAPES", "DAYS", "MOST_DAYS", "MOST_NAME", "MOST_NUMBER", "LETTERS", "is_name", "is_number"]
def names3 : List Str := ["is_ask", "take_name", "take_number", "take_ask", "words_of_ask", "need_ask", "ask_text", "read_ask", "_law_pen", "_law_draw", "_law_pick", "_law_heard", "_law_ask"]
def names : List Str := names1 ++ (names2 ++ names3)
theorem run (w : World) : HandSHeadRun.RunEq R (PySem.W.view R.prog [48]) hk ob 5000 names w := by
  refine PySem.W.byRow2 "special-get-raises" (P := fun w => HandSHeadRun.RunEq R (PySem.W.view R.prog [48]) hk ob 5000 names w) (fun w => ?_) (fun w => ?_) w
  · intro os
    kernel_rfl
  · intro os
    kernel_rfl
end K88
end

section
set_option Elab.async false
set_option linter.all false
set_option maxRecDepth 100000
set_option maxHeartbeats 0
namespace K88
open PySem PySem.Spec PyProof.Rows L2
/-- what the head tells -/
structure Tx (w : World) (K : PySem.W.Frag) (mg : Str → Option Value) : Prop where
  g_BellError : mg "BellError" = some (.ref (He.ga K "BellError"))
  g_BadNumber : mg "BadNumber" = some (.ref (He.ga K "BadNumber"))
  g_BadBits : mg "BadBits" = some (.ref (He.ga K "BadBits"))
  g_BadBook : mg "BadBook" = some (.ref (He.ga K "BadBook"))
  g_BadRow : mg "BadRow" = some (.ref (He.ga K "BadRow"))
  g_BadPattern : mg "BadPattern" = some (.ref (He.ga K "BadPattern"))
  g_BadPaper : mg "BadPaper" = some (.ref (He.ga K "BadPaper"))
  g_Misfit : mg "Misfit" = some (.ref (He.ga K "Misfit"))
  g_BadText : mg "BadText" = some (.ref (He.ga K "BadText"))
  g_BadWord : mg "BadWord" = some (.ref (He.ga K "BadWord"))
  g_TooMany : mg "TooMany" = some (.ref (He.ga K "TooMany"))
  g_NoName : mg "NoName" = some (.ref (He.ga K "NoName"))
  g_is_integer : mg "is_integer" = some (.ref (He.ga K "is_integer"))
  g_is_within : mg "is_within" = some (.ref (He.ga K "is_within"))
  g_is_listed : mg "is_listed" = some (.ref (He.ga K "is_listed"))
  g_Scan : mg "Scan" = some (.ref (He.ga K "Scan"))
  g_integer_in : mg "integer_in" = some (.ref (He.ga K "integer_in"))
  g_scan_of : mg "scan_of" = some (.ref (He.ga K "scan_of"))
  g_need_one_line : mg "need_one_line" = some (.ref (He.ga K "need_one_line"))
  g_SHAPES : mg "SHAPES" = some (.ref (He.ga K "SHAPES"))
  g_is_name : mg "is_name" = some (.ref (He.ga K "is_name"))
  g_is_number : mg "is_number" = some (.ref (He.ga K "is_number"))
  g_is_ask : mg "is_ask" = some (.ref (He.ga K "is_ask"))
  g_take_name : mg "take_name" = some (.ref (He.ga K "take_name"))
  g_take_number : mg "take_number" = some (.ref (He.ga K "take_number"))
  g_take_ask : mg "take_ask" = some (.ref (He.ga K "take_ask"))
  g_words_of_ask : mg "words_of_ask" = some (.ref (He.ga K "words_of_ask"))
  g_need_ask : mg "need_ask" = some (.ref (He.ga K "need_ask"))
  g_ask_text : mg "ask_text" = some (.ref (He.ga K "ask_text"))
  g_read_ask : mg "read_ask" = some (.ref (He.ga K "read_ask"))
  g__law_pen : mg "_law_pen" = some (.ref (He.ga K "_law_pen"))
  g__law_draw : mg "_law_draw" = some (.ref (He.ga K "_law_draw"))
  g__law_pick : mg "_law_pick" = some (.ref (He.ga K "_law_pick"))
  g__law_heard : mg "_law_heard" = some (.ref (He.ga K "_law_heard"))
  g__law_ask : mg "_law_ask" = some (.ref (He.ga K "_law_ask"))
  g_law : mg "law" = some (.ref (He.ga K "law"))
  f_isinstance : mg "isinstance" = none
  f_int : mg "int" = none
  f_bool : mg "bool" = none
  f_list : mg "list" = none
  f_tuple : mg "tuple" = none
  f_str : mg "str" = none
  f_len : mg "len" = none
  f_all : mg "all" = none
  f_zip : mg "zip" = none
  f_range : mg "range" = none
  f_abs : mg "abs" = none
  i_MOST_FIGURES : ∃ t, mg "MOST_FIGURES" = some (.int 60 t)
  i_MOST_DAYS : ∃ t, mg "MOST_DAYS" = some (.int 12 t)
  i_MOST_NAME : ∃ t, mg "MOST_NAME" = some (.int 8 t)
  i_MOST_NUMBER : ∃ t, mg "MOST_NUMBER" = some (.int (10 ^ 60 - 1) t)
  s_FIGURES : ∃ t, mg "FIGURES" = some (.str "0123456789" t)
  s_NONE : ∃ t, mg "NONE" = some (.str "-" t)
  s_DAYS : ∃ t, mg "DAYS" = some (.str "days" t)
  s_LETTERS : ∃ t, mg "LETTERS" = some (.str "abcdefghijklmnopqrstuvwxyz" t)
  c_Scan : Cls K (He.ga K "Scan")
  n_words : NoAttr K (He.ga K "Scan") "words"
  n_line : NoAttr K (He.ga K "Scan") "line"
  n_at : NoAttr K (He.ga K "Scan") "at"
  m_refuse : Meth K (He.ga K "Scan") "refuse" (He.ma K (He.ga K "Scan") "refuse")
  m_is_over : Meth K (He.ga K "Scan") "is_over" (He.ma K (He.ga K "Scan") "is_over")
  m_coming : Meth K (He.ga K "Scan") "coming" (He.ma K (He.ga K "Scan") "coming")
  m_take : Meth K (He.ga K "Scan") "take" (He.ma K (He.ga K "Scan") "take")
  m_take_any : Meth K (He.ga K "Scan") "take_any" (He.ma K (He.ga K "Scan") "take_any")
  m_take_integer : Meth K (He.ga K "Scan") "take_integer" (He.ma K (He.ga K "Scan") "take_integer")
  m_finish : Meth K (He.ga K "Scan") "finish" (He.ma K (He.ga K "Scan") "finish")
  mk_Scan : Mk K (He.ga K "Scan") (He.ma K (He.ga K "Scan") "__init__")
  x_BadText : PySem.W.exmOne K (.ref (He.ga K "BadText")) (.ref (He.ga K "BellError")) = some true
  x_BadPaper : PySem.W.exmOne K (.ref (He.ga K "BadPaper")) (.ref (He.ga K "BellError")) = some true
  e_BadText : PySem.ErrX.Txt K Pr (He.ga K "BadText") (He.fAd K ("BadText", some "__init__")) (He.cellOf K ("BadText", some "__init__")) (He.codeOf K ("BadText", some "__init__")) "BadText.__init__" (defArgs (inClass (top 9) 0)) (defBody (inClass (top 9) 0)) (defScope (inClass (top 9) 0)) ["line", "word"]
  e_BadPaper : PySem.ErrX.Txt K Pr (He.ga K "BadPaper") (He.fAd K ("BadPaper", some "__init__")) (He.cellOf K ("BadPaper", some "__init__")) (He.codeOf K ("BadPaper", some "__init__")) "BadPaper.__init__" (defArgs (inClass (top 7) 0)) (defBody (inClass (top 7) 0)) (defScope (inClass (top 7) 0)) ["part"]
  a_BadText : ErrC K (He.ga K "BadText")
  a_BadPaper : ErrC K (He.ga K "BadPaper")
  k_BadText : ∀ y ∈ errs, PySem.W.kitOne K (.ref (He.ga K "BadText")) (.ref (He.ga K y)) = some (decide (y = "BadText"))
  k_BadPaper : ∀ y ∈ errs, PySem.W.kitOne K (.ref (He.ga K "BadPaper")) (.ref (He.ga K y)) = some (decide (y = "BadPaper"))
  sh : ∀ q ∈ shapesK, PySem.W.nsIn K (He.ga K "SHAPES") q.1 = some (some (.ref (shAd K q.1))) ∧ ∀ H : Hp, SqT K H (shAd K q.1) [.int q.2.1, .str q.2.2]
  ring : PySem.W.nsIn K (He.ga K "SHAPES") "ring" = some none
  b_take : BMeth K (He.ga K "Scan") "take" (He.ma K (He.ga K "Scan") "take")
  kd : ∃ es n, KDict K w (He.ga K "SHAPES") es n ∧ Vals (keys.map V.str) (es.toList.map (·.key))
  fd : ∀ (i : Nat) (d : He.DefD), fn[i]? = some d → ∃ fd, FunD K d.name d.qual d.params d.body d.scope (d.dvs K) (d.kws K) (He.fAd K d.at_) fd
theorem ex_parts {K : PySem.W.Frag} (h : ex K = true) : He.errcB K (He.ga K "BadText") = true ∧ He.errcB K (He.ga K "BadPaper") = true ∧ (errs.all fun y => He.kitB K "BadText" y (decide (y = "BadText"))) = true ∧ (errs.all fun y => He.kitB K "BadPaper" y (decide (y = "BadPaper"))) = true ∧
    (shapesK.all fun q => He.eqO (PySem.W.nsIn K (He.ga K "SHAPES") q.1) (some (some (.ref (shAd K q.1)))) && He.tupAt K (shAd K q.1) [.int q.2.1, .str q.2.2]) = true ∧ He.eqO (PySem.W.nsIn K (He.ga K "SHAPES") "ring") (some none) = true ∧ bmB K (He.ga K "Scan") "take" = true := by
  obtain ⟨a, h⟩ := He.ba h
  obtain ⟨b, h⟩ := He.ba h
  obtain ⟨c, h⟩ := He.ba h
  obtain ⟨d, h⟩ := He.ba h
  obtain ⟨e, h⟩ := He.ba h
  obtain ⟨f, h⟩ := He.ba h
  exact ⟨a, b, c, d, e, f, h⟩
theorem bmB_ok {K : PySem.W.Frag} {C : Addr} {m : Str} (b : bmB K C m = true) (hm : Meth K C m (He.ma K C m)) : BMeth K C m (He.ma K C m) := by
  obtain ⟨b1, b⟩ := He.ba b
  obtain ⟨b2, b⟩ := He.ba b
  obtain ⟨b3, b4⟩ := He.ba b
  exact ⟨hm, He.eqO_ok b1, of_decide_eq_true b2, by simpa using b3, b4⟩
theorem tx_of {w : World} {K : PySem.W.Frag} {h : Heap} {mg : Str → Option Value} (X : K.In h) (G : h.Ns mainGlobals mg) (c : He.SaysY Pr fa fn ts tf er ex w h K) : Tx w K mg where
  g_BellError := He.glo_ok X G (c.t.d.fact 0 (f := .glo "BellError") rfl)
  g_BadNumber := He.glo_ok X G (c.t.d.fact 1 (f := .glo "BadNumber") rfl)
  g_BadBits := He.glo_ok X G (c.t.d.fact 2 (f := .glo "BadBits") rfl)
  g_BadBook := He.glo_ok X G (c.t.d.fact 3 (f := .glo "BadBook") rfl)
  g_BadRow := He.glo_ok X G (c.t.d.fact 4 (f := .glo "BadRow") rfl)
  g_BadPattern := He.glo_ok X G (c.t.d.fact 5 (f := .glo "BadPattern") rfl)
  g_BadPaper := He.glo_ok X G (c.t.d.fact 6 (f := .glo "BadPaper") rfl)
  g_Misfit := He.glo_ok X G (c.t.d.fact 7 (f := .glo "Misfit") rfl)
  g_BadText := He.glo_ok X G (c.t.d.fact 8 (f := .glo "BadText") rfl)
  g_BadWord := He.glo_ok X G (c.t.d.fact 9 (f := .glo "BadWord") rfl)
  g_TooMany := He.glo_ok X G (c.t.d.fact 10 (f := .glo "TooMany") rfl)
  g_NoName := He.glo_ok X G (c.t.d.fact 11 (f := .glo "NoName") rfl)
  g_is_integer := He.glo_ok X G (c.t.d.fact 12 (f := .glo "is_integer") rfl)
  g_is_within := He.glo_ok X G (c.t.d.fact 13 (f := .glo "is_within") rfl)
  g_is_listed := He.glo_ok X G (c.t.d.fact 14 (f := .glo "is_listed") rfl)
  g_Scan := He.glo_ok X G (c.t.d.fact 15 (f := .glo "Scan") rfl)
  g_integer_in := He.glo_ok X G (c.t.d.fact 16 (f := .glo "integer_in") rfl)
  g_scan_of := He.glo_ok X G (c.t.d.fact 17 (f := .glo "scan_of") rfl)
  g_need_one_line := He.glo_ok X G (c.t.d.fact 18 (f := .glo "need_one_line") rfl)
  g_SHAPES := He.glo_ok X G (c.t.d.fact 19 (f := .glo "SHAPES") rfl)
  g_is_name := He.glo_ok X G (c.t.d.fact 20 (f := .glo "is_name") rfl)
  g_is_number := He.glo_ok X G (c.t.d.fact 21 (f := .glo "is_number") rfl)
  g_is_ask := He.glo_ok X G (c.t.d.fact 22 (f := .glo "is_ask") rfl)
  g_take_name := He.glo_ok X G (c.t.d.fact 23 (f := .glo "take_name") rfl)
  g_take_number := He.glo_ok X G (c.t.d.fact 24 (f := .glo "take_number") rfl)
  g_take_ask := He.glo_ok X G (c.t.d.fact 25 (f := .glo "take_ask") rfl)
  g_words_of_ask := He.glo_ok X G (c.t.d.fact 26 (f := .glo "words_of_ask") rfl)
  g_need_ask := He.glo_ok X G (c.t.d.fact 27 (f := .glo "need_ask") rfl)
  g_ask_text := He.glo_ok X G (c.t.d.fact 28 (f := .glo "ask_text") rfl)
  g_read_ask := He.glo_ok X G (c.t.d.fact 29 (f := .glo "read_ask") rfl)
  g__law_pen := He.glo_ok X G (c.t.d.fact 30 (f := .glo "_law_pen") rfl)
  g__law_draw := He.glo_ok X G (c.t.d.fact 31 (f := .glo "_law_draw") rfl)
  g__law_pick := He.glo_ok X G (c.t.d.fact 32 (f := .glo "_law_pick") rfl)
  g__law_heard := He.glo_ok X G (c.t.d.fact 33 (f := .glo "_law_heard") rfl)
  g__law_ask := He.glo_ok X G (c.t.d.fact 34 (f := .glo "_law_ask") rfl)
  g_law := He.glo_ok X G (c.t.d.fact 35 (f := .glo "law") rfl)
  f_isinstance := He.free_ok X G (c.t.d.fact 36 (f := .free "isinstance") rfl)
  f_int := He.free_ok X G (c.t.d.fact 37 (f := .free "int") rfl)
  f_bool := He.free_ok X G (c.t.d.fact 38 (f := .free "bool") rfl)
  f_list := He.free_ok X G (c.t.d.fact 39 (f := .free "list") rfl)
  f_tuple := He.free_ok X G (c.t.d.fact 40 (f := .free "tuple") rfl)
  f_str := He.free_ok X G (c.t.d.fact 41 (f := .free "str") rfl)
  f_len := He.free_ok X G (c.t.d.fact 42 (f := .free "len") rfl)
  f_all := He.free_ok X G (c.t.d.fact 43 (f := .free "all") rfl)
  f_zip := He.free_ok X G (c.t.d.fact 44 (f := .free "zip") rfl)
  f_range := He.free_ok X G (c.t.d.fact 45 (f := .free "range") rfl)
  f_abs := He.free_ok X G (c.t.d.fact 46 (f := .free "abs") rfl)
  i_MOST_FIGURES := He.int_ok X G (c.t.d.fact 47 (f := .int "MOST_FIGURES" 60) rfl)
  i_MOST_DAYS := He.int_ok X G (c.t.d.fact 48 (f := .int "MOST_DAYS" 12) rfl)
  i_MOST_NAME := He.int_ok X G (c.t.d.fact 49 (f := .int "MOST_NAME" 8) rfl)
  i_MOST_NUMBER := He.int_ok X G (c.t.d.fact 50 (f := .int "MOST_NUMBER" (10 ^ 60 - 1)) rfl)
  s_FIGURES := He.str_ok X G (c.t.d.fact 51 (f := .str "FIGURES" "0123456789") rfl)
  s_NONE := He.str_ok X G (c.t.d.fact 52 (f := .str "NONE" "-") rfl)
  s_DAYS := He.str_ok X G (c.t.d.fact 53 (f := .str "DAYS" "days") rfl)
  s_LETTERS := He.str_ok X G (c.t.d.fact 54 (f := .str "LETTERS" "abcdefghijklmnopqrstuvwxyz") rfl)
  c_Scan := He.cls_ok (c.t.d.fact 55 (f := .cls "Scan") rfl)
  n_words := He.noat_ok (c.t.d.fact 56 (f := .noat "Scan" "words") rfl)
  n_line := He.noat_ok (c.t.d.fact 57 (f := .noat "Scan" "line") rfl)
  n_at := He.noat_ok (c.t.d.fact 58 (f := .noat "Scan" "at") rfl)
  m_refuse := He.meth_ok (c.t.d.fact 59 (f := .meth "Scan" "refuse") rfl)
  m_is_over := He.meth_ok (c.t.d.fact 60 (f := .meth "Scan" "is_over") rfl)
  m_coming := He.meth_ok (c.t.d.fact 61 (f := .meth "Scan" "coming") rfl)
  m_take := He.meth_ok (c.t.d.fact 62 (f := .meth "Scan" "take") rfl)
  m_take_any := He.meth_ok (c.t.d.fact 63 (f := .meth "Scan" "take_any") rfl)
  m_take_integer := He.meth_ok (c.t.d.fact 64 (f := .meth "Scan" "take_integer") rfl)
  m_finish := He.meth_ok (c.t.d.fact 65 (f := .meth "Scan" "finish") rfl)
  mk_Scan := He.mkr_ok (c.t.d.fact 66 (f := .mkr "Scan") rfl)
  x_BadText := He.exm_ok (c.t.d.fact 67 (f := .exm "BadText" "BellError" true) rfl)
  x_BadPaper := He.exm_ok (c.t.d.fact 68 (f := .exm "BadPaper" "BellError" true) rfl)
  e_BadText := c.err _ (List.mem_cons_self)
  e_BadPaper := c.err _ (List.mem_cons_of_mem _ List.mem_cons_self)
  a_BadText := He.errcB_ok (ex_parts c.more).1
  a_BadPaper := He.errcB_ok (ex_parts c.more).2.1
  k_BadText := fun y hy => He.kitB_ok (List.all_eq_true.mp (ex_parts c.more).2.2.1 y hy)
  k_BadPaper := fun y hy => He.kitB_ok (List.all_eq_true.mp (ex_parts c.more).2.2.2.1 y hy)
  sh := fun q hq => by
    obtain ⟨a, b⟩ := He.ba (List.all_eq_true.mp (ex_parts c.more).2.2.2.2.1 q hq)
    exact ⟨He.eqO_ok a, He.tupAt_ok b⟩
  ring := He.eqO_ok (ex_parts c.more).2.2.2.2.2.1
  b_take := bmB_ok (ex_parts c.more).2.2.2.2.2.2 (He.meth_ok (c.t.d.fact 62 (f := .meth "Scan" "take") rfl))
  kd := He.SaysT.keys c.t 0 rfl
  fd := fun i d hi => c.t.d.def_ i hi
end K88
end

section
set_option Elab.async false
set_option linter.all false
set_option maxRecDepth 100000
set_option maxHeartbeats 4000000
/-! The mirror of asks as texts, and its theorems. -/
namespace K88
open PySem PySem.Spec PyProof.Rows L2 TL
def letters : Str := "abcdefghijklmnopqrstuvwxyz"
def figures : Str := "0123456789"
def dash : Str := "-"
def daysW : Str := "days"
def spc : Str := " "
def nl : Str := "\n"
abbrev maxN : Int := 10 ^ 60 - 1
def toS (i : Int) : Str := Str.ofString (toString i)
def isName (z : Str) : Bool := (decide (1 ≤ (z.length : Int)) && decide ((z.length : Int) ≤ 8)) && (z.cps.toList.map fun c => decide (c ∈ letters.cps.toList)).all id
def nameV : V → Bool
  | .str z => isName z
  | _ => false
def lo (k : Str) : Int := if k = "k" then -maxN else 0
def numB (k : Str) : V → Bool
  | .non => decide (k = "h")
  | .int i => decide (lo k ≤ i) && decide (i ≤ maxN)
  | _ => false
def figs (w : Str) : Str := if cutS w none (some 1) = dash then cutS w (some 1) none else w
def digB (f : Str) : Bool := !(decide (f = "") || decide (60 < (f.length : Int)) || !((f.cps.toList.map fun c => decide (c ∈ figures.cps.toList)).all id))
def intIn (w : Str) : Option Int := if digB (figs w) = true then (if toS ((PySem.intText? w).getD 0) = w then some ((PySem.intText? w).getD 0) else none) else none
def sg (c : Nat) : Str := ⟨#[c]⟩
def kindsOf (s : Str) : List Str := s.cps.toList.map sg
def shapes : List (Str × Nat × Str) := [("rings", 1, "nn"), ("claim", 1, "nnnh"), ("falls", 1, ""), ("alike", 2, ""), ("within", 2, ""), ("never", 1, ""), ("moved", 2, "k"), ("cure", 1, "nnn"), ("days", 1, "nnnh")]
def shapeOf (w : Str) : Option (Nat × Str) := shapes.lookup w
/-! ### the reader -/
abbrev Par : Type := Str → Option V
def okName : Par := fun w => if isName w = true then some (.str w) else none
def okNum (k : Str) : Par := fun w => if k = "h" ∧ w = dash then some .non else match intIn w with
  | some i => if lo k ≤ i ∧ i ≤ maxN then some (.int i) else none
  | none => none
def runW (ws : List Str) : List Par → Nat → Except Nat (List V)
  | [], _ => .ok []
  | p :: ps, i => match ws[i]? with
    | none => .error i
    | some w => match p w with
      | none => .error i
      | some v => match runW ws ps (i + 1) with
        | .error e => .error e
        | .ok vs => .ok (v :: vs)
def again (ws : List Str) (w ks : Str) (n : Nat) : Bool := (decide (w = daysW) && !decide (n = ws.length)) && decide (n < 2 + 12 * ks.length)
def lapsR (ws : List Str) (w ks : Str) : Nat → List V → Except Nat (List V)
  | 0, _ => .error 0
  | f + 1, found => match runW ws ((kindsOf ks).map okNum) found.length with
    | .error e => .error e
    | .ok r => if again ws w ks (found ++ r).length = true then lapsR ws w ks f (found ++ r) else .ok (found ++ r)
def takeR (ws : List Str) : Except Nat (List V) := match ws[0]? with
  | none => .error 0
  | some w => match shapeOf w with
    | none => .error 0
    | some (n, ks) => match runW ws (List.replicate n okName) 1 with
      | .error e => .error e
      | .ok names => lapsR ws w ks 13 (.str w :: names)
def parse (ws : List Str) : Except Nat (List V) := match takeR ws with
  | .error e => .error e
  | .ok xs => if xs.length = ws.length then .ok xs else .error xs.length
/-! ### asks -/
def isAsk : List V → Bool
  | .str w :: r => match shapeOf w with
    | some (n, ks) => (decide (n ≤ r.length) && (r.take n).all nameV) &&
        ((!decide (w = daysW) || (decide (1 ≤ (r.drop n).length / ks.length) && decide ((r.drop n).length / ks.length ≤ 12))) &&
         (decide ((r.drop n).length = (if w = daysW then (r.drop n).length / ks.length else 1) * ks.length) &&
          (((List.replicate (if w = daysW then (r.drop n).length / ks.length else 1) (kindsOf ks)).flatten).zip (r.drop n)).all fun p => numB p.1 p.2))
    | none => false
  | _ => false
def wordV : V → Str
  | .non => dash
  | .str z => z
  | .int i => toS i
  | _ => ""
def textOf (xs : List V) : Str := Txt.join spc (xs.map wordV)
/-! ### numbers and their words -/
theorem tl_ofString (s : String) : tl (Str.ofString s) = s.toList.map Char.toNat := by
  rw [Str.ofString_eq_toList]
theorem tl_nat (n : Nat) : tl (toS (n : Int)) = numL n := tl_num n
theorem tl_neg (n : Nat) : tl (toS (Int.negSucc n)) = 45 :: numL (n + 1) := by
  unfold toS
  rw [tl_ofString]
  show (("-" ++ toString (n + 1) : String)).toList.map Char.toNat = _
  rw [String.toList_append, List.map_append]
  show 45 :: ((toString (n + 1) : String)).toList.map Char.toNat = _
  have z := tl_num (n + 1)
  rw [tl_ofString] at z
  exact congrArg (45 :: ·) z
theorem dash_tl : tl dash = [45] := by decide +kernel
theorem empty_tl : tl ("" : Str) = [] := by decide +kernel
theorem fig_mem {c : Nat} : (c ∈ figures.cps.toList) ↔ (48 ≤ c ∧ c ≤ 57) := by
  have e : figures.cps.toList = [48, 49, 50, 51, 52, 53, 54, 55, 56, 57] := by decide +kernel
  rw [e]
  simp only [List.mem_cons, List.not_mem_nil, or_false]
  omega
theorem cut_first (w : Str) : tl (cutS w none (some 1)) = (tl w).take 1 := by
  unfold cutS
  have h : HT.sIx w.length w.length (some 1) - HT.sIx w.length 0 none = min 1 w.length := by
    have z := HT.sIx_nat w.length w.length 1
    have z' : HT.sIx w.length w.length (some 1) = min 1 w.length := z
    rw [z', HT.sIx_none]
    omega
  rw [h, HT.sIx_none]
  show (w.cps.toList.drop 0).take (min 1 w.length) = _
  rw [List.drop_zero]
  have hl : w.length = w.cps.toList.length := len_tl w
  rw [hl]
  show _ = w.cps.toList.take 1
  cases w.cps.toList with
  | nil => rfl
  | cons a r =>
    rw [List.length_cons]
    have : min 1 (r.length + 1) = 1 := by omega
    rw [this]
theorem cut_rest (w : Str) : tl (cutS w (some 1) none) = (tl w).drop 1 := by
  unfold cutS
  have z' : HT.sIx w.length 0 (some 1) = min 1 w.length := HT.sIx_nat w.length 0 1
  rw [z', HT.sIx_none]
  have hl : w.length = w.cps.toList.length := len_tl w
  rw [hl]
  show (w.cps.toList.drop (min 1 w.cps.toList.length)).take (w.cps.toList.length - min 1 w.cps.toList.length) = w.cps.toList.drop 1
  cases w.cps.toList with
  | nil => rfl
  | cons a r =>
    rw [List.length_cons]
    have : min 1 (r.length + 1) = 1 := by omega
    rw [this]
    show r.take (r.length + 1 - 1) = r
    rw [Nat.add_sub_cancel, List.take_length]
theorem ext_iff {x y : Str} : x = y ↔ tl x = tl y := ⟨fun e => by rw [e], fun e => ext_tl e⟩
theorem figs_tl (w : Str) : tl (figs w) = if (tl w).take 1 = [45] then (tl w).drop 1 else tl w := by
  unfold figs
  by_cases h : (tl w).take 1 = [45]
  · rw [if_pos h, if_pos (ext_iff.mpr (by rw [cut_first, dash_tl, h])), cut_rest]
  · rw [if_neg h, if_neg (fun e => h (by rw [← cut_first, e, dash_tl]))]
theorem digB_iff (f : Str) : digB f = true ↔ (tl f ≠ [] ∧ (tl f).length ≤ 60 ∧ NumText.AllDigits (tl f)) := by
  unfold digB
  have e1 : (f = "") ↔ tl f = [] := by rw [ext_iff, empty_tl]
  have e2 : (60 < (f.length : Int)) ↔ ¬ (tl f).length ≤ 60 := by
    rw [len_tl]
    omega
  have e3 : ((f.cps.toList.map fun c => decide (c ∈ figures.cps.toList)).all id = true) ↔ NumText.AllDigits (tl f) := by
    rw [List.all_map, List.all_eq_true]
    constructor
    · intro h c hc
      exact fig_mem.mp (of_decide_eq_true (h c hc))
    · intro h c hc
      exact decide_eq_true (fig_mem.mpr (h c hc))
  constructor
  · intro h
    rw [Bool.not_eq_true'] at h
    obtain ⟨h12, h3⟩ := Bool.or_eq_false_iff.mp h
    obtain ⟨h1, h2⟩ := Bool.or_eq_false_iff.mp h12
    refine ⟨fun q => of_decide_eq_false h1 (e1.mpr q), ?_, e3.mp (by simpa using h3)⟩
    have := of_decide_eq_false h2
    rw [e2] at this
    omega
  · rintro ⟨h1, h2, h3⟩
    rw [Bool.not_eq_true', Bool.or_eq_false_iff, Bool.or_eq_false_iff]
    refine ⟨⟨decide_eq_false fun q => h1 (e1.mp q), decide_eq_false fun q => e2.mp q h2⟩, ?_⟩
    rw [e3.mpr h3] <;> rfl
/-- a word of figures is a number -/
theorem intText_some {w : Str} (h : digB (figs w) = true) : ∃ n, PySem.intText? w = some n ∧ w.length ≤ 640 ∧ n.natAbs.log2 < 1920 := by
  obtain ⟨h1, h2, h3⟩ := (digB_iff _).mp h
  have bound : ∀ l : List Nat, NumText.AllDigits l → NumText.digitsVal l < 10 ^ l.length := by
    have key : ∀ (l : List Nat) (a : Nat), NumText.AllDigits l → l.foldl (fun acc c => acc * 10 + (c - 48)) a < (a + 1) * 10 ^ l.length := by
      intro l
      induction l with
      | nil => intro a _; simp
      | cons c r ih =>
        intro a hd
        have hc := hd c List.mem_cons_self
        rw [List.foldl_cons]
        refine Nat.lt_of_lt_of_le (ih _ fun x hx => hd x (List.mem_cons_of_mem _ hx)) ?_
        rw [List.length_cons, Nat.pow_succ]
        have e : (a + 1) * (10 ^ r.length * 10) = ((a + 1) * 10) * 10 ^ r.length := by
          rw [Nat.mul_comm (10 ^ r.length) 10, Nat.mul_assoc]
        rw [e]
        exact Nat.mul_le_mul_right _ (by omega)
    intro l hd
    have := key l 0 hd
    simpa [NumText.digitsVal] using this
  have small : ∀ l : List Nat, NumText.AllDigits l → l.length ≤ 60 → (NumText.digitsVal l).log2 < 1920 := fun l hd hl => by
    have h10 : NumText.digitsVal l < 2 ^ 1920 := Nat.lt_of_lt_of_le (bound l hd) (Nat.le_trans (Nat.pow_le_pow_right (by decide) hl) (Nat.le_trans (show 10 ^ 60 ≤ 2 ^ 200 by decide) (Nat.pow_le_pow_right (by decide) (by decide))))
    by_cases h0 : NumText.digitsVal l = 0
    · rw [h0]; decide
    · exact (Nat.log2_lt h0).mpr h10
  rw [figs_tl] at h1 h2 h3
  have hw : w.length = (tl w).length := len_tl w
  by_cases h45 : (tl w).take 1 = [45]
  · rw [if_pos h45] at h1 h2 h3
    cases hh : tl w with
    | nil => rw [hh] at h45; cases h45
    | cons a r =>
      rw [hh] at h45 h1 h2 h3 hw
      have ea : a = 45 := by
        have z : [a] = [45] := h45
        injection z
      subst ea
      have l2 : r.length ≤ 60 := h2
      have hl : w.length ≤ 61 := by rw [hw, List.length_cons]; omega
      refine ⟨_, PySem.intText_neg hh h3 h1 (by omega), by omega, ?_⟩
      rw [Int.natAbs_neg, Int.natAbs_natCast]
      exact small _ h3 h2
  · rw [if_neg h45] at h1 h2 h3
    exact ⟨_, PySem.intText_digits h3 h1 (by omega), by omega, by rw [Int.natAbs_natCast]; exact small _ h3 h2⟩
theorem lt_max {n : Nat} (h : (n : Int) ≤ maxN) : n < 10 ^ 60 := by
  have z : (n : Int) ≤ 10 ^ 60 - 1 := h
  have e : ((10 : Int) ^ 60) = ((10 ^ 60 : Nat) : Int) := by decide
  rw [e] at z
  omega
theorem numL_not45 (n : Nat) : (numL n).take 1 ≠ [45] := fun h => by
  cases hh : numL n with
  | nil => exact numL_ne n hh
  | cons a r =>
    rw [hh] at h
    have z : [a] = [45] := h
    injection z with z1
    have := numL_digits n a (by rw [hh]; exact List.mem_cons_self)
    omega
theorem intIn_toS {i : Int} (h1 : -maxN ≤ i) (h2 : i ≤ maxN) : intIn (toS i) = some i := by
  have fin : digB (figs (toS i)) = true → PySem.intText? (toS i) = some i → intIn (toS i) = some i := fun a b => by
    unfold intIn
    rw [if_pos a, b]
    show (if toS i = toS i then some i else none) = some i
    rw [if_pos rfl]
  cases i with
  | ofNat n =>
    have hn := lt_max (n := n) h2
    have hl : (numL n).length ≤ 60 := numL_len (by decide) hn
    refine fin ((digB_iff _).mpr ?_) (int_num (by omega))
    rw [figs_tl, show tl (toS (Int.ofNat n)) = numL n from tl_nat n, if_neg (numL_not45 n)]
    exact ⟨numL_ne n, hl, numL_digits n⟩
  | negSucc n =>
    have hn : n + 1 < 10 ^ 60 := lt_max (n := n + 1) (by
      have : Int.negSucc n = -((n + 1 : Nat) : Int) := rfl
      rw [this] at h1
      omega)
    have hl : (numL (n + 1)).length ≤ 60 := numL_len (by decide) hn
    have ht := tl_neg n
    refine fin ((digB_iff _).mpr ?_) ?_
    · rw [figs_tl, ht]
      show (if ([45] : List Nat) = [45] then numL (n + 1) else _) ≠ [] ∧ _
      rw [if_pos rfl]
      exact ⟨numL_ne _, hl, numL_digits _⟩
    · have z := PySem.intText_neg (x := toS (Int.negSucc n)) ht (numL_digits (n + 1)) (numL_ne _) (by rw [len_tl, ht, List.length_cons]; omega)
      rw [z, numL_val] <;> rfl
theorem okNum_word {k : Str} {v : V} (h : numB k v = true) : okNum k (wordV v) = some v := by
  unfold okNum
  cases v with
  | non =>
    have hk : k = "h" := of_decide_eq_true h
    rw [if_pos ⟨hk, rfl⟩]
  | int i =>
    have h' : (decide (lo k ≤ i) && decide (i ≤ maxN)) = true := h
    obtain ⟨a, b⟩ := Bool.and_eq_true_iff.mp h'
    have a := of_decide_eq_true a
    have b := of_decide_eq_true b
    have a' : -maxN ≤ i := by
      unfold lo at a
      split at a
      · exact a
      · exact Int.le_trans (by decide) a
    have e := intIn_toS a' b
    have hd : toS i ≠ dash := fun q => by
      rw [q] at e
      have : intIn dash = none := by
        have z : digB (figs dash) = false := by decide +kernel
        unfold intIn
        rw [z] <;> rfl
      rw [this] at e
      cases e
    show (if k = "h" ∧ toS i = dash then some V.non else match intIn (toS i) with
      | some i => if lo k ≤ i ∧ i ≤ maxN then some (.int i) else none
      | none => none) = _
    rw [if_neg fun q => hd q.2, e]
    show (if lo k ≤ i ∧ i ≤ maxN then some (V.int i) else none) = _
    rw [if_pos ⟨a, b⟩]
  | _ => cases h
theorem okName_word {v : V} (h : nameV v = true) : okName (wordV v) = some v := by
  cases v with
  | str z =>
    unfold okName
    have h' : isName z = true := h
    show (if isName z = true then some (V.str z) else none) = some (V.str z)
    rw [if_pos h']
  | _ => cases h
end K88
end

section
set_option Elab.async false
set_option linter.all false
set_option maxRecDepth 100000
set_option maxHeartbeats 4000000
/-! Asks read back; the first word that cannot stand. -/
namespace K88
open PySem PySem.Spec PyProof.Rows L2 TL
def fits : List Par → List V → Prop
  | [], [] => True
  | p :: ps, v :: vs => p (wordV v) = some v ∧ fits ps vs
  | _, _ => False
def good : List Str → List V → Prop
  | [], [] => True
  | k :: ks, v :: vs => numB k v = true ∧ good ks vs
  | _, _ => False
theorem fits_len : ∀ {ps : List Par} {vs : List V}, fits ps vs → ps.length = vs.length
  | [], [], _ => rfl
  | _ :: _, _ :: _, h => by rw [List.length_cons, List.length_cons, fits_len h.2]
theorem good_len : ∀ {ks : List Str} {vs : List V}, good ks vs → ks.length = vs.length
  | [], [], _ => rfl
  | _ :: _, _ :: _, h => by rw [List.length_cons, List.length_cons, good_len h.2]
theorem good_fits : ∀ {ks : List Str} {vs : List V}, good ks vs → fits (ks.map okNum) vs
  | [], [], _ => trivial
  | _ :: _, _ :: _, h => ⟨okNum_word h.1, good_fits h.2⟩
theorem names_fits : ∀ {zs : List Str}, (∀ z ∈ zs, isName z = true) → fits (List.replicate zs.length okName) (zs.map V.str)
  | [], _ => trivial
  | z :: zs, h => ⟨okName_word (v := .str z) (h z List.mem_cons_self), names_fits fun y hy => h y (List.mem_cons_of_mem _ hy)⟩
theorem drop_cons {α : Type} {l r : List α} {i : Nat} {a : α} (h : l.drop i = a :: r) : l[i]? = some a ∧ l.drop (i + 1) = r := by
  have h1 : l[i]? = some a := by
    have z : (l.drop i)[0]? = some a := by rw [h]; rfl
    rw [List.getElem?_drop, Nat.add_zero] at z
    exact z
  refine ⟨h1, ?_⟩
  have z : (l.drop i).drop 1 = r := by rw [h]; rfl
  rw [List.drop_drop] at z
  exact z
theorem drop_nil_get {α : Type} {l : List α} {i : Nat} (h : l.drop i = []) : l[i]? = none := by
  have z : (l.drop i)[0]? = none := by rw [h]; rfl
  rw [List.getElem?_drop, Nat.add_zero] at z
  exact z
theorem runW_ok {ws tl' : List Str} : ∀ {ps : List Par} {vs : List V} {i : Nat}, fits ps vs → ws.drop i = vs.map wordV ++ tl' → runW ws ps i = .ok vs
  | [], [], _, _, _ => rfl
  | p :: ps, v :: vs, i, h, e => by
    obtain ⟨e1, e2⟩ := drop_cons (show ws.drop i = wordV v :: (vs.map wordV ++ tl') from e)
    have ih := runW_ok (ws := ws) (tl' := tl') h.2 e2
    unfold runW
    rw [e1]
    show (match p (wordV v) with
      | none => Except.error i
      | some v => match runW ws ps (i + 1) with
        | .error e => .error e
        | .ok vs => .ok (v :: vs)) = _
    rw [h.1]
    show (match runW ws ps (i + 1) with
        | .error e => Except.error e
        | .ok vs => .ok (v :: vs)) = _
    rw [ih]
theorem runW_bad {ws tl' : List Str} {p : Par} {ps2 : List Par} (hb : tl' = [] ∨ ∃ b r, tl' = b :: r ∧ p b = none) : ∀ {ps : List Par} {vs : List V} {i : Nat}, fits ps vs → ws.drop i = vs.map wordV ++ tl' → runW ws (ps ++ p :: ps2) i = .error (i + vs.length)
  | [], [], i, _, e => by
    show runW ws (p :: ps2) i = .error i
    have e' : ws.drop i = tl' := e
    unfold runW
    rcases hb with h | ⟨b, r, h, hp⟩
    · rw [h] at e'
      rw [drop_nil_get e']
    · rw [h] at e'
      rw [(drop_cons e').1]
      show (match p b with
        | none => Except.error i
        | some v => match runW ws ps2 (i + 1) with
          | .error e => .error e
          | .ok vs => .ok (v :: vs)) = _
      rw [hp]
  | q :: ps, v :: vs, i, h, e => by
    obtain ⟨e1, e2⟩ := drop_cons (show ws.drop i = wordV v :: (vs.map wordV ++ tl') from e)
    have ih := runW_bad (ws := ws) (ps2 := ps2) hb h.2 e2
    show runW ws (q :: (ps ++ p :: ps2)) i = _
    unfold runW
    rw [e1]
    show (match q (wordV v) with
      | none => Except.error i
      | some v => match runW ws (ps ++ p :: ps2) (i + 1) with
        | .error e => .error e
        | .ok vs => .ok (v :: vs)) = _
    rw [h.1]
    show (match runW ws (ps ++ p :: ps2) (i + 1) with
        | .error e => Except.error e
        | .ok vs => .ok (v :: vs)) = _
    rw [ih]
    show Except.error _ = Except.error _
    rw [List.length_cons]
    exact congrArg Except.error (by omega)
theorem lap_step {ws tl' : List Str} {w ks : Str} {f : Nat} {found g : List V} (hg : good (kindsOf ks) g) (e : ws.drop found.length = g.map wordV ++ tl') :
    lapsR ws w ks (f + 1) found = if again ws w ks (found ++ g).length = true then lapsR ws w ks f (found ++ g) else .ok (found ++ g) := by
  show (match runW ws ((kindsOf ks).map okNum) found.length with
    | .error e => Except.error e
    | .ok r => if again ws w ks (found ++ r).length = true then lapsR ws w ks f (found ++ r) else .ok (found ++ r)) = _
  rw [runW_ok (good_fits hg) e]
theorem lap_bad {ws tl' : List Str} {w ks k : Str} {k1 k2 : List Str} {f : Nat} {found g1 : List V} (hk : kindsOf ks = k1 ++ k :: k2) (hg : good k1 g1) (e : ws.drop found.length = g1.map wordV ++ tl') (hb : tl' = [] ∨ ∃ b r, tl' = b :: r ∧ okNum k b = none) :
    lapsR ws w ks (f + 1) found = .error (found.length + g1.length) := by
  show (match runW ws ((kindsOf ks).map okNum) found.length with
    | .error e => Except.error e
    | .ok r => if again ws w ks (found ++ r).length = true then lapsR ws w ks f (found ++ r) else .ok (found ++ r)) = _
  rw [hk, List.map_append, List.map_cons, runW_bad hb (good_fits hg) e]
theorem drop_more {ws tl' : List Str} {n : Nat} {g : List V} (e : ws.drop n = g.map wordV ++ tl') : ws.drop (n + g.length) = tl' := by
  rw [← List.drop_drop, e]
  have : g.length = (g.map wordV).length := by rw [List.length_map]
  rw [this, List.drop_left]
theorem len_of {ws tl' : List Str} {n : Nat} {g : List V} (hn : n ≤ ws.length) (e : ws.drop n = g.map wordV ++ tl') : ws.length = n + g.length + tl'.length := by
  have z := congrArg List.length e
  rw [List.length_drop, List.length_append, List.length_map] at z
  omega
theorem laps_many {ws tl' : List Str} (ht : tl' ≠ []) {ks : Str} {c : Nat} (hc : (kindsOf ks).length = c) (hcl : ks.length = c) : ∀ {gs : List (List V)} {f : Nat} {found : List V}, (∀ g ∈ gs, good (kindsOf ks) g) → found.length ≤ ws.length → ws.drop found.length = gs.flatten.map wordV ++ tl' → found.length + c * gs.length < 2 + 12 * c →
    lapsR ws daysW ks (f + gs.length) found = lapsR ws daysW ks f (found ++ gs.flatten)
  | [], f, found, _, _, _, _ => by
    show lapsR ws daysW ks f found = lapsR ws daysW ks f (found ++ [])
    rw [List.append_nil]
  | g :: gs, f, found, hg, hn, e, hb => by
    have h1 := hg g List.mem_cons_self
    have lg : g.length = c := by rw [← good_len h1, hc]
    have e1 : ws.drop found.length = g.map wordV ++ (gs.flatten.map wordV ++ tl') := by
      rw [e, List.flatten_cons, List.map_append, List.append_assoc]
    have e2 := drop_more e1
    have hl := len_of hn e1
    have ht1 : 1 ≤ tl'.length := by
      cases tl' with
      | nil => exact absurd rfl ht
      | cons a r => rw [List.length_cons]; omega
    have hl2 : (found ++ g).length = found.length + g.length := List.length_append
    have hg4 : c * (gs.length + 1) = c * gs.length + c := Nat.mul_succ _ _
    rw [List.length_cons] at hb
    have ag : again ws daysW ks (found ++ g).length = true := by
      unfold again
      rw [hl2, hcl, decide_eq_true rfl, decide_eq_false (by rw [List.length_append] at hl; omega), decide_eq_true (by omega)] <;> rfl
    rw [List.length_cons, show f + (gs.length + 1) = (f + gs.length) + 1 from by omega, lap_step h1 e1, if_pos ag]
    have ih := laps_many ht hc hcl (gs := gs) (f := f) (found := found ++ g) (fun x hx => hg x (List.mem_cons_of_mem _ hx)) (by rw [hl2, hl]; omega) (by rw [hl2]; exact e2) (by rw [hl2, lg]; omega)
    rw [ih, List.flatten_cons, List.append_assoc]
/-- an ask that is right -/
structure Ask where
  w : Str
  n : Nat
  ks : Str
  names : List Str
  gs : List (List V)
structure Ask.Ok (a : Ask) : Prop where
  sh : shapeOf a.w = some (a.n, a.ks)
  ln : a.names.length = a.n
  nm : ∀ z ∈ a.names, isName z = true
  gd : ∀ g ∈ a.gs, good (kindsOf a.ks) g
  one : a.w ≠ daysW → a.gs.length = 1
  days : a.w = daysW → 1 ≤ a.gs.length ∧ a.gs.length ≤ 12
def Ask.head (a : Ask) : List V := .str a.w :: a.names.map V.str
def Ask.xs (a : Ask) : List V := a.head ++ a.gs.flatten
def Ask.ws (a : Ask) : List Str := a.xs.map wordV
theorem shape_days : shapeOf daysW = some (1, ("nnnh" : Str)) := by decide +kernel
theorem kinds_days : (kindsOf "nnnh").length = 4 ∧ ("nnnh" : Str).length = 4 := by decide +kernel
theorem Ask.Ok.dk {a : Ask} (h : a.Ok) (e : a.w = daysW) : a.n = 1 ∧ a.ks = "nnnh" := by
  have z := h.sh
  rw [e, shape_days] at z
  have z2 := Option.some.inj z
  exact ⟨(Prod.mk.inj z2).1.symm, (Prod.mk.inj z2).2.symm⟩
theorem Ask.Ok.lhead {a : Ask} (h : a.Ok) : a.head.length = a.n + 1 := by
  unfold Ask.head
  rw [List.length_cons, List.length_map, h.ln]
/-- the reader behind the head -/
theorem takeR_head {a : Ask} (h : a.Ok) {ws tl' : List Str} (e : ws = a.head.map wordV ++ tl') : takeR ws = lapsR ws a.w a.ks 13 a.head := by
  have e0 : ws.drop 0 = a.w :: ((a.names.map V.str).map wordV ++ tl') := e
  obtain ⟨e1, e2⟩ := drop_cons e0
  unfold takeR
  rw [e1]
  show (match shapeOf a.w with
    | none => Except.error 0
    | some (n, ks) => match runW ws (List.replicate n okName) 1 with
      | .error e => .error e
      | .ok names => lapsR ws a.w ks 13 (.str a.w :: names)) = _
  rw [h.sh]
  show (match runW ws (List.replicate a.n okName) 1 with
      | .error e => Except.error e
      | .ok names => lapsR ws a.w a.ks 13 (.str a.w :: names)) = _
  rw [← h.ln, runW_ok (names_fits h.nm) e2] <;> rfl
theorem split_last {α : Type} : ∀ {l : List α}, 1 ≤ l.length → ∃ r x, l = r ++ [x] := fun {l} h =>
  ⟨l.dropLast, l.getLast (by intro e; rw [e] at h; simp at h), (List.dropLast_concat_getLast _).symm⟩
theorem Ask.Ok.gs1 {a : Ask} (h : a.Ok) : 1 ≤ a.gs.length := by
  by_cases e : a.w = daysW
  · exact (h.days e).1
  · rw [h.one e]; exact Nat.le_refl _
theorem Ask.Ok.flen {a : Ask} (h : a.Ok) (e : a.w = daysW) : ∀ {gs : List (List V)}, (∀ g ∈ gs, good (kindsOf a.ks) g) → gs.flatten.length = 4 * gs.length
  | [], _ => rfl
  | g :: gs, hg => by
    have h1 := good_len (hg g List.mem_cons_self)
    rw [(h.dk e).2, kinds_days.1] at h1
    rw [List.flatten_cons, List.length_append, Ask.Ok.flen h e fun x hx => hg x (List.mem_cons_of_mem _ hx), List.length_cons]
    omega
/-- laps ahead of the last ones that the text has -/
theorem laps_pre {a : Ask} (h : a.Ok) {ws tl' : List Str} {gs1 : List (List V)} {f : Nat} (hg : ∀ g ∈ gs1, good (kindsOf a.ks) g) (hd : gs1 ≠ [] → a.w = daysW) (hl : gs1.length ≤ 11) (ht : gs1 ≠ [] → tl' ≠ []) (e : ws = (a.head ++ gs1.flatten).map wordV ++ tl') :
    lapsR ws a.w a.ks (f + gs1.length) a.head = lapsR ws a.w a.ks f (a.head ++ gs1.flatten) := by
  by_cases h1 : gs1 = []
  · subst h1
    show lapsR ws a.w a.ks f a.head = lapsR ws a.w a.ks f (a.head ++ [])
    rw [List.append_nil]
  · have hw := hd h1
    obtain ⟨d1, d2⟩ := h.dk hw
    have e1 : ws.drop a.head.length = gs1.flatten.map wordV ++ tl' := by
      rw [e, List.map_append, List.append_assoc]
      have : a.head.length = (a.head.map wordV).length := by rw [List.length_map]
      rw [this, List.drop_left]
    have l1 := h.lhead
    rw [hw]
    refine laps_many (ht h1) (c := 4) (by rw [d2]; exact kinds_days.1) (by rw [d2]; exact kinds_days.2) hg ?_ e1 (by omega)
    rw [e, List.length_append, List.length_map, List.length_append]
    omega
theorem Ask.ws_eq (a : Ask) : a.ws = a.head.map wordV ++ a.gs.flatten.map wordV := by
  unfold Ask.ws Ask.xs
  rw [List.map_append]
theorem len_ws (a : Ask) : a.ws.length = a.xs.length := by
  unfold Ask.ws
  rw [List.length_map]
/-- read whole, whatever comes behind, if the laps end there -/
theorem takeR_all {a : Ask} (h : a.Ok) {tl' : List Str} (ht : tl' = [] ∨ a.w ≠ daysW ∨ a.gs.length = 12) : takeR (a.ws ++ tl') = .ok a.xs := by
  obtain ⟨gs1, gl, eg⟩ := split_last h.gs1
  have hgl : good (kindsOf a.ks) gl := h.gd gl (by rw [eg]; simp)
  have hg1 : ∀ g ∈ gs1, good (kindsOf a.ks) g := fun g hg => h.gd g (by rw [eg]; simp [hg])
  have lgs : a.gs.length = gs1.length + 1 := by rw [eg]; simp
  have hd : gs1 ≠ [] → a.w = daysW := fun hne => by
    by_cases e : a.w = daysW
    · exact e
    · have := h.one e
      have : gs1.length = 0 := by omega
      exact absurd (List.length_eq_zero_iff.mp this) hne
  have l11 : gs1.length ≤ 11 := by
    by_cases e : a.w = daysW
    · have := (h.days e).2
      omega
    · have := h.one e
      omega
  have e1 : a.ws ++ tl' = (a.head ++ gs1.flatten).map wordV ++ (gl.map wordV ++ tl') := by
    rw [a.ws_eq, eg]
    simp [List.map_append, List.append_assoc]
  have hne : gs1 ≠ [] → gl.map wordV ++ tl' ≠ [] := fun hne => by
    have z := good_len hgl
    rw [(h.dk (hd hne)).2, kinds_days.1] at z
    intro q
    have := congrArg List.length q
    rw [List.length_append, List.length_map, List.length_nil] at this
    omega
  rw [takeR_head h (tl' := a.gs.flatten.map wordV ++ tl') (by rw [a.ws_eq, List.append_assoc])]
  have hf : (13 : Nat) = ((12 - gs1.length) + 1) + gs1.length := by omega
  rw [hf, laps_pre h hg1 hd l11 hne e1]
  have e2 : (a.ws ++ tl').drop (a.head ++ gs1.flatten).length = gl.map wordV ++ tl' := by
    rw [e1]
    have : (a.head ++ gs1.flatten).length = ((a.head ++ gs1.flatten).map wordV).length := by rw [List.length_map]
    rw [this, List.drop_left]
  rw [lap_step hgl e2]
  have exs : a.head ++ gs1.flatten ++ gl = a.xs := by
    unfold Ask.xs
    rw [eg]
    simp [List.append_assoc]
  rw [exs]
  have ag : again (a.ws ++ tl') a.w a.ks a.xs.length = false := by
    unfold again
    by_cases e : a.w = daysW
    · obtain ⟨d1, d2⟩ := h.dk e
      rcases ht with q | q | q
      · rw [q, List.append_nil, len_ws, decide_eq_true rfl]
        simp
      · exact absurd e q
      · have lx : a.xs.length = 50 := by
          unfold Ask.xs
          rw [List.length_append, h.lhead, h.flen e h.gd, d1, q]
        rw [lx, d2, kinds_days.2]
        simp
    · rw [decide_eq_false e]
      simp
  rw [ag] <;> rfl
/-- T1 -/
theorem parse_ws {a : Ask} (h : a.Ok) : parse a.ws = .ok a.xs := by
  have z := takeR_all h (tl' := []) (.inl rfl)
  rw [List.append_nil] at z
  unfold parse
  rw [z]
  show (if a.xs.length = a.ws.length then Except.ok a.xs else .error a.xs.length) = _
  rw [if_pos (len_ws a).symm]
theorem seven : okNum "n" "7" = some (.int 7) := by
  have h : numB "n" (.int 7) = true := by decide +kernel
  have z := okNum_word h
  have e : wordV (.int 7) = "7" := by decide +kernel
  rw [e] at z
  exact z
/-- T4 -/
theorem parse_extra {a : Ask} (h : a.Ok) : parse (a.ws ++ [("7" : Str)]) = .error (a.ws.length + if a.w = daysW ∧ a.ws.length < 50 then 1 else 0) := by
  by_cases ht : a.w ≠ daysW ∨ a.gs.length = 12
  · have z := takeR_all h (tl' := [("7" : Str)]) (.inr ht)
    unfold parse
    rw [z]
    show (if a.xs.length = (a.ws ++ [("7" : Str)]).length then Except.ok a.xs else .error a.xs.length) = _
    rw [List.length_append, len_ws, if_neg (by show ¬ a.xs.length = a.xs.length + 1; omega), if_neg (fun q => ?_)]
    · rfl
    · rcases ht with e | e
      · exact e q.1
      · have lx : a.xs.length = 50 := by
          unfold Ask.xs
          rw [List.length_append, h.lhead, h.flen q.1 h.gd, (h.dk q.1).1, e]
        omega
  · have e : a.w = daysW := Classical.byContradiction fun q => ht (.inl q)
    have e12 : a.gs.length ≤ 11 := by
      have := (h.days e).2
      have : a.gs.length ≠ 12 := fun q => ht (.inr q)
      omega
    obtain ⟨d1, d2⟩ := h.dk e
    have lx : a.xs.length = 2 + 4 * a.gs.length := by
      unfold Ask.xs
      rw [List.length_append, h.lhead, h.flen e h.gd, d1]
    have e1 : a.ws ++ [("7" : Str)] = (a.head ++ a.gs.flatten).map wordV ++ [("7" : Str)] := rfl
    have t : takeR (a.ws ++ [("7" : Str)]) = .error (a.xs.length + 1) := by
      rw [takeR_head h (tl' := a.gs.flatten.map wordV ++ [("7" : Str)]) (by rw [a.ws_eq, List.append_assoc])]
      have hf : (13 : Nat) = ((12 - a.gs.length) + 1) + a.gs.length := by omega
      rw [hf, laps_pre h h.gd (fun _ => e) e12 (fun _ => by simp) e1]
      have hk : kindsOf a.ks = [("n" : Str)] ++ ("n" : Str) :: [("n" : Str), ("h" : Str)] := by rw [d2]; decide +kernel
      have z := lap_bad (w := a.w) (f := 12 - a.gs.length) (ws := a.ws ++ [("7" : Str)]) (tl' := []) (found := a.head ++ a.gs.flatten) (g1 := [.int 7]) hk ⟨by decide +kernel, trivial⟩ (by
        rw [e1]
        have : (a.head ++ a.gs.flatten).length = ((a.head ++ a.gs.flatten).map wordV).length := by rw [List.length_map]
        rw [this, List.drop_left]
        decide +kernel) (.inl rfl)
      rw [z]
      rfl
    unfold parse
    rw [t]
    show Except.error _ = Except.error _
    rw [if_pos ⟨e, by rw [len_ws]; omega⟩, len_ws]
/-! ### a word otherwise, words left out -/
theorem flat_at {α : Type} : ∀ {gs : List (List α)} {m : Nat}, m < gs.flatten.length → ∃ gs1 g1 v g2 gs2, gs = gs1 ++ (g1 ++ v :: g2) :: gs2 ∧ m = gs1.flatten.length + g1.length
  | [], m, h => by simp at h
  | g :: gs, m, h => by
    by_cases hm : m < g.length
    · refine ⟨[], g.take m, g[m], g.drop (m + 1), gs, ?_, ?_⟩
      · show g :: gs = (g.take m ++ g[m] :: g.drop (m + 1)) :: gs
        rw [← List.drop_eq_getElem_cons hm, List.take_append_drop]
      · show m = 0 + (g.take m).length
        rw [List.length_take]
        omega
    · rw [List.flatten_cons, List.length_append] at h
      obtain ⟨gs1, g1, v, g2, gs2, e1, e2⟩ := flat_at (gs := gs) (m := m - g.length) (by omega)
      refine ⟨g :: gs1, g1, v, g2, gs2, by rw [e1]; rfl, ?_⟩
      rw [List.flatten_cons, List.length_append]
      omega
theorem good_app : ∀ {ks : List Str} {g1 g2 : List V} {v : V}, good ks (g1 ++ v :: g2) → ∃ k1 k k2, ks = k1 ++ k :: k2 ∧ good k1 g1
  | [], [], _, _, h => False.elim h
  | [], _ :: _, _, _, h => False.elim h
  | k :: ks, [], _, _, _ => ⟨[], k, ks, rfl, trivial⟩
  | k :: ks, a :: g1, g2, v, h => by
    obtain ⟨k1, k', k2, e, hg⟩ := good_app (ks := ks) (g1 := g1) h.2
    exact ⟨k :: k1, k', k2, by rw [e]; rfl, h.1, hg⟩
/-- the reader stops at i -/
theorem parse_stop {a : Ask} (h : a.Ok) {i : Nat} (h0 : 1 ≤ i) (hi : i < a.xs.length) {tl' : List Str} (hb : tl' = [] ∨ ∃ b r, tl' = b :: r ∧ (i ≤ a.n → okName b = none) ∧ ∀ k, a.n < i → okNum k b = none)
    (hx : tl' = [] → ¬ (a.w = daysW ∧ 2 < i ∧ (i - 2) % 4 = 0)) : parse (a.ws.take i ++ tl') = .error i := by
  have ew : a.ws.take i ++ tl' = (a.xs.take i).map wordV ++ tl' := by
    unfold Ask.ws
    rw [List.map_take]
  have l1 := h.lhead
  have key : takeR (a.ws.take i ++ tl') = .error i := by
    by_cases hn : i ≤ a.n
    · -- among the names
      have hsp : a.names = a.names.take (i - 1) ++ a.names.drop (i - 1) := (List.take_append_drop _ _).symm
      have ln1 : (a.names.take (i - 1)).length = i - 1 := by
        rw [List.length_take, h.ln]
        omega
      have et : a.xs.take i = .str a.w :: (a.names.take (i - 1)).map V.str := by
        unfold Ask.xs Ask.head
        obtain ⟨j, rfl⟩ : ∃ j, i = j + 1 := ⟨i - 1, by omega⟩
        show (V.str a.w :: (a.names.map V.str ++ a.gs.flatten)).take (j + 1) = _
        rw [List.take_succ_cons, List.take_append_of_le_length (by rw [List.length_map, h.ln]; omega), Nat.add_sub_cancel, List.map_take]
      have e0 : (a.ws.take i ++ tl').drop 0 = a.w :: (((a.names.take (i - 1)).map V.str).map wordV ++ tl') := by
        rw [ew, et] <;> rfl
      obtain ⟨e1, e2⟩ := drop_cons e0
      unfold takeR
      rw [e1]
      show (match shapeOf a.w with
        | none => Except.error 0
        | some (n, ks) => match runW (a.ws.take i ++ tl') (List.replicate n okName) 1 with
          | .error e => .error e
          | .ok names => lapsR (a.ws.take i ++ tl') a.w ks 13 (.str a.w :: names)) = _
      rw [h.sh]
      show (match runW (a.ws.take i ++ tl') (List.replicate a.n okName) 1 with
          | .error e => Except.error e
          | .ok names => lapsR (a.ws.take i ++ tl') a.w a.ks 13 (.str a.w :: names)) = _
      have er : List.replicate a.n okName = List.replicate (a.names.take (i - 1)).length okName ++ okName :: List.replicate (a.n - i) okName := by
        rw [ln1, ← List.replicate_succ, List.replicate_append_replicate]
        exact congrArg (fun n => List.replicate n okName) (by omega)
      rw [er, runW_bad (hb.imp id fun ⟨b, r, e, q, _⟩ => ⟨b, r, e, q hn⟩) (names_fits fun z hz => h.nm z (List.mem_of_mem_take hz)) e2]
      show Except.error _ = Except.error _
      rw [List.length_map, ln1]
      exact congrArg Except.error (by omega)
    · -- among the numbers
      have hm : i - (a.n + 1) < a.gs.flatten.length := by
        unfold Ask.xs at hi
        rw [List.length_append, l1] at hi
        omega
      obtain ⟨gs1, g1, v, g2, gs2, eg, em⟩ := flat_at hm
      have hgv : good (kindsOf a.ks) (g1 ++ v :: g2) := h.gd _ (by rw [eg]; simp)
      obtain ⟨k1, k, k2, ek, hg1⟩ := good_app hgv
      have hgs1 : ∀ g ∈ gs1, good (kindsOf a.ks) g := fun g hg => h.gd g (by rw [eg]; simp [hg])
      have lgs : a.gs.length = gs1.length + 1 + gs2.length := by rw [eg]; simp; omega
      have hd : gs1 ≠ [] → a.w = daysW := fun hne => by
        by_cases e : a.w = daysW
        · exact e
        · have := h.one e
          have : gs1.length = 0 := by omega
          exact absurd (List.length_eq_zero_iff.mp this) hne
      have l11 : gs1.length ≤ 11 := by
        by_cases e : a.w = daysW
        · have := (h.days e).2
          omega
        · have := h.one e
          omega
      have et : a.xs.take i = (a.head ++ gs1.flatten) ++ g1 := by
        have ex : a.xs = ((a.head ++ gs1.flatten) ++ g1) ++ (v :: g2 ++ gs2.flatten) := by
          unfold Ask.xs
          rw [eg]
          simp [List.append_assoc]
        have li : i = ((a.head ++ gs1.flatten) ++ g1).length := by
          rw [List.length_append, List.length_append, l1]
          omega
        rw [ex, li, List.take_left]
      have e1 : a.ws.take i ++ tl' = (a.head ++ gs1.flatten).map wordV ++ (g1.map wordV ++ tl') := by
        rw [ew, et, List.map_append, List.append_assoc]
      have eh : a.ws.take i ++ tl' = a.head.map wordV ++ (gs1.flatten.map wordV ++ (g1.map wordV ++ tl')) := by
        rw [e1, List.map_append, List.append_assoc]
      have hne : gs1 ≠ [] → g1.map wordV ++ tl' ≠ [] := fun hne q => by
        have q1 := congrArg List.length q
        rw [List.length_append, List.length_map, List.length_nil] at q1
        have t0 : tl' = [] := List.length_eq_zero_iff.mp (by omega)
        have e := hd hne
        have := h.flen e hgs1
        have hp : 1 ≤ gs1.length := by
          cases gs1 with
          | nil => exact absurd rfl hne
          | cons _ _ => rw [List.length_cons]; omega
        have d1 := (h.dk e).1
        refine hx t0 ⟨e, by omega, by omega⟩
      rw [takeR_head h eh]
      have hf : (13 : Nat) = ((12 - gs1.length) + 1) + gs1.length := by omega
      rw [hf, laps_pre h hgs1 hd l11 hne e1]
      have e2 : (a.ws.take i ++ tl').drop (a.head ++ gs1.flatten).length = g1.map wordV ++ tl' := by
        rw [e1]
        have : (a.head ++ gs1.flatten).length = ((a.head ++ gs1.flatten).map wordV).length := by rw [List.length_map]
        rw [this, List.drop_left]
      rw [lap_bad ek hg1 e2 (hb.imp id fun ⟨b, r, e, _, q⟩ => ⟨b, r, e, q k (by omega)⟩)]
      refine congrArg Except.error ?_
      rw [List.length_append, l1]
      omega
  unfold parse
  rw [key]
/-- T0 -/
theorem zip_all {ks : List Str} : ∀ {gs : List (List V)}, (∀ g ∈ gs, good ks g) → (((List.replicate gs.length ks).flatten).zip gs.flatten).all (fun p => numB p.1 p.2) = true
  | [], _ => rfl
  | g :: gs, h => by
    have h1 := h g List.mem_cons_self
    have ih := zip_all (gs := gs) fun x hx => h x (List.mem_cons_of_mem _ hx)
    rw [List.length_cons, List.replicate_succ, List.flatten_cons, List.flatten_cons, List.zip_append (good_len h1), List.all_append, ih, Bool.and_true]
    clear ih h
    induction ks generalizing g with
    | nil => rfl
    | cons k ks ihk => cases g with
      | nil => exact False.elim h1
      | cons v g =>
        rw [List.zip_cons_cons, List.all_cons, ihk g h1.2, Bool.and_true]
        exact h1.1
theorem flen_any {ks : List Str} : ∀ {gs : List (List V)}, (∀ g ∈ gs, good ks g) → gs.flatten.length = gs.length * ks.length
  | [], _ => by simp
  | g :: gs, h => by
    have h1 := good_len (h g List.mem_cons_self)
    rw [List.flatten_cons, List.length_append, flen_any fun x hx => h x (List.mem_cons_of_mem _ hx), List.length_cons, Nat.succ_mul, h1]
    omega
theorem kinds_len (s : Str) : (kindsOf s).length = s.length := by
  unfold kindsOf
  rw [List.length_map]
  rfl
theorem isAsk_xs {a : Ask} (h : a.Ok) : isAsk a.xs = true := by
  have ex : a.xs = .str a.w :: (a.names.map V.str ++ a.gs.flatten) := rfl
  have fl := flen_any h.gd
  rw [kinds_len] at fl
  rw [ex]
  have un : isAsk (.str a.w :: (a.names.map V.str ++ a.gs.flatten)) = match shapeOf a.w with
    | some (n, ks) => (decide (n ≤ (a.names.map V.str ++ a.gs.flatten).length) && ((a.names.map V.str ++ a.gs.flatten).take n).all nameV) &&
        ((!decide (a.w = daysW) || (decide (1 ≤ ((a.names.map V.str ++ a.gs.flatten).drop n).length / ks.length) && decide (((a.names.map V.str ++ a.gs.flatten).drop n).length / ks.length ≤ 12))) &&
         (decide (((a.names.map V.str ++ a.gs.flatten).drop n).length = (if a.w = daysW then ((a.names.map V.str ++ a.gs.flatten).drop n).length / ks.length else 1) * ks.length) &&
          (((List.replicate (if a.w = daysW then ((a.names.map V.str ++ a.gs.flatten).drop n).length / ks.length else 1) (kindsOf ks)).flatten).zip ((a.names.map V.str ++ a.gs.flatten).drop n)).all fun p => numB p.1 p.2))
    | none => false := rfl
  rw [un, h.sh]
  dsimp only
  have ln : (a.names.map V.str).length = a.n := by rw [List.length_map, h.ln]
  have t1 : (a.names.map V.str ++ a.gs.flatten).take a.n = a.names.map V.str := by rw [← ln, List.take_left]
  have d1 : (a.names.map V.str ++ a.gs.flatten).drop a.n = a.gs.flatten := by rw [← ln, List.drop_left]
  rw [t1, d1]
  have nm : (a.names.map V.str).all nameV = true := by
    rw [List.all_map, List.all_eq_true]
    exact fun z hz => h.nm z hz
  have laps : (if a.w = daysW then a.gs.flatten.length / a.ks.length else 1) = a.gs.length := by
    by_cases e : a.w = daysW
    · rw [if_pos e, fl, (h.dk e).2, kinds_days.2]
      exact Nat.mul_div_cancel _ (by decide)
    · rw [if_neg e, h.one e]
  rw [laps, zip_all h.gd, nm, decide_eq_true (by rw [List.length_append, ln]; omega), decide_eq_true fl]
  by_cases e : a.w = daysW
  · have l2 : a.gs.flatten.length / a.ks.length = a.gs.length := by
      rw [if_pos e] at laps
      exact laps
    rw [l2, decide_eq_true (h.days e).1, decide_eq_true (h.days e).2]
    simp
  · rw [decide_eq_false e] <;> rfl
end K88
end

section
set_option Elab.async false
set_option linter.all false
set_option maxRecDepth 100000
set_option maxHeartbeats 4000000
namespace K88
open PySem PySem.Spec PyProof.Rows L2
abbrev FnP (K : PySem.W.Frag) (x q : Str) (st : Stmt) (f : Addr) (fd : FuncData) : Prop := FunD K x q (defArgs st) (defBody st) (defScope st) [] [] f fd
def Cal (P : Program) (w : World) (K : PySem.W.Frag) (mg : Str → Option Value) (base : Heap) (CX : CXT) (k : Nat) (f : Addr) (ps : List Str) (sp : Sp) : Prop :=
  ∃ fd : FuncData, FnOk P w K mg base CX k f fd ps sp ∧ PySem.W.keepIn K (.ref f) = true ∧ Binds K fd ps []
theorem ifT {c : Bool} {A B : Prop} (hc : c = true) (h : A) : if c = true then A else B := by
  rw [if_pos hc]
  exact h
theorem ifF {c : Bool} {A B : Prop} (hc : c = false) (h : B) : if c = true then A else B := by
  rw [hc, if_neg Bool.false_ne_true]
  exact h
/-- as before, but at a -/
def SB (a : Addr) (H H' : Hp) : Prop := ∀ b o, b ≠ a → H b = some o → H' b = some o
theorem SB.of_same {a : Addr} {H H' : Hp} (h : Same H H') : SB a H H' := fun b o _ e => h b o e
theorem SB.trans {a : Addr} {H H1 H2 : Hp} (x : SB a H H1) (y : SB a H1 H2) : SB a H H2 := fun b o hb e => y b o hb (x b o hb e)
theorem SB.upd {a : Addr} {H : Hp} {o : HO} : SB a H (upd H a o) := fun b u hb e => by rw [upd_ne hb]; exact e
theorem same_new {H : Hp} {p : Addr} {o : HO} (hp : H p = none) : Same H (upd H p o) := fun b u e => by
  rw [upd_ne (ne_of_none e hp)]
  exact e
def flat (v : V) : Bool := match v with
  | .non => true
  | .bl _ => true
  | .int _ => true
  | .str z => decide (z.length ≤ 1000)
  | _ => false
def tyF : V → String
  | .non => "NoneType"
  | .bl _ => "bool"
  | .int _ => "int"
  | _ => "str"
theorem ty_of {K : PySem.W.Frag} {H : Hp} {v : V} (h : flat v = true) : TyX K H v (.type (tyF v)) := by
  cases v with
  | non => exact .base .non
  | bl b => exact .base (.bl b)
  | int i => exact .base (.int i)
  | str z => exact .base (.str z)
  | _ => cases h
theorem kt_str_int {K : PySem.W.Frag} : PySem.W.kitOne K (.type "str") (.type "int") = some false := kit_ty (by decide +kernel)
theorem kt_str_bool {K : PySem.W.Frag} : PySem.W.kitOne K (.type "str") (.type "bool") = some false := kit_ty (by decide +kernel)
theorem kt_str_str {K : PySem.W.Frag} : PySem.W.kitOne K (.type "str") (.type "str") = some true := kit_ty (by decide +kernel)
theorem kt_str_list {K : PySem.W.Frag} : PySem.W.kitOne K (.type "str") (.type "list") = some false := kit_ty (by decide +kernel)
theorem kt_str_tuple {K : PySem.W.Frag} : PySem.W.kitOne K (.type "str") (.type "tuple") = some false := kit_ty (by decide +kernel)
theorem kt_NoneType_int {K : PySem.W.Frag} : PySem.W.kitOne K (.type "NoneType") (.type "int") = some false := kit_ty (by decide +kernel)
theorem kt_NoneType_bool {K : PySem.W.Frag} : PySem.W.kitOne K (.type "NoneType") (.type "bool") = some false := kit_ty (by decide +kernel)
theorem kt_NoneType_str {K : PySem.W.Frag} : PySem.W.kitOne K (.type "NoneType") (.type "str") = some false := kit_ty (by decide +kernel)
theorem kt_NoneType_list {K : PySem.W.Frag} : PySem.W.kitOne K (.type "NoneType") (.type "list") = some false := kit_ty (by decide +kernel)
theorem kt_NoneType_tuple {K : PySem.W.Frag} : PySem.W.kitOne K (.type "NoneType") (.type "tuple") = some false := kit_ty (by decide +kernel)
theorem kt_bool_int {K : PySem.W.Frag} : PySem.W.kitOne K (.type "bool") (.type "int") = some true := kit_ty (by decide +kernel)
theorem kt_bool_bool {K : PySem.W.Frag} : PySem.W.kitOne K (.type "bool") (.type "bool") = some true := kit_ty (by decide +kernel)
theorem kt_bool_str {K : PySem.W.Frag} : PySem.W.kitOne K (.type "bool") (.type "str") = some false := kit_ty (by decide +kernel)
theorem kt_bool_list {K : PySem.W.Frag} : PySem.W.kitOne K (.type "bool") (.type "list") = some false := kit_ty (by decide +kernel)
theorem kt_bool_tuple {K : PySem.W.Frag} : PySem.W.kitOne K (.type "bool") (.type "tuple") = some false := kit_ty (by decide +kernel)
theorem kt_int_int {K : PySem.W.Frag} : PySem.W.kitOne K (.type "int") (.type "int") = some true := kit_ty (by decide +kernel)
theorem kt_int_bool {K : PySem.W.Frag} : PySem.W.kitOne K (.type "int") (.type "bool") = some false := kit_ty (by decide +kernel)
theorem kt_int_str {K : PySem.W.Frag} : PySem.W.kitOne K (.type "int") (.type "str") = some false := kit_ty (by decide +kernel)
theorem kt_int_list {K : PySem.W.Frag} : PySem.W.kitOne K (.type "int") (.type "list") = some false := kit_ty (by decide +kernel)
theorem kt_int_tuple {K : PySem.W.Frag} : PySem.W.kitOne K (.type "int") (.type "tuple") = some false := kit_ty (by decide +kernel)
theorem kt_list_list {K : PySem.W.Frag} : PySem.W.kitOne K (.type "list") (.type "list") = some true := kit_ty (by decide +kernel)
theorem kt_tuple_list {K : PySem.W.Frag} : PySem.W.kitOne K (.type "tuple") (.type "list") = some false := kit_ty (by decide +kernel)
theorem kt_tuple_tuple {K : PySem.W.Frag} : PySem.W.kitOne K (.type "tuple") (.type "tuple") = some true := kit_ty (by decide +kernel)
def intB : V → Bool
  | .int _ => true
  | .bl _ => true
  | _ => false
def boolB : V → Bool
  | .bl _ => true
  | _ => false
def isIntV : V → Bool
  | .int _ => true
  | _ => false
def isStrV : V → Bool
  | .str _ => true
  | _ => false
def spInt : Sp := fun vs H Q _ => ∃ v, vs = [v] ∧ flat v = true ∧ Q (.bl (isIntV v)) H
def withinB (v : V) (a b : Int) : Bool := match v with
  | .int i => decide (a ≤ i) && decide (i ≤ b)
  | _ => false
def spWithin : Sp := fun vs H Q _ => ∃ v a b, vs = [v, .int a, .int b] ∧ flat v = true ∧ Q (.bl (withinB v a b)) H
def ListedV (H : Hp) (v : V) (r : Bool) : Prop := (flat v = true ∧ r = false) ∨ ∃ a xs, v = .ref a ∧ (H a = some (.lst xs) ∨ H a = some (.tup xs)) ∧ r = true
def spListed : Sp := fun vs H Q _ => ∃ v r, vs = [v] ∧ ListedV H v r ∧ ∀ H', Same H H' → Q (.bl r) H'
section
variable {P : Program} {w : World} {K : PySem.W.Frag} {mg : Str → Option Value} {base : Heap}
theorem kit_int {v : V} (h : flat v = true) : PySem.W.kitOne K (.type (tyF v)) (.type "int") = some (intB v) := by
  cases v with
  | str z => exact kt_str_int
  | non => exact kt_NoneType_int
  | bl b => exact kt_bool_int
  | int i => exact kt_int_int
  | _ => cases h
theorem kit_bool {v : V} (h : flat v = true) : PySem.W.kitOne K (.type (tyF v)) (.type "bool") = some (boolB v) := by
  cases v with
  | str z => exact kt_str_bool
  | non => exact kt_NoneType_bool
  | bl b => exact kt_bool_bool
  | int i => exact kt_int_bool
  | _ => cases h
theorem kit_str {v : V} (h : flat v = true) : PySem.W.kitOne K (.type (tyF v)) (.type "str") = some (isStrV v) := by
  cases v with
  | str z => exact kt_str_str
  | non => exact kt_NoneType_str
  | bl b => exact kt_bool_str
  | int i => exact kt_int_str
  | _ => cases h
theorem sc_int : FnScope ["value"] ["value"] (defScope (top 14)) := ⟨rfl, rfl, rfl, by decide +kernel, rfl, by decide +kernel, by decide +kernel⟩
theorem ok_int (T : Tx w K mg) : Cal P w K mg base CX0 1 (He.ga K "is_integer") ["value"] spInt := by
  obtain ⟨fd, F⟩ := T.fd 0 _ rfl
  have F : FnP K "is_integer" "is_integer" (top 14) (He.ga K "is_integer") fd := F
  refine ⟨fd, F.ok sc_int (fun vs H Q E h => ?_) (fun cdv A outer s H vs Q E hr h => ?_), F.kp, F.bindsN fun _ _ _ _ _ _ us hl => match us, hl with | [_], _ => rfl⟩
  · obtain ⟨v, rfl, _⟩ := h
    rfl
  · refine ⟨_, PSs.nox (pss_one (ps_ret (pe_and (pe_callB call_isi rfl T.f_isinstance boot_isinstance (pa_cons (pv 0) (pa_cons (pe_bltn (v := .ty "int") rfl T.f_int boot_int rfl) pa_nil)))
      (pe_one (pe_not (pe_callB call_isi rfl T.f_isinstance boot_isinstance (pa_cons (pv 0) (pa_cons (pe_bltn (v := .ty "bool") rfl T.f_bool (by decide +kernel) rfl) pa_nil)))))))), ?_⟩
    obtain ⟨v, rfl, hf, q⟩ := h
    refine ⟨v, rfl, ?_⟩
    refine ⟨v, .ty "int", .type (tyF v), .type "int", intB v, rfl, .ty _, ty_of hf, kit_int hf, ?_⟩
    refine ⟨_, rfl, ?_⟩
    cases v with
    | int i =>
      refine ⟨_, rfl, ?_⟩
      refine ⟨.int i, .ty "bool", .type (tyF (.int i)), .type "bool", boolB (.int i), rfl, .ty _, ty_of hf, kit_bool hf, ?_⟩
      exact ⟨_, rfl, q⟩
    | bl b =>
      refine ⟨_, rfl, ?_⟩
      refine ⟨.bl b, .ty "bool", .type (tyF (.bl b)), .type "bool", boolB (.bl b), rfl, .ty _, ty_of hf, kit_bool hf, ?_⟩
      exact ⟨_, rfl, q⟩
    | non => exact q
    | str z => exact q
    | _ => cases hf
theorem sc_within : FnScope ["value", "least", "most"] ["value", "least", "most"] (defScope (top 15)) := ⟨rfl, rfl, rfl, by decide +kernel, rfl, by decide +kernel, by decide +kernel⟩
theorem ok_within (T : Tx w K mg) : Cal P w K mg base CX0 2 (He.ga K "is_within") ["value", "least", "most"] spWithin := by
  obtain ⟨fd, F⟩ := T.fd 1 _ rfl
  have F : FnP K "is_within" "is_within" (top 15) (He.ga K "is_within") fd := F
  obtain ⟨fd1, G1, k1, b1⟩ := ok_int (P := P) (base := base) T
  refine ⟨fd, F.ok sc_within (fun vs H Q E h => ?_) (fun cdv A outer s H vs Q E hr h => ?_), F.kp, F.bindsN fun _ _ _ _ _ _ us hl => match us, hl with | [_, _, _], _ => rfl⟩
  · obtain ⟨v, a, b, rfl, _⟩ := h
    rfl
  · refine ⟨_, PSs.nox (pss_one (ps_ret (pe_and (pe_call G1 hr rfl T.g_is_integer k1 b1 .nil pass0 (pa_cons (pv 0) pa_nil))
      (pe_and (pe_or (pe_cmp (pc_isN (pv 1)) rfl) (pe_one (pe_cmpR op_ge (pv 0) (pv 1) (nomark _))))
        (pe_one (pe_or (pe_cmp (pc_isN (pv 2)) rfl) (pe_one (pe_cmpR op_le (pv 0) (pv 2) (nomark _))))))))), ?_⟩
    obtain ⟨v, a, b, rfl, hf, q⟩ := h
    refine ⟨_, rfl, v, rfl, hf, _, rfl, ?_⟩
    cases v with
    | int i =>
      refine ⟨_, rfl, _, rfl, ?_⟩
      refine ⟨_, rfl, _, rfl, _, _, rfl, rfl, _, rfl, ?_⟩
      show if decide (i ≥ a) = true then _ else _
      by_cases ha : a ≤ i
      · rw [if_pos (decide_eq_true ha)]
        refine ⟨_, rfl, _, rfl, ?_⟩
        refine ⟨_, rfl, _, rfl, _, _, rfl, rfl, ?_⟩
        have e : withinB (.int i) a b = decide (i ≤ b) := by
          show (decide (a ≤ i) && decide (i ≤ b)) = _
          rw [decide_eq_true ha, Bool.true_and]
        rw [e] at q
        exact q
      · rw [if_neg (by simpa using ha)]
        have e : withinB (.int i) a b = false := by
          show (decide (a ≤ i) && decide (i ≤ b)) = _
          rw [decide_eq_false ha, Bool.false_and]
        rw [e] at q
        exact q
    | bl b => exact q
    | non => exact q
    | str z => exact q
    | _ => cases hf
theorem sc_listed : FnScope ["value"] ["value"] (defScope (top 16)) := ⟨rfl, rfl, rfl, by decide +kernel, rfl, by decide +kernel, by decide +kernel⟩
theorem ok_listed (T : Tx w K mg) : Cal P w K mg base CX0 1 (He.ga K "is_listed") ["value"] spListed := by
  obtain ⟨fd, F⟩ := T.fd 2 _ rfl
  have F : FnP K "is_listed" "is_listed" (top 16) (He.ga K "is_listed") fd := F
  refine ⟨fd, F.ok sc_listed (fun vs H Q E h => ?_) (fun cdv A outer s H vs Q E hr h => ?_), F.kp, F.bindsN fun _ _ _ _ _ _ us hl => match us, hl with | [_], _ => rfl⟩
  · obtain ⟨v, r, rfl, _⟩ := h
    rfl
  · refine ⟨_, PSs.nox (pss_one (ps_ret (pe_callB call_isiT rfl T.f_isinstance boot_isinstance (pa_cons (pv 0) (pa_cons (pe_tup (pa_cons (pe_bltn (v := .ty "list") rfl T.f_list (by decide +kernel) rfl) (pa_cons (pe_bltn (v := .ty "tuple") rfl T.f_tuple (by decide +kernel) rfl) pa_nil))) pa_nil))))), ?_⟩
    obtain ⟨v, r, rfl, hl, q⟩ := h
    refine ⟨_, rfl, (by show 2 ≤ sizeLine; decide), fun p hp => ?_⟩
    rcases hl with ⟨hf, rfl⟩ | ⟨a, xs, rfl, ha, rfl⟩
    · refine ⟨v, p, _, .type (tyF v), [.type "list", .type "tuple"], false, rfl, upd_same, .cons (.ty _) (.cons (.ty _) .nil), ty_of hf, ?_, q _ (same_new hp)⟩
      cases v with
      | str z => exact kitAny_cons kt_str_list (fun _ => kitAny_cons kt_str_tuple (fun _ => kitAny_nil) (fun z => by cases z)) (fun z => by cases z)
      | non => exact kitAny_cons kt_NoneType_list (fun _ => kitAny_cons kt_NoneType_tuple (fun _ => kitAny_nil) (fun z => by cases z)) (fun z => by cases z)
      | bl b => exact kitAny_cons kt_bool_list (fun _ => kitAny_cons kt_bool_tuple (fun _ => kitAny_nil) (fun z => by cases z)) (fun z => by cases z)
      | int i => exact kitAny_cons kt_int_list (fun _ => kitAny_cons kt_int_tuple (fun _ => kitAny_nil) (fun z => by cases z)) (fun z => by cases z)
      | _ => cases hf
    · rcases ha with ha | ha
      · refine ⟨.ref a, p, _, .type "list", [.type "list", .type "tuple"], true, rfl, upd_same, .cons (.ty _) (.cons (.ty _) .nil), .base (.lst (same_new hp _ _ ha)), ?_, q _ (same_new hp)⟩
        exact kitAny_cons kt_list_list (fun z => by cases z) (fun _ => rfl)
      · refine ⟨.ref a, p, _, .type "tuple", [.type "list", .type "tuple"], true, rfl, upd_same, .cons (.ty _) (.cons (.ty _) .nil), .base (.tup (same_new hp _ _ ha)), ?_, q _ (same_new hp)⟩
        exact kitAny_cons kt_tuple_list (fun _ => kitAny_cons kt_tuple_tuple (fun z => by cases z) (fun _ => rfl)) (fun z => by cases z)
end
end K88
end

section
set_option Elab.async false
set_option linter.all false
set_option maxRecDepth 100000
set_option maxHeartbeats 4000000
namespace K88
open PySem PySem.Spec PyProof.Rows L2
abbrev FnM (K : PySem.W.Frag) (x q : Str) (i j : Nat) (f : Addr) (fd : FuncData) : Prop := FunD K x q (defArgs (inClass (top i) j)) (defBody (inClass (top i) j)) (defScope (inClass (top i) j)) [] [] f fd
abbrev cS (K : PySem.W.Frag) : Addr := He.ga K "Scan"
abbrev mS (K : PySem.W.Frag) (m : Str) : Addr := He.ma K (cS K) m
/-- the fields of a scan -/
abbrev scF (wl : Addr) (l : Int) (i : Nat) : List (Str × V) := [("words", .ref wl), ("line", .int l), ("at", .int (i : Int))]
/-- at a: a scan of the words ws, at the i-th -/
def Sc (K : PySem.W.Frag) (H : Hp) (a dx wl : Addr) (ws : List Str) (l : Int) (i : Nat) : Prop := H a = some (.ins (cS K) dx (scF wl l i)) ∧ H wl = some (.lst (ws.map V.str))
theorem Sc.ne {K : PySem.W.Frag} {H : Hp} {a dx wl : Addr} {ws : List Str} {l : Int} {i : Nat} (h : Sc K H a dx wl ws l i) : wl ≠ a := ne_of h.2 h.1 (by intro z; cases z)
theorem Sc.same {K : PySem.W.Frag} {H H' : Hp} {a dx wl : Addr} {ws : List Str} {l : Int} {i : Nat} (h : Sc K H a dx wl ws l i) (s : Same H H') : Sc K H' a dx wl ws l i := ⟨s _ _ h.1, s _ _ h.2⟩
/-- an error of the class x, its fields told -/
def Err (K : PySem.W.Frag) (x : Str) (fs : List (Str × V)) (a : Addr) (H : Hp) (E : XK) : Prop := ∀ d H', SB a H H' → H' d = some (.xd fs) → E (.ref (He.ga K x)) (some d) H'
abbrev BadText (K : PySem.W.Frag) (l : Int) (i : Nat) (a : Addr) (H : Hp) (E : XK) : Prop := Err K "BadText" [("line", .int l), ("word", .int (i : Int))] a H E
def spInit (K : PySem.W.Frag) : Sp := fun vs H Q _ => ∃ (x dx : Addr) (t : Str) (l : Int), vs = [.ref x, .str t, .int l] ∧ H x = some (.ins (cS K) dx []) ∧ t.length + 2 ≤ sizeLine ∧
  ∀ wl H', SB x H H' → H wl = none → H' wl = some (.lst ((Txt.split t spc).map V.str)) → H' x = some (.ins (cS K) dx [("words", .ref wl), ("line", .int l), ("at", .int 0)]) → Q .non H'
def spRefuse (K : PySem.W.Frag) : Sp := fun vs H _ E => ∃ a dx wl ws l i, vs = [.ref a] ∧ Sc K H a dx wl ws l i ∧ BadText K l i a H E
def spOver (K : PySem.W.Frag) : Sp := fun vs H Q _ => ∃ a dx wl ws l i, vs = [.ref a] ∧ Sc K H a dx wl ws l i ∧ Q (.bl (decide (i = ws.length))) H
def spComing (K : PySem.W.Frag) : Sp := fun vs H Q E => ∃ a dx wl ws l i, vs = [.ref a] ∧ Sc K H a dx wl ws l i ∧ i ≤ ws.length ∧ (∀ w, ws[i]? = some w → Q (.str w) H) ∧ (ws[i]? = none → BadText K l i a H E)
section
variable {P : Program} {w : World} {K : PySem.W.Frag} {mg : Str → Option Value} {base : Heap}
theorem sc_init : FnScope ["self", "text", "line"] ["self", "text", "line"] (defScope (inClass (top 21) 0)) := ⟨rfl, rfl, rfl, by decide +kernel, rfl, by decide +kernel, by decide +kernel⟩
theorem ok_init (T : Tx w K mg) : Cal P w K mg base CX0 1 (mS K "__init__") ["self", "text", "line"] (spInit K) := by
  obtain ⟨fd, F⟩ := T.fd 3 _ rfl
  have F : FnM K "__init__" "Scan.__init__" 21 0 (mS K "__init__") fd := F
  refine ⟨fd, F.ok sc_init (fun vs H Q E h => ?_) (fun cdv A outer s H vs Q E hr h => ?_), F.kp, F.bindsN fun _ _ _ _ _ _ us hl => match us, hl with | [_, _, _], _ => rfl⟩
  · obtain ⟨x, dx, t, l, rfl, _⟩ := h
    rfl
  · refine ⟨_, PSs.nox (pss_cons (ps_fld (pv 0) (pe_split (pv 1) pe_str) rfl) (pss_cons (ps_fld (pv 0) (pv 2) rfl) (pss_one (ps_fld (pv 0) pe_int rfl)))), ?_⟩
    obtain ⟨x, dx, t, l, rfl, hx, hz, q⟩ := h
    refine ⟨_, rfl, ⟨t, rfl⟩, t, " ", rfl, rfl, by decide +kernel, hz, fun p hp => ?_⟩
    have nx : x ≠ p := ne_of_none hx hp
    refine ⟨_, rfl, x, _, dx, [], rfl, ?_, T.c_Scan, T.n_words, by decide, ?_⟩
    · rw [upd_ne nx]; exact hx
    refine ⟨_, rfl, _, rfl, x, _, dx, [("words", .ref p)], rfl, upd_same, T.c_Scan, T.n_line, (by show (1 : Nat) < 1000; decide), ?_⟩
    refine ⟨_, rfl, x, _, dx, [("words", .ref p), ("line", .int l)], rfl, upd_same, T.c_Scan, T.n_at, (by show (2 : Nat) < 1000; decide), ?_⟩
    refine q p _ (fun b o hb e => ?_) hp ?_ upd_same
    · rw [upd_ne hb, upd_ne hb, upd_ne hb, upd_ne (ne_of_none e hp)]
      exact e
    · rw [upd_ne nx.symm, upd_ne nx.symm, upd_ne nx.symm, upd_same]
      rfl
theorem inits_BadText (T : Tx w K mg) (M : L2.Mod K mg base) (us : List Value) (h : us.length = ([("line" : Str), "word"]).length) :
    PySem.ErrX.Inits Pr w K base (He.ga K "BadText") (He.fAd K ("BadText", some "__init__")) us (fun y => ([("line" : Str), "word"].zip us).lookup y) := by
  match us, h with
  | [v1, v2], _ =>
    obtain ⟨hB, hg, ⟨mb, hb1, hb2⟩, hl⟩ := M
    intro A R s x t0 kb hx hnx hxC hroom hq
    refine PySem.ErrX.err_init (mg := mg) (mb := mb) (binds := [("self", .ref x), ("line", v1), ("word", v2)]) (mA := fun y => ([("line" : Str), "word"].zip [v1, v2]).lookup y) T.e_BadText (hB.keeps kb) (hg.keeps kb) (hb1.keeps kb) hb2 (hl.keeps kb) hx hnx hxC hroom rfl rfl ?_ ?_ ?_ ?_ rfl rfl rfl rfl rfl rfl (fun L => rfl) ?_ hq
    · exact fun s doc pm an ct => .of_eq rfl
    · rfl
    · intro y hy
      simp only [List.mem_cons, List.not_mem_nil, or_false] at hy
      rcases hy with rfl | rfl | rfl <;> rfl
    · decide +kernel
    · intro L
      have e : (fun y : Str => ([("line" : Str), "word"].zip [v1, v2]).lookup y) = fun (y : Str) => if y = "word" then some v2 else if y = "line" then some v1 else none := by
        funext y
        show List.lookup y [(("line" : Str), v1), (("word" : Str), v2)] = _
        by_cases h1 : y = "line"
        · subst h1
          rw [if_neg (by decide)]
          simp [List.lookup]
        · have q1 : (y == ("line" : Str)) = false := by simpa using h1
          by_cases h2 : y = "word"
          · subst h2
            rw [if_pos rfl]
            simp [List.lookup, q1]
          · have q2 : (y == ("word" : Str)) = false := by simpa using h2
            rw [if_neg h2, if_neg h1]
            simp [List.lookup, q1, q2]
      rw [e]
      exact PySem.ErrX.stores2 (f := "line") (g := "word") (v := v1) (u := v2) T.e_BadText (List.mem_cons_self) (List.mem_cons_of_mem _ List.mem_cons_self) rfl rfl rfl rfl rfl rfl (by decide) (by decide) rfl rfl
theorem inits_BadPaper (T : Tx w K mg) (M : L2.Mod K mg base) (us : List Value) (h : us.length = ([("part" : Str)]).length) :
    PySem.ErrX.Inits Pr w K base (He.ga K "BadPaper") (He.fAd K ("BadPaper", some "__init__")) us (fun y => ([("part" : Str)].zip us).lookup y) := by
  match us, h with
  | [v1], _ =>
    obtain ⟨hB, hg, ⟨mb, hb1, hb2⟩, hl⟩ := M
    intro A R s x t0 kb hx hnx hxC hroom hq
    refine PySem.ErrX.err_init (mg := mg) (mb := mb) (binds := [("self", .ref x), ("part", v1)]) (mA := fun y => ([("part" : Str)].zip [v1]).lookup y) T.e_BadPaper (hB.keeps kb) (hg.keeps kb) (hb1.keeps kb) hb2 (hl.keeps kb) hx hnx hxC hroom rfl rfl ?_ ?_ ?_ ?_ rfl rfl rfl rfl rfl rfl (fun L => rfl) ?_ hq
    · exact fun s doc pm an ct => .of_eq rfl
    · rfl
    · intro y hy
      simp only [List.mem_cons, List.not_mem_nil, or_false] at hy
      rcases hy with rfl | rfl <;> rfl
    · decide +kernel
    · intro L
      have e : (fun y : Str => ([("part" : Str)].zip [v1]).lookup y) = fun (y : Str) => if y = "part" then some v1 else none := by
        funext y
        show List.lookup y [(("part" : Str), v1)] = _
        by_cases h1 : y = "part"
        · subst h1
          rw [if_pos rfl]
          simp [List.lookup]
        · have q1 : (y == ("part" : Str)) = false := by simpa using h1
          rw [if_neg h1]
          simp [List.lookup, q1]
      rw [e]
      exact PySem.ErrX.stores1 (f := "part") (v := v1) T.e_BadPaper (List.mem_cons_self) rfl rfl rfl rfl (by decide) rfl
/-! ### the scan's methods that may refuse. P is the row's own program (its errors' text tells its file) -/
theorem sc_refuse : FnScope ["self"] ["self"] (defScope (inClass (top 21) 1)) := ⟨rfl, rfl, rfl, by decide +kernel, rfl, by decide +kernel, by decide +kernel⟩
theorem ok_refuse (T : Tx w K mg) : Cal Pr w K mg base (L2.CX Pr w) 3 (mS K "refuse") ["self"] (spRefuse K) := by
  obtain ⟨fd, F⟩ := T.fd 4 _ rfl
  have F : FnM K "refuse" "Scan.refuse" 21 1 (mS K "refuse") fd := F
  refine ⟨fd, F.ok sc_refuse (fun vs H Q E h => ?_) (fun cdv A outer s H vs Q E hr h => ?_), F.kp, F.bindsN fun _ _ _ _ _ _ us hl => match us, hl with | [_], _ => rfl⟩
  · obtain ⟨a, dx, wl, ws, l, i, rfl, _⟩ := h
    rfl
  · refine ⟨_, pss_one (ps_raise rfl (takes_of rfl rfl rfl rfl) (pmk_err T.e_BadText (fun M => inits_BadText T M) (by decide) hr T.g_BadText (pa_cons (pe_fld (pv 0) rfl) (pa_cons (pe_fld (pv 0) rfl) pa_nil)))), ?_⟩
    obtain ⟨a, dx, wl, ws, l, i, rfl, hs, q⟩ := h
    refine ⟨_, rfl, a, _, dx, _, _, rfl, hs.1, T.c_Scan, T.n_line, rfl, ?_⟩
    refine ⟨_, rfl, a, _, dx, _, _, rfl, hs.1, T.c_Scan, T.n_at, rfl, ?_⟩
    exact ⟨rfl, fun d hd => q d _ (SB.of_same (same_new hd)) upd_same⟩
theorem sc_over : FnScope ["self"] ["self"] (defScope (inClass (top 21) 2)) := ⟨rfl, rfl, rfl, by decide +kernel, rfl, by decide +kernel, by decide +kernel⟩
theorem ok_over (T : Tx w K mg) : Cal P w K mg base CX0 1 (mS K "is_over") ["self"] (spOver K) := by
  obtain ⟨fd, F⟩ := T.fd 5 _ rfl
  have F : FnM K "is_over" "Scan.is_over" 21 2 (mS K "is_over") fd := F
  refine ⟨fd, F.ok sc_over (fun vs H Q E h => ?_) (fun cdv A outer s H vs Q E hr h => ?_), F.kp, F.bindsN fun _ _ _ _ _ _ us hl => match us, hl with | [_], _ => rfl⟩
  · obtain ⟨a, dx, wl, ws, l, i, rfl, _⟩ := h
    rfl
  · refine ⟨_, PSs.nox (pss_one (ps_ret (pe_cmpR op_eq (pe_fld (pv 0) rfl) (pe_callB call_len_seq rfl T.f_len boot_len (pa_cons (pe_fld (pv 0) rfl) pa_nil)) (nomark _)))), ?_⟩
    obtain ⟨a, dx, wl, ws, l, i, rfl, hs, q⟩ := h
    refine ⟨_, rfl, a, _, dx, _, _, rfl, hs.1, T.c_Scan, T.n_at, rfl, ?_⟩
    refine ⟨_, rfl, a, _, dx, _, _, rfl, hs.1, T.c_Scan, T.n_words, rfl, ?_⟩
    refine ⟨wl, _, rfl, .inl (SqL.of hs.2), rfl, ?_⟩
    have e : decide (V.int (i : Int) = V.int ((ws.map V.str).length : Int)) = decide (i = ws.length) := by
      rw [List.length_map]
      by_cases hi : i = ws.length
      · rw [decide_eq_true hi, hi]
        simp
      · rw [decide_eq_false hi]
        exact decide_eq_false fun z => hi (by injection z with z; omega)
    rw [e]
    exact q
theorem sc_coming : FnScope ["self"] ["self"] (defScope (inClass (top 21) 3)) := ⟨rfl, rfl, rfl, by decide +kernel, rfl, by decide +kernel, by decide +kernel⟩
theorem ok_coming (T : Tx w K mg) : Cal Pr w K mg base (L2.CX Pr w) 4 (mS K "coming") ["self"] (spComing K) := by
  obtain ⟨fd, F⟩ := T.fd 6 _ rfl
  have F : FnM K "coming" "Scan.coming" 21 3 (mS K "coming") fd := F
  obtain ⟨fd1, G1, k1, b1⟩ := ok_over (P := Pr) (base := base) T
  obtain ⟨fd2, G2, k2, b2⟩ := ok_refuse (base := base) T
  refine ⟨fd, F.ok sc_coming (fun vs H Q E h => ?_) (fun cdv A outer s H vs Q E hr h => ?_), F.kp, F.bindsN fun _ _ _ _ _ _ us hl => match us, hl with | [_], _ => rfl⟩
  · obtain ⟨a, dx, wl, ws, l, i, rfl, _⟩ := h
    rfl
  · have tk := takes_of (X := cxOf (L2.CX Pr w) Pr w K mg base ["self"] "Scan.coming" (defScope (inClass (top 21) 3)) (mS K "coming") cdv A outer s H E) rfl rfl rfl rfl
    refine ⟨_, pss_cons (ps_if (pt_val (pe_meth0 (pv 0) T.c_Scan T.m_is_over G1 (hr.mono (by decide)) b1 .nil pass0)) (pss_one (ps_expr (pe_meth0 (pv 0) T.c_Scan T.m_refuse G2 hr b2 .nil (passes_call tk fun _ _ _ _ h => h)))) pss_nil)
      (pss_one (ps_ret (pe_ix ix_list (pe_fld (pv 0) rfl) (pe_fld (pv 0) rfl) (fun _ _ => rfl)))), ?_⟩
    obtain ⟨a, dx, wl, ws, l, i, rfl, hs, hi, q1, q2⟩ := h
    refine ⟨_, rfl, a, dx, _, rfl, hs.1, rfl, ?_⟩
    refine ⟨a, dx, wl, ws, l, i, rfl, hs, _, rfl, ?_⟩
    by_cases h : i = ws.length
    · refine ifT (decide_eq_true h) ?_
      refine ⟨_, rfl, a, dx, _, rfl, hs.1, rfl, ?_⟩
      exact ⟨a, dx, wl, ws, l, i, rfl, hs, q2 (List.getElem?_eq_none (by omega))⟩
    · refine ifF (decide_eq_false h) ?_
      have hlt : i < ws.length := by omega
      refine ⟨_, rfl, a, _, dx, _, _, rfl, hs.1, T.c_Scan, T.n_words, rfl, ?_⟩
      refine ⟨_, rfl, a, _, dx, _, _, rfl, hs.1, T.c_Scan, T.n_at, rfl, ?_⟩
      exact ⟨wl, _, _, _, rfl, rfl, SqL.of hs.2, atI_nat (by rw [List.getElem?_map, List.getElem?_eq_getElem hlt]; rfl), q1 _ (List.getElem?_eq_getElem hlt)⟩
end
end K88
end

section
set_option Elab.async false
set_option linter.all false
set_option maxRecDepth 100000
set_option maxHeartbeats 4000000
namespace K88
open PySem PySem.Spec PyProof.Rows L2
theorem inV_str (w : Str) : ∀ ks : List Str, inV (.str w) (ks.map V.str) = decide (w ∈ ks)
  | [] => rfl
  | k :: ks => by
    have ih := inV_str w ks
    unfold inV at ih ⊢
    rw [List.map_cons, List.any_cons, ih]
    by_cases h : w = k
    · subst h
      have e : eqV (.str w) (.str w) = true := by show (w == w) = true; exact beq_self_eq_true w
      simp [eqV]
    · have e : decide (w ∈ k :: ks) = decide (w ∈ ks) := by simp [h]
      rw [e]
      simp [eqV, h]
      try (intro z; exact absurd z.symm h)
theorem flat_strs : ∀ ks : List Str, (ks.map V.str).all flatV = true
  | [] => rfl
  | _ :: ks => flat_strs ks
theorem Sc.next {K : PySem.W.Frag} {H : Hp} {a dx wl : Addr} {ws : List Str} {l : Int} {i : Nat} (h : Sc K H a dx wl ws l i) : Sc K (upd H a (.ins (cS K) dx (putF "at" (.int ((i : Int) + 1)) (scF wl l i)))) a dx wl ws l (i + 1) := by
  refine ⟨?_, ?_⟩
  · rw [upd_same]
    rfl
  · rw [upd_ne h.ne]
    exact h.2
def spTakeIn (K : PySem.W.Frag) : Sp := fun vs H Q E => ∃ a p dx wl ws l i ks, vs = [.ref a, .ref p] ∧ Sc K H a dx wl ws l i ∧ i ≤ ws.length ∧ H p = some (.tup ((ks : List Str).map V.str)) ∧
  (∀ w H', ws[i]? = some w → w ∈ ks → SB a H H' → Sc K H' a dx wl ws l (i + 1) → Q (.str w) H') ∧ ((∀ w, ws[i]? = some w → w ∉ ks) → BadText K l i a H E)
def spTake (K : PySem.W.Frag) : Sp := fun vs H Q E => ∃ a dx wl ws l i ks, vs = .ref a :: (ks : List Str).map V.str ∧ Sc K H a dx wl ws l i ∧ i ≤ ws.length ∧ ks.length ≤ 100 ∧
  (∀ w H', ws[i]? = some w → w ∈ ks → SB a H H' → Sc K H' a dx wl ws l (i + 1) → Q (.str w) H') ∧ ((∀ w, ws[i]? = some w → w ∉ ks) → BadText K l i a H E)
def spAny (K : PySem.W.Frag) : Sp := fun vs H Q E => ∃ a dx wl ws l i, vs = [.ref a] ∧ Sc K H a dx wl ws l i ∧ i ≤ ws.length ∧
  (∀ w H', ws[i]? = some w → SB a H H' → Sc K H' a dx wl ws l (i + 1) → Q (.str w) H') ∧ (ws[i]? = none → BadText K l i a H E)
def spFinish (K : PySem.W.Frag) : Sp := fun vs H Q E => ∃ a dx wl ws l i, vs = [.ref a] ∧ Sc K H a dx wl ws l i ∧ (i = ws.length → Q .non H) ∧ (i ≠ ws.length → BadText K l i a H E)
section
variable {P : Program} {w : World} {K : PySem.W.Frag} {mg : Str → Option Value} {base : Heap}
theorem sc_take : FnScope ["self", "words", "word"] ([("self" : Str)] ++ [("words" : Str)]) (defScope (inClass (top 21) 4)) := ⟨rfl, rfl, rfl, by decide +kernel, rfl, by decide +kernel, by decide +kernel⟩
theorem ok_take (T : Tx w K mg) : FnR Pr w K mg base (L2.CX Pr w) 5 (mS K "take") (spTake K) ∧ PySem.W.keepIn K (.ref (mS K "take")) = true := by
  obtain ⟨fd, F⟩ := T.fd 7 _ rfl
  have F : FnM K "take" "Scan.take" 21 4 (mS K "take") fd := F
  obtain ⟨fd1, G1, k1, b1⟩ := ok_coming (base := base) T
  obtain ⟨fd2, G2, k2, b2⟩ := ok_refuse (base := base) T
  refine ⟨?_, F.kp⟩
  obtain ⟨oc, od, dV, kV, doc, pm, an, cdv, ct, osl, rfl, lk, hcd, hD, hK⟩ := F.ex
  have ed : dV = .none := by
    rcases hD with ⟨_, e⟩ | ⟨e, _⟩
    · exact e
    · exact absurd rfl e
  subst ed
  have z := StX.fn_star (P := Pr) (w := w) (mg := mg) (base := base) (CX := L2.CX Pr w) (N := ["self", "words", "word"]) (ps := ["self"]) (pv := "words") (k := 4) (sp := spTakeIn K) lk hcd sc_take StX.cxUp
    (StX.bind_star1 (p1 := "self") (pv := "words") (B := fun l => bindArgs (PySem.W.fnOf "take" "Scan.take" (defArgs (inClass (top 21) 4)) (defBody (inClass (top 21) 4)) (defScope (inClass (top 21) 4)) .none kV doc pm an cdv ct) ⟨l, []⟩) (fun a => rfl) (fun a r rs => rfl)) (fun A outer s H vs Q E hr h => by
      have tk := takes_of (X := cxOf (L2.CX Pr w) Pr w K mg base ["self", "words", "word"] "Scan.take" (defScope (inClass (top 21) 4)) (mS K "take") cdv A outer s H E) rfl rfl rfl rfl
      refine ⟨_, pss_cons (ps_set (i := 2) sc_take.nd rfl (Or.inl rfl) (pe_meth0 (pv 0) T.c_Scan T.m_coming G1 hr b1 .nil (passes_call tk fun _ _ _ _ h => h)))
        (pss_cons (ps_if (pt_cmpR op_notIn_seq (pv 2) (pv 1) rfl) (pss_one (ps_expr (pe_meth0 (pv 0) T.c_Scan T.m_refuse G2 (hr.mono (by decide)) b2 .nil (passes_call tk fun _ _ _ _ h => h)))) pss_nil)
        (pss_cons (ps_fld (pv 0) (pe_op op_add (pe_fld (pv 0) rfl) pe_int) rfl)
        (pss_one (ps_ret (pv 2))))), ?_⟩
      obtain ⟨a, p, dx, wl, ws, l, i, ks, rfl, hs, hi, hp, q1, q2⟩ := h
      refine ⟨_, rfl, a, dx, _, rfl, hs.1, rfl, ?_⟩
      refine ⟨a, dx, wl, ws, l, i, rfl, hs, hi, fun w' hw => ?_, fun hn => q2 fun w' hw => by rw [hn] at hw; cases hw⟩
      refine ⟨_, rfl, _, rfl, p, _, rfl, .inr (SqT.of hp), rfl, flat_strs ks, ?_⟩
      refine ⟨_, rfl, ?_⟩
      rw [inV_str]
      by_cases hm : w' ∈ ks
      · refine ifF (by rw [decide_eq_true hm]; rfl) ?_
        refine ⟨_, rfl, a, _, dx, _, _, rfl, hs.1, T.c_Scan, T.n_at, rfl, _, _, rfl, rfl, ?_⟩
        refine ⟨_, rfl, a, _, dx, _, rfl, hs.1, T.c_Scan, T.n_at, (by show (3 : Nat) < 1000; decide), ?_⟩
        exact ⟨_, rfl, q1 w' _ hw hm SB.upd hs.next⟩
      · refine ifT (by rw [decide_eq_false hm]; rfl) ?_
        refine ⟨_, rfl, a, dx, _, rfl, hs.1, rfl, ?_⟩
        exact ⟨a, dx, wl, ws, l, i, rfl, hs, q2 fun w2 hw2 => by rw [hw] at hw2; cases hw2; exact hm⟩)
  refine z.imp fun vs H Q E h => ?_
  obtain ⟨a, dx, wl, ws, l, i, ks, rfl, hs, hi, hk, q1, q2⟩ := h
  refine ⟨[.ref a], ks.map V.str, rfl, rfl, by rw [List.length_map]; exact Nat.le_trans hk (by decide), fun p hp => ?_⟩
  have sm := same_new (o := .tup (ks.map V.str)) hp
  exact ⟨a, p, dx, wl, ws, l, i, ks, rfl, hs.same sm, hi, upd_same, fun w' H' hw hm sb sc => q1 w' H' hw hm ((SB.of_same sm).trans sb) sc, fun hn d H' sb hd => q2 hn d H' ((SB.of_same sm).trans sb) hd⟩
theorem sc_any : FnScope ["self", "word"] ["self"] (defScope (inClass (top 21) 5)) := ⟨rfl, rfl, rfl, by decide +kernel, rfl, by decide +kernel, by decide +kernel⟩
theorem ok_any (T : Tx w K mg) : Cal Pr w K mg base (L2.CX Pr w) 5 (mS K "take_any") ["self"] (spAny K) := by
  obtain ⟨fd, F⟩ := T.fd 8 _ rfl
  have F : FnM K "take_any" "Scan.take_any" 21 5 (mS K "take_any") fd := F
  obtain ⟨fd1, G1, k1, b1⟩ := ok_coming (base := base) T
  refine ⟨fd, F.ok sc_any (fun vs H Q E h => ?_) (fun cdv A outer s H vs Q E hr h => ?_), F.kp, F.bindsN fun _ _ _ _ _ _ us hl => match us, hl with | [_], _ => rfl⟩
  · obtain ⟨a, dx, wl, ws, l, i, rfl, _⟩ := h
    rfl
  · have tk := takes_of (X := cxOf (L2.CX Pr w) Pr w K mg base ["self", "word"] "Scan.take_any" (defScope (inClass (top 21) 5)) (mS K "take_any") cdv A outer s H E) rfl rfl rfl rfl
    refine ⟨_, pss_cons (ps_set (i := 1) sc_any.nd rfl (Or.inl rfl) (pe_meth0 (pv 0) T.c_Scan T.m_coming G1 hr b1 .nil (passes_call tk fun _ _ _ _ h => h)))
        (pss_cons (ps_fld (pv 0) (pe_op op_add (pe_fld (pv 0) rfl) pe_int) rfl)
        (pss_one (ps_ret (pv 1)))), ?_⟩
    obtain ⟨a, dx, wl, ws, l, i, rfl, hs, hi, q1, q2⟩ := h
    refine ⟨_, rfl, a, dx, _, rfl, hs.1, rfl, ?_⟩
    refine ⟨a, dx, wl, ws, l, i, rfl, hs, hi, fun w' hw => ?_, q2⟩
    refine ⟨_, rfl, a, _, dx, _, _, rfl, hs.1, T.c_Scan, T.n_at, rfl, _, _, rfl, rfl, ?_⟩
    refine ⟨_, rfl, a, _, dx, _, rfl, hs.1, T.c_Scan, T.n_at, (by show (3 : Nat) < 1000; decide), ?_⟩
    exact ⟨_, rfl, q1 w' _ hw SB.upd hs.next⟩
theorem sc_finish : FnScope ["self"] ["self"] (defScope (inClass (top 21) 7)) := ⟨rfl, rfl, rfl, by decide +kernel, rfl, by decide +kernel, by decide +kernel⟩
theorem ok_finish (T : Tx w K mg) : Cal Pr w K mg base (L2.CX Pr w) 4 (mS K "finish") ["self"] (spFinish K) := by
  obtain ⟨fd, F⟩ := T.fd 10 _ rfl
  have F : FnM K "finish" "Scan.finish" 21 7 (mS K "finish") fd := F
  obtain ⟨fd1, G1, k1, b1⟩ := ok_over (P := Pr) (base := base) T
  obtain ⟨fd2, G2, k2, b2⟩ := ok_refuse (base := base) T
  refine ⟨fd, F.ok sc_finish (fun vs H Q E h => ?_) (fun cdv A outer s H vs Q E hr h => ?_), F.kp, F.bindsN fun _ _ _ _ _ _ us hl => match us, hl with | [_], _ => rfl⟩
  · obtain ⟨a, dx, wl, ws, l, i, rfl, _⟩ := h
    rfl
  · have tk := takes_of (X := cxOf (L2.CX Pr w) Pr w K mg base ["self"] "Scan.finish" (defScope (inClass (top 21) 7)) (mS K "finish") cdv A outer s H E) rfl rfl rfl rfl
    refine ⟨_, pss_one (ps_if (pt_not (pt_val (pe_meth0 (pv 0) T.c_Scan T.m_is_over G1 (hr.mono (by decide)) b1 .nil pass0))) (pss_one (ps_expr (pe_meth0 (pv 0) T.c_Scan T.m_refuse G2 hr b2 .nil (passes_call tk fun _ _ _ _ h => h)))) pss_nil), ?_⟩
    obtain ⟨a, dx, wl, ws, l, i, rfl, hs, q1, q2⟩ := h
    refine ⟨_, rfl, a, dx, _, rfl, hs.1, rfl, ?_⟩
    refine ⟨a, dx, wl, ws, l, i, rfl, hs, _, rfl, ?_⟩
    by_cases h : i = ws.length
    · refine ifF (by rw [decide_eq_true h]; rfl) ?_
      exact q1 h
    · refine ifT (by rw [decide_eq_false h]; rfl) ?_
      refine ⟨_, rfl, a, dx, _, rfl, hs.1, rfl, ?_⟩
      exact ⟨a, dx, wl, ws, l, i, rfl, hs, q2 h⟩
end
end K88
end

section
set_option Elab.async false
set_option linter.all false
set_option maxRecDepth 100000
set_option maxHeartbeats 4000000
namespace K88
open PySem PySem.Spec PyProof.Rows L2
def optI : Option Int → V
  | some n => .int n
  | none => .non
def spIntIn : Sp := fun vs H Q _ => ∃ w : Str, vs = [.str w] ∧ w.length ≤ 1000000 ∧ ∀ H', Same H H' → Q (optI (intIn w)) H'
def spTakeInt (K : PySem.W.Frag) : Sp := fun vs H Q E => ∃ a dx wl ws l i lo hi, vs = [.ref a, .int lo, .int hi] ∧ Sc K H a dx wl ws l i ∧ i ≤ ws.length ∧ (∀ w ∈ ws, w.length ≤ 1000000) ∧
  (∀ w n H', ws[i]? = some w → intIn w = some n → lo ≤ n ∧ n ≤ hi → SB a H H' → Sc K H' a dx wl ws l (i + 1) → Q (.int n) H') ∧ ((∀ w n, ws[i]? = some w → intIn w = some n → ¬ (lo ≤ n ∧ n ≤ hi)) → BadText K l i a H E)
theorem take_map {α β : Type} {l : List α} {f : α → β} {i : Nat} {a : α} (h : l[i]? = some a) : (l.map f).take (i + 1) = (l.map f).take i ++ [f a] := by
  obtain ⟨hi, e⟩ := List.getElem?_eq_some_iff.mp h
  have h2 : i < (l.map f).length := by rw [List.length_map]; exact hi
  rw [List.take_succ_eq_append_getElem h2, List.getElem_map, e]
theorem get_toList {x : Str} {i c : Nat} (h : x.cps[i]? = some c) : x.cps.toList[i]? = some c := by
  rw [Array.getElem?_toList]
  exact h
section
variable {P : Program} {w : World} {K : PySem.W.Frag} {mg : Str → Option Value} {base : Heap}
theorem peImp {X : Cx} {e : Expr} {t t' : TE} (h : PE X e t) (hi : ∀ σ H Q, t' σ H Q → t σ H Q) : PE X e t' := ⟨fun pins s σ H Q I hw => h.run pins s σ H Q I (hi σ H Q hw)⟩
theorem ptImp {X : Cx} {e : Expr} {t t' : TT} (h : PT X e t) (hi : ∀ σ H Q, t' σ H Q → t σ H Q) : PT X e t' := ⟨fun pins s σ H Q I hw => h.run pins s σ H Q I (hi σ H Q hw)⟩
theorem sc_intin : FnScope ["word", "figures", "found", "sign"] ["word"] (defScope (top 22)) := ⟨rfl, rfl, rfl, by decide +kernel, rfl, by decide +kernel, by decide +kernel⟩
def tFigs : TE := fun σ H Q => ∃ z, σ[0]? = some (some (.str z)) ∧ z.length ≤ 1000000 ∧ Q (.str (figs z)) H
def tBad : TT := fun σ H Q => ∃ z f, σ = [some (.str z), some (.str f), none, none] ∧ f.length ≤ 1000000 ∧ ∀ H', Same H H' → Q (!digB f) H'
theorem line_le {n : Nat} (h : n ≤ 1000000) : n ≤ sizeLine := Nat.le_trans h (by decide)
theorem eqS {a b : Str} : decide (V.str a = V.str b) = decide (a = b) := by
  by_cases h : a = b
  · rw [h, decide_eq_true rfl, decide_eq_true rfl]
  · rw [decide_eq_false h, decide_eq_false fun z => h (by injection z)]
theorem ok_intin (T : Tx w K mg) : Cal P w K mg base CX0 1 (He.ga K "integer_in") ["word"] spIntIn := by
  obtain ⟨fd, F⟩ := T.fd 11 _ rfl
  have F : FnP K "integer_in" "integer_in" (top 22) (He.ga K "integer_in") fd := F
  obtain ⟨tM, eM⟩ := T.i_MOST_FIGURES
  obtain ⟨tF, eF⟩ := T.s_FIGURES
  refine ⟨fd, F.ok sc_intin (fun vs H Q E h => ?_) (fun cdv A outer s H vs Q E hr h => ?_), F.kp, F.bindsN fun _ _ _ _ _ _ us hl => match us, hl with | [_], _ => rfl⟩
  · obtain ⟨v, rfl, _⟩ := h
    rfl
  · refine ⟨_, PSs.nox (pss_cons (ps_set (i := 1) sc_intin.nd rfl (Or.inl rfl) (peImp (t' := tFigs) (pe_ifExp (pt_cmpR op_eq (pe_slice sl_str (pv 0) po_none (po_some pe_int)) pe_str (nomark _)) (pe_slice sl_str (pv 0) (po_some pe_int) po_none) (pv 0)) ?fg))
      (pss_cons (ps_if (ptImp (t' := tBad) (PW.pt (pw_or (pt_cmpR op_eq (pv 1) pe_str (nomark _)) (pw_or (pt_cmpR op_gt (pe_callB call_len rfl T.f_len boot_len (pa_cons (pv 1) pa_nil)) (pe_glob (v := .int 60) rfl eM ⟨_, rfl⟩) (nomark _))
        (pw_or1 (pt_not (pt_val (pe_callB (cr_all rfl) rfl T.f_all boot_all (pa_cons (pe_lc (own := [("sign", 3)]) (g := gName 3) rfl sc_intin.nd (pi_str (pv 1)) (blkOk_by (own := [("sign", 3)]) (N := ["word", "figures", "found", "sign"]) (sc := defScope (top 22)) (by decide +kernel))
          (fun _ _ _ _ _ => pg_name (i := 3) sc_intin.nd rfl (Or.inl rfl)) (fun _ _ _ _ _ => pts_nil) (fun _ _ _ _ _ => pe_cmpR op_in_sign (pv 3) (pe_glob (v := .str "0123456789") rfl eF ⟨_, rfl⟩) rfl)) pa_nil)))))))) ?bd) (pss_one (ps_ret pe_non)) pss_nil)
      (pss_cons (ps_set (i := 2) sc_intin.nd rfl (Or.inl rfl) (pe_callTy call_int_str rfl T.f_int boot_int (pa_cons (pv 0) pa_nil)))
      (pss_one (ps_ret (pe_ifExp (pt_cmpR op_eq (pe_callTy call_str_int rfl T.f_str (by decide +kernel) (pa_cons (pv 2) pa_nil)) (pv 0) (nomark _)) (pv 2) pe_non)))))), ?_⟩
    case fg =>
      rintro σ H Q ⟨z, hz, hl, q⟩
      refine ⟨_, hz, 1, rfl, z, rfl, line_le hl, rfl, _, rfl, ?_⟩
      unfold figs at q
      by_cases h : cutS z none (some 1) = dash
      · rw [if_pos h] at q
        exact ifT (eqS.trans (decide_eq_true h)) ⟨_, hz, 1, rfl, z, rfl, line_le hl, q⟩
      · rw [if_neg h] at q
        exact ifF (eqS.trans (decide_eq_false h)) ⟨_, hz, q⟩
    case bd =>
      rintro σ H Q ⟨z, f, rfl, hl, q⟩
      have dg : (!digB f) = (decide (f = "") || (decide (60 < (f.length : Int)) || !((f.cps.toList.map fun c => decide (c ∈ figures.cps.toList)).all id))) := by
        unfold digB
        rw [Bool.not_not, Bool.or_assoc]
      refine ⟨_, rfl, rfl, _, rfl, ?_⟩
      by_cases h1 : f = ""
      · refine ifT (eqS.trans (decide_eq_true h1)) ?_
        rw [dg, decide_eq_true h1, Bool.true_or] at q
        exact q H (Same.refl H)
      · refine ifF (eqS.trans (decide_eq_false h1)) ?_
        rw [dg, decide_eq_false h1, Bool.false_or] at q
        refine ⟨_, rfl, _, _, rfl, ⟨line_le hl, rfl⟩, ?_⟩
        refine ⟨_, _, rfl, rfl, _, rfl, ?_⟩
        by_cases h2 : 60 < (f.length : Int)
        · refine ifT (decide_eq_true h2) ?_
          rw [decide_eq_true h2, Bool.true_or] at q
          exact q H (Same.refl H)
        · refine ifF (decide_eq_false h2) ?_
          rw [decide_eq_false h2, Bool.false_or] at q
          refine ⟨_, rfl, f, rfl, fun D hD => lc_str (Pv := fun i H' => Same H H' ∧ H' D = some (.lst (((f.cps.toList.map fun c => decide (c ∈ figures.cps.toList)).take i).map V.bl))) ⟨same_new hD, upd_same⟩ (fun i c H' hc ⟨sm, hd⟩ => ?_) (fun H' ⟨sm, hd⟩ => ?_)⟩
          · refine ⟨rfl, ⟨_, rfl, c, "0123456789", rfl, rfl, _, hd, ?_, ?_, ?_⟩⟩
            · rw [List.length_map, List.length_take, List.length_map]
              have : f.cps.toList.length = f.length := (TL.len_tl f).symm
              have := line_le hl
              have : (sizeLine : Nat) = sizeLine := rfl
              refine Nat.lt_of_le_of_lt (Nat.min_le_right _ _) ?_
              rw [(TL.len_tl f).symm]
              exact Nat.lt_of_le_of_lt hl (by decide)
            · intro b o e
              by_cases hb : b = D
              · subst hb
                have := ne_of_none e hD
                exact absurd rfl this
              · rw [upd_ne hb]
                exact sm b o e
            · rw [upd_same, take_map (get_toList hc), List.map_append]
              rfl
          · refine ⟨D, f.cps.toList.map fun c => decide (c ∈ figures.cps.toList), rfl, SqL.of (by rw [hd, show f.cps.size = (f.cps.toList.map fun c => decide (c ∈ figures.cps.toList)).length from by rw [List.length_map, Array.length_toList], List.take_length]), _, rfl, q H' sm⟩
    obtain ⟨z, rfl, hz, q⟩ := h
    have hf : (figs z).length ≤ 1000000 := by
      rw [TL.len_tl, figs_tl]
      split
      · rw [List.length_drop]
        have := TL.len_tl z
        omega
      · rw [← TL.len_tl]
        exact hz
    refine ⟨z, rfl, hz, ?_⟩
    refine ⟨z, figs z, rfl, hf, fun H' sm => ?_⟩
    cases hd : digB (figs z) with
    | false =>
      refine ifT rfl ?_
      have e : intIn z = none := by
        unfold intIn
        rw [hd] <;> rfl
      have q' := q H' sm
      rw [e] at q'
      exact q'
    | true =>
      refine ifF rfl ?_
      obtain ⟨n, hn, hl, hb⟩ := intText_some hd
      refine ⟨_, rfl, z, n, rfl, hn, hl, ?_⟩
      refine ⟨_, rfl, n, rfl, hb, ?_⟩
      refine ⟨_, rfl, rfl, _, rfl, ?_⟩
      have e : intIn z = if toS n = z then some n else none := by
        unfold intIn
        rw [if_pos hd, hn]
        rfl
      have q' := q H' sm
      rw [e] at q'
      by_cases h : toS n = z
      · rw [if_pos h] at q'
        exact ifT (eqS.trans (decide_eq_true h)) ⟨_, rfl, q'⟩
      · rw [if_neg h] at q'
        exact ifF (eqS.trans (decide_eq_false h)) q'
end
end K88
end

section
set_option Elab.async false
set_option linter.all false
set_option maxRecDepth 100000
set_option maxHeartbeats 4000000
namespace K88
open PySem PySem.Spec PyProof.Rows L2
/-- an error whatever else is new -/
def ErrS (K : PySem.W.Frag) (x : Str) (fs : List (Str × V)) (H : Hp) (E : XK) : Prop := ∀ d H', Same H H' → H' d = some (.xd fs) → E (.ref (He.ga K x)) (some d) H'
abbrev BadTextS (K : PySem.W.Frag) (l i : Int) (H : Hp) (E : XK) : Prop := ErrS K "BadText" [("line", .int l), ("word", .int i)] H E
/-- no text, though its type is known -/
def NoStr (H : Hp) (v : V) : Prop := v = .non ∨ (∃ i, v = .int i) ∨ ∃ a xs, v = .ref a ∧ H a = some (.tup xs)
def spScanOf (K : PySem.W.Frag) : Sp := fun vs H Q E => ∃ v, vs = [v] ∧ ((∃ z t r, v = .str z ∧ z.length ≤ 1000000 ∧ Txt.split z nl = t :: r ∧ t.length ≤ 1000000 ∧ ∀ a dx wl H', Same H H' → Sc K H' a dx wl (Txt.split t spc) 0 0 → H a = none → Q (.ref a) H') ∨
  (NoStr H v ∧ BadTextS K 0 0 H E))
def spOneLine (K : PySem.W.Frag) : Sp := fun vs H Q E => ∃ z : Str, vs = [.str z] ∧ (10 ∉ z.cps.toList → Q .non H) ∧ (10 ∈ z.cps.toList → BadTextS K 1 0 H E)
def spName : Sp := fun vs H Q _ => ∃ v, vs = [v] ∧ flat v = true ∧ ∀ H', Same H H' → Q (.bl (nameV v)) H'
def spNumber : Sp := fun vs H Q _ => ∃ k v, vs = [.str k, v] ∧ flat v = true ∧ Q (.bl (numB k v)) H
section
variable {P : Program} {w : World} {K : PySem.W.Frag} {mg : Str → Option Value} {base : Heap}
def inR (lo hi : Int) : Option Int → Bool
  | some n => decide (lo ≤ n) && decide (n ≤ hi)
  | none => false
def tRej : TT := fun σ H Q => ∃ a lo hi o, σ = [a, some (.int lo), some (.int hi), some (optI o)] ∧ Q (!inR lo hi o) H
theorem sc_tint : FnScope ["self", "least", "most", "found"] ["self", "least", "most"] (defScope (inClass (top 21) 6)) := ⟨rfl, rfl, rfl, by decide +kernel, rfl, by decide +kernel, by decide +kernel⟩
theorem ok_tint (T : Tx w K mg) : Cal Pr w K mg base (L2.CX Pr w) 5 (mS K "take_integer") ["self", "least", "most"] (spTakeInt K) := by
  obtain ⟨fd, F⟩ := T.fd 9 _ rfl
  have F : FnM K "take_integer" "Scan.take_integer" 21 6 (mS K "take_integer") fd := F
  obtain ⟨fd1, G1, k1, b1⟩ := ok_coming (base := base) T
  obtain ⟨fd2, G2, k2, b2⟩ := ok_refuse (base := base) T
  obtain ⟨fd3, G3, k3, b3⟩ := ok_intin (P := Pr) (base := base) T
  refine ⟨fd, F.ok sc_tint (fun vs H Q E h => ?_) (fun cdv A outer s H vs Q E hr h => ?_), F.kp, F.bindsN fun _ _ _ _ _ _ us hl => match us, hl with | [_, _, _], _ => rfl⟩
  · obtain ⟨a, dx, wl, ws, l, i, lo, hi, rfl, _⟩ := h
    rfl
  · have tk := takes_of (X := cxOf (L2.CX Pr w) Pr w K mg base ["self", "least", "most", "found"] "Scan.take_integer" (defScope (inClass (top 21) 6)) (mS K "take_integer") cdv A outer s H E) rfl rfl rfl rfl
    refine ⟨_, pss_cons (ps_set (i := 3) sc_tint.nd rfl (Or.inl rfl) (pe_call G3 (hr.mono (by decide)) rfl T.g_integer_in k3 b3 .nil pass0 (pa_cons (pe_meth0 (pv 0) T.c_Scan T.m_coming G1 hr b1 .nil (passes_call tk fun _ _ _ _ h => h)) pa_nil)))
        (pss_cons (ps_if (ptImp (t' := tRej) (PW.pt (pw_or (pt_cmpR op_isN (pv 3) pe_non (nomark _)) (pw_or (PW.pt (pw_and (pt_cmpR op_notN (pv 1) pe_non (nomark _)) (pw_and1 (pt_cmpR op_lt (pv 3) (pv 1) (nomark _)))))
            (pw_or1 (PW.pt (pw_and (pt_cmpR op_notN (pv 2) pe_non (nomark _)) (pw_and1 (pt_cmpR op_gt (pv 3) (pv 2) (nomark _))))))))) ?rj)
          (pss_one (ps_expr (pe_meth0 (pv 0) T.c_Scan T.m_refuse G2 (hr.mono (by decide)) b2 .nil (passes_call tk fun _ _ _ _ h => h)))) pss_nil)
        (pss_cons (ps_fld (pv 0) (pe_op op_add (pe_fld (pv 0) rfl) pe_int) rfl)
        (pss_one (ps_ret (pv 3))))), ?_⟩
    case rj =>
      rintro σ H Q ⟨a, lo, hi, o, rfl, q⟩
      cases o with
      | none => exact ⟨_, rfl, rfl, _, rfl, ifT rfl q⟩
      | some n =>
        refine ⟨_, rfl, rfl, _, rfl, ifF rfl ?_⟩
        refine ⟨_, rfl, rfl, _, rfl, ifT rfl ?_⟩
        refine ⟨_, rfl, _, rfl, _, _, rfl, rfl, _, rfl, ?_⟩
        have e : (!inR lo hi (some n)) = (!(decide (lo ≤ n) && decide (n ≤ hi))) := rfl
        rw [e] at q
        by_cases h1 : n < lo
        · rw [decide_eq_true h1]
          refine ifT rfl ?_
          rw [decide_eq_false (by omega)] at q
          exact q
        · rw [decide_eq_false h1]
          refine ifF rfl ?_
          rw [decide_eq_true (by omega), Bool.true_and] at q
          refine ⟨_, rfl, rfl, _, rfl, ifT rfl ?_⟩
          refine ⟨_, rfl, _, rfl, _, _, rfl, rfl, _, rfl, ?_⟩
          by_cases h2 : hi < n
          · rw [decide_eq_true h2]
            rw [decide_eq_false (by omega)] at q
            exact q
          · rw [decide_eq_false h2]
            rw [decide_eq_true (by omega)] at q
            exact q
    obtain ⟨a, dx, wl, ws, l, i, lo, hi, rfl, hs, hi', hw, q1, q2⟩ := h
    refine ⟨_, rfl, a, dx, _, rfl, hs.1, rfl, ?_⟩
    refine ⟨a, dx, wl, ws, l, i, rfl, hs, hi', fun w' hw' => ?_, fun hn => q2 fun w' n hw' => by rw [hn] at hw'; cases hw'⟩
    refine ⟨w', rfl, hw w' (List.mem_of_getElem? hw'), fun H1 sm => ?_⟩
    have hs1 := hs.same sm
    refine ⟨_, lo, hi, intIn w', rfl, ?_⟩
    by_cases hin : inR lo hi (intIn w') = true
    · refine ifF (by rw [hin]; rfl) ?_
      obtain ⟨n, hn, hb⟩ : ∃ n, intIn w' = some n ∧ lo ≤ n ∧ n ≤ hi := by
        cases hn : intIn w' with
        | none => rw [hn] at hin; cases hin
        | some n =>
          rw [hn] at hin
          obtain ⟨x, y⟩ := Bool.and_eq_true_iff.mp (show (decide (lo ≤ n) && decide (n ≤ hi)) = true from hin)
          exact ⟨n, rfl, of_decide_eq_true x, of_decide_eq_true y⟩
      refine ⟨_, rfl, a, _, dx, _, _, rfl, hs1.1, T.c_Scan, T.n_at, rfl, _, _, rfl, rfl, ?_⟩
      refine ⟨_, rfl, a, _, dx, _, rfl, hs1.1, T.c_Scan, T.n_at, (by show (3 : Nat) < 1000; decide), ?_⟩
      refine ⟨_, rfl, ?_⟩
      rw [hn]
      exact q1 w' n _ hw' hn hb ((SB.of_same sm).trans SB.upd) hs1.next
    · have hf : inR lo hi (intIn w') = false := by simpa using hin
      refine ifT (by rw [hf]; rfl) ?_
      refine ⟨_, rfl, a, dx, _, rfl, hs1.1, rfl, ?_⟩
      refine ⟨a, dx, wl, ws, l, i, rfl, hs1, fun d H2 sb hd => q2 (fun w2 n h2 hn hb => ?_) d H2 ((SB.of_same sm).trans sb) hd⟩
      rw [hw'] at h2
      cases h2
      rw [hn] at hf
      have : inR lo hi (some n) = true := by
        show (decide (lo ≤ n) && decide (n ≤ hi)) = true
        rw [decide_eq_true hb.1, decide_eq_true hb.2] <;> rfl
      rw [this] at hf
      cases hf
theorem sc_scanof : FnScope ["text"] ["text"] (defScope (top 23)) := ⟨rfl, rfl, rfl, by decide +kernel, rfl, by decide +kernel, by decide +kernel⟩
theorem tyNoStr {K : PySem.W.Frag} {H : Hp} {v : V} (h : NoStr H v) : ∃ t, TyX K H v (.type t) ∧ PySem.W.kitOne K (.type t) (.type "str") = some false := by
  rcases h with rfl | ⟨i, rfl⟩ | ⟨a, xs, rfl, ha⟩
  · exact ⟨_, .base .non, kt_NoneType_str⟩
  · exact ⟨_, .base (.int i), kt_int_str⟩
  · exact ⟨_, .base (.tup ha), kit_ty (by decide +kernel)⟩
theorem ok_scanof (T : Tx w K mg) : Cal Pr w K mg base (L2.CX Pr w) 4 (He.ga K "scan_of") ["text"] (spScanOf K) := by
  obtain ⟨fd, F⟩ := T.fd 12 _ rfl
  have F : FnP K "scan_of" "scan_of" (top 23) (He.ga K "scan_of") fd := F
  obtain ⟨fd1, G1, k1, b1⟩ := ok_init (P := Pr) (base := base) T
  refine ⟨fd, F.ok sc_scanof (fun vs H Q E h => ?_) (fun cdv A outer s H vs Q E hr h => ?_), F.kp, F.bindsN fun _ _ _ _ _ _ us hl => match us, hl with | [_], _ => rfl⟩
  · obtain ⟨v, rfl, _⟩ := h
    rfl
  · refine ⟨_, pss_cons (ps_if (pt_not (pt_val (pe_callB call_isi rfl T.f_isinstance boot_isinstance (pa_cons (pv 0) (pa_cons (pe_bltn (v := .ty "str") rfl T.f_str (by decide +kernel) rfl) pa_nil)))))
        (pss_one (ps_raise rfl (takes_of rfl rfl rfl rfl) (pmk_err T.e_BadText (fun M => inits_BadText T M) (by decide) hr T.g_BadText (pa_cons pe_int (pa_cons pe_int pa_nil))))) pss_nil)
      (pss_one (ps_ret (pe_make T.mk_Scan G1 (hr.mono (by decide)) rfl T.g_Scan b1 .nil pass0 (pa_cons (pe_ix ix_list (pe_split (pv 0) pe_str) pe_int (fun _ _ => rfl)) (pa_cons pe_int pa_nil))))), ?_⟩
    obtain ⟨v, rfl, h⟩ := h
    rcases h with ⟨z, t, r, rfl, hz, ht, htl, q⟩ | ⟨hn, q⟩
    · refine ⟨_, rfl, .str z, .ty "str", .type "str", .type "str", true, rfl, .ty _, .base (.str z), kt_str_str, _, rfl, ifF rfl ?_⟩
      have l2 : z.length + 2 ≤ sizeLine := Nat.le_trans (Nat.add_le_add_right hz 2) (by decide)
      refine ⟨_, rfl, ⟨z, rfl⟩, z, "\n", rfl, rfl, by decide +kernel, l2, fun p hp => ?_⟩
      refine ⟨p, _, _, .str t, rfl, rfl, SqL.of upd_same, ?_, ?_⟩
      · show atI ((Txt.split z nl).map V.str) 0 = _
        rw [ht]
        exact atI_nat (j := 0) rfl
      · intro x dx nx ndx nex
        have sm1 := same_new (o := .lst ((Txt.split z nl).map V.str)) hp
        have sm2 : Same (upd H p (.lst ((Txt.split z nl).map V.str))) (upd (upd (upd H p (.lst ((Txt.split z nl).map V.str))) dx (.own x)) x (.ins (He.ga K "Scan") dx [])) := (same_new ndx).trans (same_new (by rw [upd_ne nex.symm]; exact nx))
        refine ⟨x, dx, t, 0, rfl, upd_same, Nat.le_trans (Nat.add_le_add_right htl 2) (by decide), fun wl H' sb hwl hw hx => ⟨rfl, ?_⟩⟩
        have nH : H x = none := Same.free sm1 nx
        refine q x dx wl H' (fun b o e => sb b o (ne_of_none e nH) (sm2 _ _ (sm1 _ _ e))) ⟨hx, hw⟩ nH
    · obtain ⟨ty, h1, h2⟩ := tyNoStr (K := K) hn
      refine ⟨_, rfl, v, .ty "str", .type ty, .type "str", false, rfl, .ty _, h1, h2, _, rfl, ifT rfl ?_⟩
      exact ⟨rfl, fun d hd => q d _ (same_new hd) upd_same⟩
theorem sc_one : FnScope ["text"] ["text"] (defScope (top 24)) := ⟨rfl, rfl, rfl, by decide +kernel, rfl, by decide +kernel, by decide +kernel⟩
theorem ok_one (T : Tx w K mg) : Cal Pr w K mg base (L2.CX Pr w) 3 (He.ga K "need_one_line") ["text"] (spOneLine K) := by
  obtain ⟨fd, F⟩ := T.fd 13 _ rfl
  have F : FnP K "need_one_line" "need_one_line" (top 24) (He.ga K "need_one_line") fd := F
  refine ⟨fd, F.ok sc_one (fun vs H Q E h => ?_) (fun cdv A outer s H vs Q E hr h => ?_), F.kp, F.bindsN fun _ _ _ _ _ _ us hl => match us, hl with | [_], _ => rfl⟩
  · obtain ⟨v, rfl, _⟩ := h
    rfl
  · refine ⟨_, pss_one (ps_if (pt_cmpR op_in_sign pe_str (pv 0) rfl) (pss_one (ps_raise rfl (takes_of rfl rfl rfl rfl) (pmk_err T.e_BadText (fun M => inits_BadText T M) (by decide) hr T.g_BadText (pa_cons pe_int (pa_cons pe_int pa_nil))))) pss_nil), ?_⟩
    obtain ⟨z, rfl, q1, q2⟩ := h
    refine ⟨_, rfl, 10, z, congrArg V.str (by decide +kernel), rfl, _, rfl, ?_⟩
    by_cases h : 10 ∈ z.cps.toList
    · refine ifT (decide_eq_true h) ?_
      exact ⟨rfl, fun d hd => q2 h d _ (same_new hd) upd_same⟩
    · exact ifF (decide_eq_false h) (q1 h)
theorem sc_name : FnScope ["value", "sign"] ["value"] (defScope (top 32)) := ⟨rfl, rfl, rfl, by decide +kernel, rfl, by decide +kernel, by decide +kernel⟩
theorem ok_name (T : Tx w K mg) : Cal P w K mg base CX0 1 (He.ga K "is_name") ["value"] spName := by
  obtain ⟨fd, F⟩ := T.fd 14 _ rfl
  have F : FnP K "is_name" "is_name" (top 32) (He.ga K "is_name") fd := F
  obtain ⟨tM, eM⟩ := T.i_MOST_NAME
  obtain ⟨tF, eF⟩ := T.s_LETTERS
  refine ⟨fd, F.ok sc_name (fun vs H Q E h => ?_) (fun cdv A outer s H vs Q E hr h => ?_), F.kp, F.bindsN fun _ _ _ _ _ _ us hl => match us, hl with | [_], _ => rfl⟩
  · obtain ⟨v, rfl, _⟩ := h
    rfl
  · refine ⟨_, PSs.nox (pss_one (ps_ret (pe_and (pe_callB call_isi rfl T.f_isinstance boot_isinstance (pa_cons (pv 0) (pa_cons (pe_bltn (v := .ty "str") rfl T.f_str (by decide +kernel) rfl) pa_nil)))
      (pe_and (pe_chain op_le op_le pe_int (pe_callB call_len rfl T.f_len boot_len (pa_cons (pv 0) pa_nil)) (pe_glob (v := .int 8) rfl eM ⟨_, rfl⟩))
      (pe_one (pe_callB (cr_all rfl) rfl T.f_all boot_all (pa_cons (pe_lc (own := [("sign", 1)]) (g := gName 1) rfl sc_name.nd (pi_str (pv 0)) (blkOk_by (own := [("sign", 1)]) (N := ["value", "sign"]) (sc := defScope (top 32)) (by decide +kernel))
          (fun _ _ _ _ _ => pg_name (i := 1) sc_name.nd rfl (Or.inl rfl)) (fun _ _ _ _ _ => pts_nil) (fun _ _ _ _ _ => pe_cmpR op_in_sign (pv 1) (pe_glob (v := .str "abcdefghijklmnopqrstuvwxyz") rfl eF ⟨_, rfl⟩) rfl)) pa_nil))))))), ?_⟩
    obtain ⟨v, rfl, hf, q⟩ := h
    refine ⟨v, rfl, v, .ty "str", .type (tyF v), .type "str", isStrV v, rfl, .ty _, ty_of hf, kit_str hf, ?_⟩
    refine ⟨_, rfl, ?_⟩
    cases v with
    | str z =>
      refine ifT rfl ?_
      have hz : z.length ≤ 1000 := of_decide_eq_true hf
      have dz : nameV (.str z) = ((decide (1 ≤ (z.length : Int)) && decide ((z.length : Int) ≤ 8)) && (z.cps.toList.map fun c => decide (c ∈ letters.cps.toList)).all id) := rfl
      refine ⟨_, rfl, _, _, rfl, ⟨Nat.le_trans hz (by decide), rfl⟩, ?_⟩
      refine ⟨_, _, rfl, rfl, _, rfl, ?_⟩
      rw [dz] at q
      by_cases h1 : 1 ≤ (z.length : Int)
      · refine ifT (decide_eq_true h1) ?_
        rw [decide_eq_true h1, Bool.true_and] at q
        refine ⟨_, _, rfl, rfl, _, rfl, ?_⟩
        by_cases h2 : (z.length : Int) ≤ 8
        · refine ifT (decide_eq_true h2) ?_
          rw [decide_eq_true h2, Bool.true_and] at q
          refine ⟨_, rfl, z, rfl, fun D hD => lc_str (Pv := fun i H' => Same H H' ∧ H' D = some (.lst (((z.cps.toList.map fun c => decide (c ∈ letters.cps.toList)).take i).map V.bl))) ⟨same_new hD, upd_same⟩ (fun i c H' hc ⟨sm, hd⟩ => ?_) (fun H' ⟨sm, hd⟩ => ?_)⟩
          · refine ⟨rfl, ⟨_, rfl, c, "abcdefghijklmnopqrstuvwxyz", rfl, rfl, _, hd, ?_, ?_, ?_⟩⟩
            · rw [List.length_map, List.length_take, List.length_map]
              refine Nat.lt_of_le_of_lt (Nat.min_le_right _ _) ?_
              rw [(TL.len_tl z).symm]
              exact Nat.lt_of_le_of_lt hz (by decide)
            · intro b o e
              have hb : b ≠ D := ne_of_none e hD
              rw [upd_ne hb]
              exact sm b o e
            · rw [upd_same, take_map (get_toList hc), List.map_append]
              rfl
          · exact ⟨D, z.cps.toList.map fun c => decide (c ∈ letters.cps.toList), rfl, SqL.of (by rw [hd, show z.cps.size = (z.cps.toList.map fun c => decide (c ∈ letters.cps.toList)).length from by rw [List.length_map, Array.length_toList], List.take_length]), q H' sm⟩
        · refine ifF (decide_eq_false h2) ?_
          rw [decide_eq_false h2, Bool.false_and] at q
          exact q H (Same.refl H)
      · refine ifF (decide_eq_false h1) ?_
        rw [decide_eq_false h1, Bool.false_and, Bool.false_and] at q
        exact ⟨_, rfl, ifF rfl (q H (Same.refl H))⟩
    | non => exact q H (Same.refl H)
    | bl b => exact q H (Same.refl H)
    | int i => exact q H (Same.refl H)
    | _ => cases hf
theorem sc_number : FnScope ["kind", "value"] ["kind", "value"] (defScope (top 33)) := ⟨rfl, rfl, rfl, by decide +kernel, rfl, by decide +kernel, by decide +kernel⟩
theorem ok_number (T : Tx w K mg) : Cal P w K mg base CX0 3 (He.ga K "is_number") ["kind", "value"] spNumber := by
  obtain ⟨fd, F⟩ := T.fd 15 _ rfl
  have F : FnP K "is_number" "is_number" (top 33) (He.ga K "is_number") fd := F
  obtain ⟨tM, eM⟩ := T.i_MOST_NUMBER
  obtain ⟨fd1, G1, k1, b1⟩ := ok_within (P := P) (base := base) T
  refine ⟨fd, F.ok sc_number (fun vs H Q E h => ?_) (fun cdv A outer s H vs Q E hr h => ?_), F.kp, F.bindsN fun _ _ _ _ _ _ us hl => match us, hl with | [_, _], _ => rfl⟩
  · obtain ⟨k, v, rfl, _⟩ := h
    rfl
  · refine ⟨_, PSs.nox (pss_cons (ps_if (PW.pt (pw_and (pt_cmpR op_eq (pv 0) pe_str (nomark _)) (pw_and1 (pt_cmpR op_isN (pv 1) pe_non (nomark _))))) (pss_one (ps_ret pe_bl)) pss_nil)
      (pss_one (ps_ret (pe_call G1 hr rfl T.g_is_within k1 b1 .nil pass0 (pa_cons (pv 1) (pa_cons (pe_ifExp (pt_cmpR op_eq (pv 0) pe_str (nomark _)) (pe_un un_neg (pe_glob (v := .int (10 ^ 60 - 1)) rfl eM ⟨_, rfl⟩)) pe_int) (pa_cons (pe_glob (v := .int (10 ^ 60 - 1)) rfl eM ⟨_, rfl⟩) pa_nil))))))), ?_⟩
    obtain ⟨k, v, rfl, hf, q⟩ := h
    have fin : ∀ (hn : ¬ (k = "h" ∧ v = .non)), numB k v = withinB v (lo k) maxN := fun hn => by
      cases v with
      | non => exact decide_eq_false fun z => hn ⟨z, rfl⟩
      | int i => rfl
      | bl b => rfl
      | str z => rfl
      | _ => cases hf
    have wk : ¬ (k = "h" ∧ v = .non) → ∃ x, some (some v) = some (some x) ∧ (if decide (V.str k = V.str "k") = true then ∃ i, V.int (10 ^ 60 - 1) = .int i ∧ spWithin [x, .int (-i), .int (10 ^ 60 - 1)] H Q E else spWithin [x, .int 0, .int (10 ^ 60 - 1)] H Q E) := fun hn => by
      refine ⟨v, rfl, ?_⟩
      rw [fin hn] at q
      by_cases hk : k = "k"
      · refine ifT (eqS.trans (decide_eq_true hk)) ⟨_, rfl, v, _, _, rfl, hf, ?_⟩
        have e : lo k = -maxN := if_pos hk
        rw [e] at q
        exact q
      · refine ifF (eqS.trans (decide_eq_false hk)) ⟨v, _, _, rfl, hf, ?_⟩
        have e : lo k = 0 := if_neg hk
        rw [e] at q
        exact q
    refine ⟨_, rfl, rfl, _, rfl, ?_⟩
    by_cases h1 : k = "h"
    · refine ifT (eqS.trans (decide_eq_true h1)) ?_
      refine ⟨_, rfl, rfl, _, rfl, ?_⟩
      by_cases h2 : v = .non
      · refine ifT (decide_eq_true h2) ?_
        subst h2
        rw [show numB k .non = true from decide_eq_true h1] at q
        exact q
      · refine ifF (decide_eq_false h2) ?_
        obtain ⟨x, e, z⟩ := wk fun z => h2 z.2
        exact ⟨x, e, _, rfl, rfl, _, rfl, z⟩
    · refine ifF (eqS.trans (decide_eq_false h1)) ?_
      refine ifF rfl ?_
      obtain ⟨x, e, z⟩ := wk fun z => h1 z.1
      exact ⟨x, e, _, rfl, rfl, _, rfl, z⟩
end
end K88
end

section
set_option Elab.async false
set_option linter.all false
set_option maxRecDepth 100000
set_option maxHeartbeats 4000000
namespace K88
open PySem PySem.Spec PyProof.Rows L2
/-- a list or a tuple -/
def SqA (K : PySem.W.Frag) (H : Hp) (a : Addr) (xs : List V) : Prop := SqL K H a xs ∨ SqT K H a xs
theorem SqA.same {K : PySem.W.Frag} {H H' : Hp} {a : Addr} {xs : List V} (h : SqA K H a xs) (s : Same H H') : SqA K H' a xs := h.imp (fun x => s.seq x) (fun x => by
  rcases x with x | x
  · rcases x with e | ⟨o, e⟩
    · exact .inl (.inl (s _ _ e))
    · exact .inl (.inr ⟨o, s _ _ e⟩)
  · exact .inr x)
def tHead (K : PySem.W.Frag) : TE := fun σ H Q => ∃ a x xs, σ[0]? = some (some (.ref a)) ∧ SqA K H a (x :: xs) ∧ Q x H
theorem pe_head {X : Cx} {p p2 p3 : Pos} {kk : Tok} (h0 : X.N[0]? = some ("value" : Str)) (hv : Vis X.env.scope "value") : PE X (.Subscript (.Name "value" p) (.Constant (.int 0) kk p2) p3) (tHead X.K) :=
  peImp (pe_ix ix_seq (pe_var h0 hv) pe_int (fun _ _ => rfl)) fun σ H Q ⟨a, x, xs, h, hs, q⟩ => by
    refine ⟨_, h, ?_⟩
    rcases hs with hs | hs
    · exact .inl ⟨a, _, 0, x, rfl, rfl, hs, atI_nat (j := 0) rfl, q⟩
    · exact .inr (.inl ⟨a, _, 0, x, rfl, rfl, hs, atI_nat (j := 0) rfl, q⟩)
theorem cut_tail (xs : List V) (n : Nat) : cutV xs (some ((1 + n : Nat) : Int)) none = xs.drop (1 + n) := by
  unfold cutV
  rw [HT.sIx_nat, HT.sIx_none]
  by_cases h : 1 + n ≤ xs.length
  · rw [Nat.min_eq_left h, List.take_of_length_le (by rw [List.length_drop]; exact Nat.le_refl _)]
  · rw [Nat.min_eq_right (by omega), List.drop_length, List.drop_of_length_le (by omega), List.take_nil]
theorem cut_mid (xs : List V) (n : Nat) : cutV xs (some ((1 : Nat) : Int)) (some ((1 + n : Nat) : Int)) = (xs.drop 1).take n := by
  unfold cutV
  rw [HT.sIx_nat, HT.sIx_nat]
  by_cases h : 1 ≤ xs.length
  · rw [Nat.min_eq_left h]
    by_cases h2 : 1 + n ≤ xs.length
    · rw [Nat.min_eq_left h2, Nat.add_sub_cancel_left]
    · rw [Nat.min_eq_right (by omega), List.take_of_length_le (by rw [List.length_drop]; exact Nat.le_refl _), List.take_of_length_le (by rw [List.length_drop]; omega)]
  · have e : xs = [] := List.length_eq_zero_iff.mp (by omega)
    subst e
    simp
def flats (xs : List V) : Prop := ∀ v ∈ xs, flat v = true
def spIsAsk (K : PySem.W.Frag) : Sp := fun vs H Q _ => ∃ v r, vs = [v] ∧ ((flat v = true ∧ r = false) ∨ ∃ a xs, v = .ref a ∧ (H a = some (.lst xs) ∨ H a = some (.tup xs)) ∧ flats xs ∧ xs.length ≤ 1000 ∧
  (∀ z r, xs = .str z :: r → (shapeOf z).isSome = true ∨ z = "ring") ∧ r = isAsk xs) ∧ ∀ H', Same H H' → Q (.bl r) H'
abbrev nAsk : List Str := ["value", "names", "kinds", "numbers", "laps", "one", "kind"]
theorem sc_ask : FnScope nAsk ["value"] (defScope (top 34)) := ⟨rfl, rfl, rfl, by decide +kernel, rfl, by decide +kernel, by decide +kernel⟩
/-- what the first test tells: no list or tuple, an empty one, a head that is no word -/
def headOk (xs : List V) : Bool := match xs with
  | .str z :: _ => (shapeOf z).isSome
  | _ => false
def tFirst (K : PySem.W.Frag) : TT := fun σ H Q => ∃ v r, σ = [some v, none, none, none, none, none, none] ∧ ((flat v = true ∧ r = false) ∨ ∃ a xs, v = .ref a ∧ (H a = some (.lst xs) ∨ H a = some (.tup xs)) ∧ flats xs ∧ xs.length ≤ 1000 ∧
  (∀ z r, xs = .str z :: r → (shapeOf z).isSome = true ∨ z = "ring") ∧ r = headOk xs) ∧ ∀ H', Same H H' → Q (!r) H'
/-- all([is_name(one) for one in value[1:1 + names]]) -/
def tNames (K : PySem.W.Frag) : TE := fun σ H Q => ∃ a xs n s2 s3 s4 s5 s6, σ = [some (.ref a), some (.int ((n : Nat) : Int)), s2, s3, s4, s5, s6] ∧ SqA K H a xs ∧ flats xs ∧ xs.length ≤ 1000 ∧ 1 ≤ xs.length ∧ ∀ H', Same H H' → Q (.bl (((xs.drop 1).take n).all nameV)) H'
/-- value[1 + names:] -/
def tRest (K : PySem.W.Frag) : TE := fun σ H Q => ∃ a xs n, σ[0]? = some (some (.ref a)) ∧ σ[1]? = some (some (.int ((n : Nat) : Int))) ∧ SqA K H a xs ∧ 1 ≤ xs.length ∧ ∀ p o, H p = none → (o = .lst (xs.drop (1 + n)) ∨ o = .tup (xs.drop (1 + n))) → Q (.ref p) (upd H p o)
section
variable {P : Program} {w : World} {K : PySem.W.Frag} {mg : Str → Option Value} {base : Heap}
theorem whole_no {n k : Nat} (h : 1 ≤ n) {hi : Option Int} : ¬ (HT.sIx n 0 (some ((1 + k : Nat) : Int)) = 0 ∧ HT.sIx n n hi = n) := fun ⟨z, _⟩ => by
  rw [HT.sIx_nat] at z
  omega
theorem kinds_rep (ks : Str) (k : Nat) : kindsOf (repS ks k) = (List.replicate k (kindsOf ks)).flatten := by
  show (((List.replicate k ks.cps.toList).flatten).toArray).toList.map sg = _
  show ((List.replicate k ks.cps.toList).flatten).map sg = _
  rw [List.map_flatten, List.map_replicate]
  rfl
theorem rep_size (ks : Str) (k : Nat) : (repS ks k).cps.size = k * ks.length := by
  show (((List.replicate k ks.cps.toList).flatten).toArray).size = _
  rw [List.size_toArray, TL.len_tl]
  simp
/-- the last expression: as many as there must be, each of its kind -/
def tLast : TE := fun σ H Q => ∃ a n p ks lp ys s5 s6, σ = [a, n, some (.str ks), some (.ref p), some (.int ((lp : Nat) : Int)), s5, s6] ∧ (H p = some (.lst ys) ∨ H p = some (.tup ys)) ∧ flats ys ∧ ys.length ≤ 1000 ∧ 1 ≤ lp ∧ lp ≤ 12 ∧ ks.length ≤ 10 ∧
  ∀ H', Same H H' → Q (.bl (decide (ys.length = lp * ks.length) && (((List.replicate lp (kindsOf ks)).flatten).zip ys).all fun p => numB p.1 p.2)) H'
theorem lookup_mem' {α β : Type} [BEq α] [LawfulBEq α] {a : α} {b : β} : ∀ {l : List (α × β)}, l.lookup a = some b → (a, b) ∈ l
  | [], h => by cases h
  | (c, d) :: r, h => by
    by_cases e : a = c
    · subst e
      have z : ((a, d) :: r).lookup a = some d := by simp [List.lookup]
      rw [z] at h
      cases h
      exact List.mem_cons_self
    · have q : (a == c) = false := by simpa using e
      have z : ((c, d) :: r).lookup a = r.lookup a := by simp [List.lookup, q]
      rw [z] at h
      exact List.mem_cons_of_mem _ (lookup_mem' h)
theorem shapesK_eq : shapesK = shapes.map fun q => (q.1, (q.2.1 : Int), q.2.2) := by decide +kernel
theorem shape_at (T : Tx w K mg) {z ks : Str} {n : Nat} (h : shapeOf z = some (n, ks)) : PySem.W.nsIn K (He.ga K "SHAPES") z = some (some (.ref (shAd K z))) ∧ ∀ H : Hp, SqT K H (shAd K z) [.int (n : Int), .str ks] := by
  have m : (z, (n : Int), ks) ∈ shapesK := by
    rw [shapesK_eq]
    exact List.mem_map.mpr ⟨_, lookup_mem' h, rfl⟩
  exact T.sh _ m
theorem turn_new {H1 H' H2 : Hp} {D : Addr} {xs acc : List V} {y : V} (hD : H1 D = none) (sm : Same H1 H') (hd : H' D = some (.lst acc)) (s2 : Same H' H2) : H2 D = some (.lst acc) ∧ Same H1 (upd H2 D (.lst (acc ++ [y]))) := by
  refine ⟨s2 _ _ hd, fun b o e => ?_⟩
  rw [upd_ne (ne_of_none e hD)]
  exact s2 _ _ (sm _ _ e)
theorem lin {n : Nat} (h : n ≤ 1000) : n < sizeLine := Nat.lt_of_le_of_lt h (by decide)
theorem ok_ask (T : Tx w K mg) : Cal P w K mg base CX0 4 (He.ga K "is_ask") ["value"] (spIsAsk K) := by
  obtain ⟨fd, F⟩ := T.fd 16 _ rfl
  have F : FnP K "is_ask" "is_ask" (top 34) (He.ga K "is_ask") fd := F
  obtain ⟨fd1, G1, k1, b1⟩ := ok_listed (P := P) (base := base) T
  obtain ⟨fd2, G2, k2, b2⟩ := ok_name (P := P) (base := base) T
  obtain ⟨fd3, G3, k3, b3⟩ := ok_number (P := P) (base := base) T
  obtain ⟨es, n, D, hk⟩ := T.kd
  obtain ⟨tD, eD⟩ := T.s_DAYS
  obtain ⟨tM, eM⟩ := T.i_MOST_DAYS
  refine ⟨fd, F.ok sc_ask (fun vs H Q E h => ?_) (fun cdv A outer s H vs Q E hr h => ?_), F.kp, F.bindsN fun _ _ _ _ _ _ us hl => match us, hl with | [_], _ => rfl⟩
  · obtain ⟨k, v, rfl, _⟩ := h
    rfl
  · refine ⟨_, PSs.nox (pss_cons (ps_if (ptImp (t' := tFirst K) (PW.pt (pw_or (pt_not (pt_val (pe_call G1 (hr.mono (by decide)) rfl T.g_is_listed k1 b1 .nil pass0 (pa_cons (pv 0) pa_nil))))
        (pw_or (pt_cmpR op_eq (pe_callB call_len_seq rfl T.f_len boot_len (pa_cons (pv 0) pa_nil)) pe_int (nomark _))
        (pw_or (pt_not (pt_val (pe_callB call_isi rfl T.f_isinstance boot_isinstance (pa_cons (pe_head rfl (Or.inl rfl)) (pa_cons (pe_bltn (v := .ty "str") rfl T.f_str (by decide +kernel) rfl) pa_nil)))))
        (pw_or1 (pt_cmpR (op_notIn_kd D) (pe_head rfl (Or.inl rfl)) (pe_glob (v := .ref (He.ga K "SHAPES")) rfl T.g_SHAPES rfl) rfl)))))) ?first) (pss_one (ps_ret pe_bl)) pss_nil)
      (pss_cons (ps_asg (pe_ix ix_kdict (pe_glob (v := .ref (He.ga K "SHAPES")) rfl T.g_SHAPES rfl) (pe_head rfl (Or.inl rfl)) (fun _ _ => rfl)) (pg_tup rfl (pgs_cons (pg_name (i := 1) sc_ask.nd rfl (.inl rfl)) (pgs_cons (pg_name (i := 2) sc_ask.nd rfl (.inl rfl)) pgs_nil))))
      (pss_cons (ps_if (PW.pt (pw_or (pt_cmpR op_lt (pe_callB call_len_seq rfl T.f_len boot_len (pa_cons (pv 0) pa_nil)) (pe_op op_add pe_int (pv 1)) (nomark _))
        (pw_or1 (pt_not (pt_val (peImp (t' := tNames K) (pe_callB (cr_all rfl) rfl T.f_all boot_all (pa_cons (pe_lc (own := [("one", 5)]) (g := gName 5) rfl sc_ask.nd (pi_seq (pe_slice (sl_list.or sl_tup) (pv 0) (po_some pe_int) (po_some (pe_op op_add pe_int (pv 1)))))
            (blkOk_by (own := [("one", 5)]) (N := nAsk) (sc := defScope (top 34)) (by decide +kernel)) (fun _ _ _ _ _ => pg_name (i := 5) sc_ask.nd rfl (Or.inl rfl)) (fun _ _ _ _ _ => pts_nil)
            (fun _ _ _ _ _ => pe_call G2 (hr.mono (by decide)) rfl T.g_is_name k2 b2 .nil pass0 (pa_cons (pv 5) pa_nil))) pa_nil)) ?names)))))) (pss_one (ps_ret pe_bl)) pss_nil)
      (pss_cons (ps_par (i := 3) (j := 4) rfl sc_ask.nd rfl rfl (by decide) rfl rfl (pa_cons (peImp (t' := tRest K) (pe_slice (sl_list.or sl_tup) (pv 0) (po_some (pe_op op_add pe_int (pv 1))) po_none) ?rest) (pa_cons pe_int pa_nil)) (by rfl))
      (pss_cons (ps_if (pt_cmpR op_eq (pe_head rfl (Or.inl rfl)) (pe_glob (v := .str "days") rfl eD ⟨_, rfl⟩) (nomark _))
        (pss_cons (ps_set (i := 4) sc_ask.nd rfl (Or.inl rfl) (pe_op op_fdivN (pe_callB call_len_seq rfl T.f_len boot_len (pa_cons (pv 3) pa_nil)) (pe_callB call_len rfl T.f_len boot_len (pa_cons (pv 2) pa_nil))))
        (pss_one (ps_if (pt_not (pt_chain op_le op_le pe_int (pv 4) (pe_glob (v := .int 12) rfl eM ⟨_, rfl⟩))) (pss_one (ps_ret pe_bl)) pss_nil))) pss_nil)
      (pss_one (ps_ret (peImp (t' := tLast) (pe_and (pe_cmpR op_eq (pe_callB call_len_seq rfl T.f_len boot_len (pa_cons (pv 3) pa_nil)) (pe_op op_mul (pv 4) (pe_callB call_len rfl T.f_len boot_len (pa_cons (pv 2) pa_nil))) (nomark _))
        (pe_one (pe_callB (cr_all rfl) rfl T.f_all boot_all (pa_cons (pe_lc (own := [("kind", 6), ("one", 5)]) (g := gTup K 2 (gCons (gName 6) (gCons (gName 5) gNil))) rfl sc_ask.nd (ZpX.pi_zipx rfl T.f_zip (pa_cons (pe_op op_repS (pv 2) (pv 4)) (pa_cons (pv 3) pa_nil)))
            (blkOk_by (own := [("kind", 6), ("one", 5)]) (N := nAsk) (sc := defScope (top 34)) (by decide +kernel)) (fun _ _ _ _ _ => pg_tup rfl (pgs_cons (pg_name (i := 6) sc_ask.nd rfl (Or.inl rfl)) (pgs_cons (pg_name (i := 5) sc_ask.nd rfl (Or.inl rfl)) pgs_nil))) (fun _ _ _ _ _ => pts_nil)
            (fun _ _ _ _ _ => pe_call G3 hr rfl T.g_is_number k3 b3 .nil pass0 (pa_cons (pv 6) (pa_cons (pv 5) pa_nil)))) pa_nil)))) ?last)))))))), ?_⟩
    case first =>
      rintro σ H Q ⟨v, r, rfl, hv, q⟩
      rcases hv with ⟨hf, rfl⟩ | ⟨a, xs, rfl, ha, hfl, hlen, hk, rfl⟩
      · exact ⟨_, rfl, v, false, rfl, .inl ⟨hf, rfl⟩, fun H1 sm => ⟨_, rfl, ifT rfl (q H1 sm)⟩⟩
      · refine ⟨_, rfl, .ref a, true, rfl, .inr ⟨a, xs, rfl, ha, rfl⟩, fun H1 sm => ⟨_, rfl, ifF rfl ?_⟩⟩
        have sq : SqL K H1 a xs ∨ SqT K H1 a xs := ha.imp (fun e => SqL.of (sm _ _ e)) (fun e => SqT.of (sm _ _ e))
        refine ⟨_, rfl, a, xs, rfl, sq, rfl, _, rfl, ?_⟩
        cases xs with
        | nil => exact ifT (by decide) (q H1 sm)
        | cons x xs =>
          refine ifF (decide_eq_false fun z => by injection z with z; rw [List.length_cons] at z; omega) ?_
          have fx := hfl x List.mem_cons_self
          refine ⟨a, x, xs, rfl, sq, ?_⟩
          refine ⟨x, .ty "str", .type (tyF x), .type "str", isStrV x, rfl, .ty _, ty_of fx, kit_str fx, _, rfl, ?_⟩
          cases x with
          | str z =>
            refine ifF rfl ?_
            refine ⟨a, .str z, xs, rfl, sq, ?_⟩
            rcases hk z xs rfl with hs | rfl
            · cases hq : shapeOf z with
              | none => rw [hq] at hs; cases hs
              | some p =>
                obtain ⟨n, ks⟩ := p
                refine ⟨z, _, rfl, rfl, (shape_at T hq).1, _, rfl, ?_⟩
                have e : headOk (.str z :: xs) = true := hs
                have q' := q H1 sm
                rw [e] at q'
                exact q'
            · refine ⟨"ring", none, rfl, rfl, T.ring, _, rfl, ?_⟩
              have e : headOk (.str "ring" :: xs) = false := by
                show (shapeOf "ring").isSome = false
                decide +kernel
              have q' := q H1 sm
              rw [e] at q'
              exact q'
          | non => exact ifT rfl (q H1 sm)
          | bl b => exact ifT rfl (q H1 sm)
          | int i => exact ifT rfl (q H1 sm)
          | _ => cases fx
    case names =>
      rintro σ H Q ⟨a, xs, n, s2, s3, s4, s5, s6, rfl, hs, hfl, hlen, h1, q⟩
      have fys : ∀ v ∈ (xs.drop 1).take n, flat v = true := fun v hv => hfl v (List.mem_of_mem_drop (List.mem_of_mem_take hv))
      have lys : ((xs.drop 1).take n).length ≤ 1000 := by
        rw [List.length_take, List.length_drop]
        omega
      have go : ∀ (p : Addr) (o : HO), H p = none → ∀ D, (upd H p o) D = none → ∀ i x H', ((xs.drop 1).take n)[i]? = some x → Same (upd H p o) H' ∧ H' D = some (.lst (((((xs.drop 1).take n).map nameV).take i).map V.bl)) →
          ∀ H'', Same H' H'' → ∃ acc, H'' D = some (.lst acc) ∧ acc.length < sizeLine ∧ (Same (upd H p o) (upd H'' D (.lst (acc ++ [.bl (nameV x)]))) ∧ (upd H'' D (.lst (acc ++ [.bl (nameV x)]))) D = some (.lst (((((xs.drop 1).take n).map nameV).take (i + 1)).map V.bl))) := by
        intro p o hp D hD i x H' hi ⟨sm, hd⟩ H'' s2
        obtain ⟨e1, e2⟩ := turn_new (xs := []) (y := .bl (nameV x)) hD sm hd s2
        refine ⟨_, e1, ?_, e2, ?_⟩
        · rw [List.length_map, List.length_take, List.length_map]
          exact lin (Nat.le_trans (Nat.min_le_right _ _) lys)
        · rw [upd_same, take_map hi, List.map_append]
          rfl
      have fin : ∀ (p : Addr) (o : HO), H p = none → ∀ D H', Same (upd H p o) H' ∧ H' D = some (.lst (((((xs.drop 1).take n).map nameV).take ((xs.drop 1).take n).length).map V.bl)) → rAll K [.ref D] H' Q := by
        intro p o hp D H' ⟨sm, hd⟩
        refine ⟨D, ((xs.drop 1).take n).map nameV, rfl, SqL.of (by rw [hd, show ((xs.drop 1).take n).length = (((xs.drop 1).take n).map nameV).length from by rw [List.length_map], List.take_length]), ?_⟩
        have e : ((((xs.drop 1).take n).map nameV).all id) = ((xs.drop 1).take n).all nameV := by rw [List.all_map]; rfl
        rw [e]
        exact q H' ((same_new hp).trans sm)
      rcases hs with hs | hs
      · refine ⟨_, rfl, ((1 : Nat) : Int), rfl, _, rfl, _, _, rfl, rfl, ((1 + n : Nat) : Int), ?_, .inl ⟨a, xs, rfl, hs, fun p hp => ?_⟩⟩
        · show V.int (1 + (n : Int)) = _
          exact congrArg V.int (by omega)
        · rw [cut_mid]
          refine ⟨p, rfl, .inl ⟨⟨_, SqL.of upd_same⟩, fun D hD => lc_list (K := K) (a := p) (xs := (xs.drop 1).take n) (fun i H' => Same (upd H p (.lst ((xs.drop 1).take n))) H' ∧ H' D = some (.lst (((((xs.drop 1).take n).map nameV).take i).map V.bl))) ⟨same_new hD, upd_same⟩
            (fun i H' _ ⟨sm, _⟩ => SqL.of (sm _ _ upd_same)) (fun i x H' hi hp' => ?_) (fun H' hp' => fin p _ hp D H' hp')⟩⟩
          exact ⟨rfl, _, rfl, x, rfl, fys x (List.mem_of_getElem? hi), fun H'' s2 => go p _ hp D hD i x H' hi hp' H'' s2⟩
      · refine ⟨_, rfl, ((1 : Nat) : Int), rfl, _, rfl, _, _, rfl, rfl, ((1 + n : Nat) : Int), ?_, .inr ⟨a, xs, rfl, hs, whole_no (k := 0) h1, fun p hp => ?_⟩⟩
        · show V.int (1 + (n : Int)) = _
          exact congrArg V.int (by omega)
        · rw [cut_mid]
          refine ⟨p, rfl, .inr ⟨⟨_, SqT.of upd_same⟩, fun D hD => lc_tup (K := K) (a := p) (xs := (xs.drop 1).take n) (fun i H' => Same (upd H p (.tup ((xs.drop 1).take n))) H' ∧ H' D = some (.lst (((((xs.drop 1).take n).map nameV).take i).map V.bl))) ⟨same_new hD, upd_same⟩
            (fun i H' _ ⟨sm, _⟩ => SqT.of (sm _ _ upd_same)) (fun i x H' hi hp' => ?_) (fun H' hp' => fin p _ hp D H' hp')⟩⟩
          exact ⟨rfl, _, rfl, x, rfl, fys x (List.mem_of_getElem? hi), fun H'' s2 => go p _ hp D hD i x H' hi hp' H'' s2⟩
    case rest =>
      rintro σ H Q ⟨a, xs, n, h0, h1, hs, hl, q⟩
      have ev : ((1 : Int) + (n : Int)) = ((1 + n : Nat) : Int) := by omega
      rcases hs with hs | hs
      · refine ⟨_, h0, _, h1, _, _, rfl, rfl, ((1 + n : Nat) : Int), congrArg V.int ev, .inl ⟨a, xs, rfl, hs, fun p hp => ?_⟩⟩
        rw [cut_tail]
        exact q p _ hp (.inl rfl)
      · refine ⟨_, h0, _, h1, _, _, rfl, rfl, ((1 + n : Nat) : Int), congrArg V.int ev, .inr ⟨a, xs, rfl, hs, whole_no hl, fun p hp => ?_⟩⟩
        rw [cut_tail]
        exact q p _ hp (.inr rfl)
    case last =>
      rintro σ H Q ⟨a, n, p, ks, lp, ys, s5, s6, rfl, hp, hfl, hly, l1, l2, hks, q⟩
      have sq : SqL K H p ys ∨ SqT K H p ys := hp.imp SqL.of SqT.of
      refine ⟨_, rfl, p, ys, rfl, sq, ?_⟩
      refine ⟨_, rfl, _, rfl, .str ks, _, rfl, ⟨Nat.le_trans hks (by decide), rfl⟩, _, _, rfl, rfl, .inl ⟨by omega, by omega⟩, ?_⟩
      have e : decide (V.int (ys.length : Int) = V.int ((lp : Int) * (ks.length : Int))) = decide (ys.length = lp * ks.length) := by
        have e1 : ((lp : Int) * (ks.length : Int)) = ((lp * ks.length : Nat) : Int) := (Int.natCast_mul _ _).symm
        rw [e1]
        by_cases h : ys.length = lp * ks.length
        · rw [h, decide_eq_true rfl, decide_eq_true rfl]
        · rw [decide_eq_false h, decide_eq_false fun z => h (by injection z with z; omega)]
      refine ⟨rfl, _, rfl, ?_⟩
      rw [e]
      by_cases h : ys.length = lp * ks.length
      · refine ifT (decide_eq_true h) ?_
        rw [decide_eq_true h, Bool.true_and] at q
        refine ⟨_, rfl, _, rfl, ks, lp, rfl, rfl, l1, by omega, by omega, ?_⟩
        have hsz : (repS ks lp).cps.size = ys.length := by rw [rep_size, h]
        have kz : ∀ {i c : Nat} {y : V}, (repS ks lp).cps[i]? = some c → ys[i]? = some y → (((List.replicate lp (kindsOf ks)).flatten).zip ys)[i]? = some (sg c, y) := fun {i c y} hc hy => by
          rw [← kinds_rep]
          have h1 : (kindsOf (repS ks lp))[i]? = some (sg c) := by
            unfold kindsOf
            rw [List.getElem?_map, get_toList hc]
            rfl
          rw [List.getElem?_zip_eq_some]
          exact ⟨h1, hy⟩
        have zl : (((List.replicate lp (kindsOf ks)).flatten).zip ys).length = ys.length := by
          rw [← kinds_rep, List.length_zip, show (kindsOf (repS ks lp)).length = (repS ks lp).cps.size from by unfold kindsOf; rw [List.length_map, Array.length_toList], hsz, Nat.min_self]
        have bl : ((((List.replicate lp (kindsOf ks)).flatten).zip ys).map fun p => numB p.1 p.2).length = ys.length := by rw [List.length_map, zl]
        have go : ∀ {D T' : Addr} {H' : Hp} {i c : Nat} {y : V}, H D = none → (repS ks lp).cps[i]? = some c → ys[i]? = some y → H' T' = none → Same H H' → H' D = some (.lst ((((((List.replicate lp (kindsOf ks)).flatten).zip ys).map fun p => numB p.1 p.2).take i).map V.bl)) →
            ∃ acc, (upd H' T' (.tup [.str ⟨#[c]⟩, y])) D = some (.lst acc) ∧ acc.length < sizeLine ∧ (Same H (upd (upd H' T' (.tup [.str ⟨#[c]⟩, y])) D (.lst (acc ++ [.bl (numB (sg c) y)]))) ∧
              (upd (upd H' T' (.tup [.str ⟨#[c]⟩, y])) D (.lst (acc ++ [.bl (numB (sg c) y)]))) D = some (.lst ((((((List.replicate lp (kindsOf ks)).flatten).zip ys).map fun p => numB p.1 p.2).take (i + 1)).map V.bl))) := by
          intro D T' H' i c y hD hc hy hT sm hd
          obtain ⟨e1, e2⟩ := turn_new (xs := []) (y := .bl (numB (sg c) y)) hD sm hd (same_new (o := .tup [.str ⟨#[c]⟩, y]) hT)
          refine ⟨_, e1, ?_, e2, ?_⟩
          · rw [List.length_map, List.length_take, bl]
            exact lin (Nat.le_trans (Nat.min_le_right _ _) hly)
          · rw [upd_same, take_map (kz hc hy), List.map_append]
            rfl
        have fin : ∀ {D : Addr} {H' : Hp}, Same H H' → H' D = some (.lst ((((((List.replicate lp (kindsOf ks)).flatten).zip ys).map fun p => numB p.1 p.2).take ys.length).map V.bl)) → rAll K [.ref D] H' Q := by
          intro D H' sm hd
          refine ⟨D, _, rfl, SqL.of hd, ?_⟩
          rw [← bl, List.take_length]
          have e : ((((List.replicate lp (kindsOf ks)).flatten).zip ys).map fun p => numB p.1 p.2).all id = (((List.replicate lp (kindsOf ks)).flatten).zip ys).all fun p => numB p.1 p.2 := by rw [List.all_map]; rfl
          rw [e]
          exact q H' sm
        rcases hp with hp | hp
        · refine ⟨_, rfl, ZpX.listK, repS ks lp, p, ys, rfl, SqL.of hp, fun D hD => ZpX.lc_zipx hsz (fun i H' => Same H H' ∧ H' D = some (.lst ((((((List.replicate lp (kindsOf ks)).flatten).zip ys).map fun p => numB p.1 p.2).take i).map V.bl))) ⟨same_new hD, upd_same⟩ (fun i H' _ ⟨sm, _⟩ => SqL.of (sm _ _ hp)) (fun i c y T' H' hc hy hT ⟨sm, hd⟩ => ?_) (fun H' ⟨sm, hd⟩ => fin sm hd)⟩
          refine ⟨T', _, rfl, SqT.of upd_same, rfl, _, _, rfl, _, _, rfl, rfl, rfl, ?_⟩
          exact ⟨_, rfl, _, rfl, sg c, y, rfl, hfl y (List.mem_of_getElem? hy), go hD hc hy hT sm hd⟩
        · refine ⟨_, rfl, ZpX.tupK, repS ks lp, p, ys, rfl, SqT.of hp, fun D hD => ZpX.lc_zipx hsz (fun i H' => Same H H' ∧ H' D = some (.lst ((((((List.replicate lp (kindsOf ks)).flatten).zip ys).map fun p => numB p.1 p.2).take i).map V.bl))) ⟨same_new hD, upd_same⟩ (fun i H' _ ⟨sm, _⟩ => SqT.of (sm _ _ hp)) (fun i c y T' H' hc hy hT ⟨sm, hd⟩ => ?_) (fun H' ⟨sm, hd⟩ => fin sm hd)⟩
          refine ⟨T', _, rfl, SqT.of upd_same, rfl, _, _, rfl, _, _, rfl, rfl, rfl, ?_⟩
          exact ⟨_, rfl, _, rfl, sg c, y, rfl, hfl y (List.mem_of_getElem? hy), go hD hc hy hT sm hd⟩
      · refine ifF (decide_eq_false h) ?_
        rw [decide_eq_false h, Bool.false_and] at q
        exact q H (Same.refl H)
    obtain ⟨v, r, rfl, hv, q⟩ := h
    rcases hv with ⟨hf, rfl⟩ | ⟨a, xs, rfl, ha, hfl, hlen, hk, rfl⟩
    · exact ⟨v, false, rfl, .inl ⟨hf, rfl⟩, fun H1 sm => ifT rfl (q H1 sm)⟩
    · refine ⟨.ref a, headOk xs, rfl, .inr ⟨a, xs, rfl, ha, hfl, hlen, hk, rfl⟩, fun H1 sm => ?_⟩
      cases hh : headOk xs with
      | false =>
        refine ifT rfl ?_
        have e : isAsk xs = false := by
          cases xs with
          | nil => rfl
          | cons x r =>
            cases x with
            | str z =>
              have h2 : (shapeOf z).isSome = false := hh
              unfold isAsk
              dsimp only
              cases hq : shapeOf z with
              | none => rfl
              | some p => rw [hq] at h2; cases h2
            | _ => rfl
        rw [e] at q
        exact q H1 sm
      | true =>
        refine ifF rfl ?_
        obtain ⟨z, rs, rfl⟩ : ∃ z rs, xs = .str z :: rs := by
          unfold headOk at hh
          split at hh
          · exact ⟨_, _, rfl⟩
          · cases hh
        obtain ⟨⟨n, ks⟩, hq⟩ : ∃ p, shapeOf z = some p := Option.isSome_iff_exists.mp hh
        obtain ⟨hns, hsq⟩ := shape_at T hq
        have shp := lookup_mem' hq
        have hks : ks.length ≤ 10 ∧ (z = daysW → ks.length = 4) := by
          have all : ∀ q ∈ shapes, q.2.2.length ≤ 10 ∧ (q.1 = daysW → q.2.2.length = 4) := by decide +kernel
          exact all _ shp
        have sq : ∀ {H2 : Hp}, Same H H2 → SqA K H2 a (.str z :: rs) := fun s2 => ha.imp (fun e => SqL.of (s2 _ _ e)) (fun e => SqT.of (s2 _ _ e))
        have un : isAsk (.str z :: rs) = ((decide (n ≤ rs.length) && (rs.take n).all nameV) &&
          ((!decide (z = daysW) || (decide (1 ≤ (rs.drop n).length / ks.length) && decide ((rs.drop n).length / ks.length ≤ 12))) &&
           (decide ((rs.drop n).length = (if z = daysW then (rs.drop n).length / ks.length else 1) * ks.length) &&
            (((List.replicate (if z = daysW then (rs.drop n).length / ks.length else 1) (kindsOf ks)).flatten).zip (rs.drop n)).all fun p => numB p.1 p.2))) := by
          show (match shapeOf z with
            | some (n, ks) => _
            | none => false) = _
          rw [hq]
        rw [un] at q
        -- names, kinds
        refine ⟨a, .str z, rs, rfl, sq sm, He.ga K "SHAPES", z, .ref (shAd K z), rfl, rfl, ⟨es, _, _, D.at_, D.lit, hns, rfl⟩, ?_⟩
        refine ⟨shAd K z, _, rfl, hsq H1, rfl, _, _, rfl, _, _, rfl, rfl, ?_⟩
        refine ⟨_, rfl, a, _, rfl, sq sm, _, rfl, _, _, rfl, rfl, _, _, rfl, rfl, _, rfl, ?_⟩
        by_cases h1 : n ≤ rs.length
        · refine ifF (decide_eq_false (by rw [List.length_cons]; omega)) ?_
          rw [decide_eq_true h1, Bool.true_and] at q
          refine ⟨a, _, n, _, _, _, _, _, rfl, sq sm, hfl, hlen, by rw [List.length_cons]; omega, fun H2 sm2 => ⟨_, rfl, ?_⟩⟩
          have sm2 := sm.trans sm2
          have ed : ((V.str z :: rs).drop 1).take n = rs.take n := rfl
          rw [ed]
          by_cases h2 : (rs.take n).all nameV = true
          · refine ifF (by rw [h2]; rfl) ?_
            rw [h2, Bool.true_and] at q
            refine ⟨a, _, n, rfl, rfl, sq sm2, by rw [List.length_cons]; omega, fun p o hp ho => ?_⟩
            have ed2 : (V.str z :: rs).drop (1 + n) = rs.drop n := by
              rw [Nat.add_comm]
              rfl
            rw [ed2] at ho
            have sm3 := sm2.trans (same_new (o := o) hp)
            have hp3 : (upd H2 p o) p = some (.lst (rs.drop n)) ∨ (upd H2 p o) p = some (.tup (rs.drop n)) := by
              rw [upd_same]
              exact ho.imp (fun e => by rw [e]) (fun e => by rw [e])
            have fl3 : flats (rs.drop n) := fun v hv => hfl v (List.mem_cons_of_mem _ (List.mem_of_mem_drop hv))
            have ll3 : (rs.drop n).length ≤ 1000 := by
              rw [List.length_drop]
              rw [List.length_cons] at hlen
              omega
            refine ⟨_, _, rfl, ?_⟩
            refine ⟨a, .str z, rs, rfl, sq sm3, rfl, _, rfl, ?_⟩
            by_cases h3 : z = daysW
            · refine ifT (eqS.trans (decide_eq_true h3)) ?_
              have k4 := hks.2 h3
              rw [decide_eq_true h3, if_pos h3, k4, Bool.not_true, Bool.false_or] at q
              refine ⟨_, rfl, p, _, rfl, hp3.imp SqL.of SqT.of, _, rfl, .str ks, _, rfl, ⟨Nat.le_trans hks.1 (by decide), rfl⟩, _, _, rfl, rfl, ⟨by omega, by omega⟩, ?_⟩
              have ediv : Int.fdiv ((rs.drop n).length : Int) (ks.length : Int) = (((rs.drop n).length / 4 : Nat) : Int) := by
                rw [k4]
                exact Int.fdiv_eq_ediv_of_nonneg _ (by decide)
              refine ⟨_, rfl, _, _, rfl, rfl, _, rfl, ?_⟩
              by_cases h4 : 1 ≤ (rs.drop n).length / 4
              · refine ifT (decide_eq_true (by rw [ediv]; omega)) ?_
                refine ⟨_, _, rfl, rfl, _, rfl, ?_⟩
                rw [decide_eq_true h4, Bool.true_and] at q
                by_cases h5 : (rs.drop n).length / 4 ≤ 12
                · refine ifF (by rw [ediv, decide_eq_true (by omega)]; rfl) ?_
                  rw [decide_eq_true h5, Bool.true_and] at q
                  refine ⟨_, _, p, ks, (rs.drop n).length / 4, _, _, _, congrArg (fun x : Int => [some (V.ref a), some (V.int (n : Int)), some (V.str ks), some (V.ref p), some (V.int x), none, none]) ediv, hp3, fl3, ll3, h4, h5, hks.1, fun H' s' => ?_⟩
                  rw [k4]
                  exact q H' (sm3.trans s')
                · refine ifT (by rw [ediv, decide_eq_false (by omega)]; rfl) ?_
                  rw [decide_eq_false h5, Bool.false_and] at q
                  exact q _ sm3
              · refine ifF (decide_eq_false (by rw [ediv]; omega)) ?_
                rw [decide_eq_false h4, Bool.false_and, Bool.false_and] at q
                exact ⟨_, rfl, ifT rfl (q _ sm3)⟩
            · refine ifF (eqS.trans (decide_eq_false h3)) ?_
              rw [decide_eq_false h3, if_neg h3, Bool.not_false, Bool.true_or, Bool.true_and] at q
              exact ⟨_, _, p, ks, 1, _, _, _, rfl, hp3, fl3, ll3, Nat.le_refl _, by decide, hks.1, fun H' s' => q H' (sm3.trans s')⟩
          · have h2' : (rs.take n).all nameV = false := by simpa using h2
            refine ifT (by rw [h2']; rfl) ?_
            rw [h2', Bool.false_and] at q
            exact q H2 sm2
        · refine ifT (decide_eq_true (by rw [List.length_cons]; omega)) ?_
          rw [decide_eq_false h1, Bool.false_and, Bool.false_and] at q
          exact q H1 sm
end
end K88
end

section
set_option Elab.async false
set_option linter.all false
set_option maxRecDepth 100000
set_option maxHeartbeats 4000000
namespace K88
open PySem PySem.Spec PyProof.Rows L2
/-- one word taken by the parser p -/
def SpP (K : PySem.W.Frag) (p : Par) (a dx wl : Addr) (ws : List Str) (l : Int) (i : Nat) (H : Hp) (Q : VK) (E : XK) : Prop :=
  (∀ w v H', ws[i]? = some w → p w = some v → SB a H H' → Sc K H' a dx wl ws l (i + 1) → Q v H') ∧ ((∀ w, ws[i]? = some w → p w = none) → BadText K l i a H E)
def short (ws : List Str) : Prop := ∀ w ∈ ws, w.length ≤ 1000
def spTakeName (K : PySem.W.Frag) : Sp := fun vs H Q E => ∃ a dx wl ws l i, vs = [.ref a] ∧ Sc K H a dx wl ws l i ∧ i ≤ ws.length ∧ short ws ∧ SpP K okName a dx wl ws l i H Q E
def spTakeNum (K : PySem.W.Frag) : Sp := fun vs H Q E => ∃ a dx wl ws l i k, vs = [.ref a, .str k] ∧ Sc K H a dx wl ws l i ∧ i ≤ ws.length ∧ short ws ∧ SpP K (okNum k) a dx wl ws l i H Q E
section
variable {P : Program} {w : World} {K : PySem.W.Frag} {mg : Str → Option Value} {base : Heap}
theorem sc_tname : FnScope ["scan"] ["scan"] (defScope (top 35)) := ⟨rfl, rfl, rfl, by decide +kernel, rfl, by decide +kernel, by decide +kernel⟩
theorem ok_tname (T : Tx w K mg) : Cal Pr w K mg base (L2.CX Pr w) 6 (He.ga K "take_name") ["scan"] (spTakeName K) := by
  obtain ⟨fd, F⟩ := T.fd 17 _ rfl
  have F : FnP K "take_name" "take_name" (top 35) (He.ga K "take_name") fd := F
  obtain ⟨fd1, G1, k1, b1⟩ := ok_coming (base := base) T
  obtain ⟨fd2, G2, k2, b2⟩ := ok_refuse (base := base) T
  obtain ⟨fd3, G3, k3, b3⟩ := ok_name (P := Pr) (base := base) T
  obtain ⟨fd4, G4, k4, b4⟩ := ok_any (base := base) T
  refine ⟨fd, F.ok sc_tname (fun vs H Q E h => ?_) (fun cdv A outer s H vs Q E hr h => ?_), F.kp, F.bindsN fun _ _ _ _ _ _ us hl => match us, hl with | [_], _ => rfl⟩
  · obtain ⟨a, dx, wl, ws, l, i, rfl, _⟩ := h
    rfl
  · have tk := takes_of (X := cxOf (L2.CX Pr w) Pr w K mg base ["scan"] "take_name" (defScope (top 35)) (He.ga K "take_name") cdv A outer s H E) rfl rfl rfl rfl
    refine ⟨_, pss_cons (ps_if (pt_not (pt_val (pe_call G3 (hr.mono (by decide)) rfl T.g_is_name k3 b3 .nil pass0 (pa_cons (pe_meth0 (pv 0) T.c_Scan T.m_coming G1 (hr.mono (by decide)) b1 .nil (passes_call tk fun _ _ _ _ h => h)) pa_nil))))
        (pss_one (ps_expr (pe_meth0 (pv 0) T.c_Scan T.m_refuse G2 (hr.mono (by decide)) b2 .nil (passes_call tk fun _ _ _ _ h => h)))) pss_nil)
      (pss_one (ps_ret (pe_meth0 (pv 0) T.c_Scan T.m_take_any G4 hr b4 .nil (passes_call tk fun _ _ _ _ h => h)))), ?_⟩
    obtain ⟨a, dx, wl, ws, l, i, rfl, hs, hi, hw, q1, q2⟩ := h
    refine ⟨_, rfl, a, dx, _, rfl, hs.1, rfl, ?_⟩
    refine ⟨a, dx, wl, ws, l, i, rfl, hs, hi, fun w' hw' => ?_, fun hn => q2 fun w' hw' => by rw [hn] at hw'; cases hw'⟩
    refine ⟨.str w', rfl, decide_eq_true (hw w' (List.mem_of_getElem? hw')), fun H1 sm => ⟨_, rfl, ?_⟩⟩
    have hs1 := hs.same sm
    by_cases hn : isName w' = true
    · refine ifF (by show (!isName w') = false; rw [hn]; rfl) ?_
      refine ⟨_, rfl, a, dx, _, rfl, hs1.1, rfl, ?_⟩
      refine ⟨a, dx, wl, ws, l, i, rfl, hs1, hi, fun w2 H2 hw2 sb sc => ?_, fun hno => by rw [hno] at hw'; cases hw'⟩
      rw [hw'] at hw2
      cases hw2
      exact q1 w' (.str w') H2 hw' (if_pos hn) ((SB.of_same sm).trans sb) sc
    · have hf : isName w' = false := by simpa using hn
      refine ifT (by show (!isName w') = true; rw [hf]; rfl) ?_
      refine ⟨_, rfl, a, dx, _, rfl, hs1.1, rfl, ?_⟩
      refine ⟨a, dx, wl, ws, l, i, rfl, hs1, fun d H2 sb hd => q2 (fun w2 hw2 => ?_) d H2 ((SB.of_same sm).trans sb) hd⟩
      rw [hw'] at hw2
      cases hw2
      exact if_neg hn
theorem sc_tnum : FnScope ["scan", "kind"] ["scan", "kind"] (defScope (top 36)) := ⟨rfl, rfl, rfl, by decide +kernel, rfl, by decide +kernel, by decide +kernel⟩
theorem ok_tnum (T : Tx w K mg) : Cal Pr w K mg base (L2.CX Pr w) 6 (He.ga K "take_number") ["scan", "kind"] (spTakeNum K) := by
  obtain ⟨fd, F⟩ := T.fd 18 _ rfl
  have F : FnP K "take_number" "take_number" (top 36) (He.ga K "take_number") fd := F
  obtain ⟨fd1, G1, k1, b1⟩ := ok_coming (base := base) T
  obtain ⟨G2, k2⟩ := ok_take (base := base) T
  obtain ⟨fd3, G3, k3, b3⟩ := ok_tint (base := base) T
  obtain ⟨tM, eM⟩ := T.i_MOST_NUMBER
  obtain ⟨tN, eN⟩ := T.s_NONE
  refine ⟨fd, F.ok sc_tnum (fun vs H Q E h => ?_) (fun cdv A outer s H vs Q E hr h => ?_), F.kp, F.bindsN fun _ _ _ _ _ _ us hl => match us, hl with | [_, _], _ => rfl⟩
  · obtain ⟨a, dx, wl, ws, l, i, k, rfl, _⟩ := h
    rfl
  · have tk := takes_of (X := cxOf (L2.CX Pr w) Pr w K mg base ["scan", "kind"] "take_number" (defScope (top 36)) (He.ga K "take_number") cdv A outer s H E) rfl rfl rfl rfl
    refine ⟨_, pss_cons (ps_if (PW.pt (pw_and (pt_cmpR op_eq (pv 1) pe_str (nomark _)) (pw_and1 (pt_cmpR op_eq (pe_meth0 (pv 0) T.c_Scan T.m_coming G1 (hr.mono (by decide)) b1 .nil (passes_call tk fun _ _ _ _ h => h)) (pe_glob (v := .str "-") rfl eN ⟨_, rfl⟩) (nomark _)))))
        (pss_cons (ps_expr (pe_methR (pv 0) T.c_Scan T.m_take G2 hr (passes_call tk fun _ _ _ _ h => h) (pa_cons (pe_glob (v := .str "-") rfl eN ⟨_, rfl⟩) pa_nil))) (pss_one (ps_ret pe_non))) pss_nil)
      (pss_one (ps_ret (pe_meth (pv 0) T.c_Scan T.m_take_integer G3 hr b3 .nil (passes_call tk fun _ _ _ _ h => h) (pa_cons (pe_ifExp (pt_cmpR op_eq (pv 1) pe_str (nomark _)) (pe_un un_neg (pe_glob (v := .int (10 ^ 60 - 1)) rfl eM ⟨_, rfl⟩)) pe_int) (pa_cons (pe_glob (v := .int (10 ^ 60 - 1)) rfl eM ⟨_, rfl⟩) pa_nil))))), ?_⟩
    obtain ⟨a, dx, wl, ws, l, i, k, rfl, hs, hi, hw, q1, q2⟩ := h
    have okI : ∀ {w' : Str}, ¬ (k = "h" ∧ w' = dash) → okNum k w' = match intIn w' with
        | some n => if lo k ≤ n ∧ n ≤ maxN then some (.int n) else none
        | none => none := fun hn => if_neg hn
    have tail : (∀ w', ws[i]? = some w' → ¬ (k = "h" ∧ w' = dash)) → ∀ lo', lo' = lo k → spTakeInt K [.ref a, .int lo', .int (10 ^ 60 - 1)] H Q E := fun hn lo' el => by
      subst el
      refine ⟨a, dx, wl, ws, l, i, lo k, _, rfl, hs, hi, fun w' hm => Nat.le_trans (hw w' hm) (by decide), fun w' n H' hw' hin hb sb sc => ?_, fun hb => q2 fun w' hw' => ?_⟩
      · refine q1 w' (.int n) H' hw' ?_ sb sc
        rw [okI (hn w' hw'), hin]
        exact if_pos hb
      · rw [okI (hn w' hw')]
        cases hin : intIn w' with
        | none => rfl
        | some n => exact if_neg (hb w' n hw' hin)
    refine ⟨_, rfl, rfl, _, rfl, ?_⟩
    by_cases h1 : k = "h"
    · refine ifT (eqS.trans (decide_eq_true h1)) ?_
      refine ⟨_, rfl, a, dx, _, rfl, hs.1, rfl, ?_⟩
      refine ⟨a, dx, wl, ws, l, i, rfl, hs, hi, fun w' hw' => ?_, fun hn => q2 fun w' hw' => by rw [hn] at hw'; cases hw'⟩
      refine ⟨rfl, _, rfl, ?_⟩
      by_cases h2 : w' = dash
      · refine ifT (eqS.trans (decide_eq_true h2)) ?_
        refine ⟨_, rfl, a, dx, _, rfl, hs.1, rfl, ?_⟩
        refine ⟨a, dx, wl, ws, l, i, [dash], rfl, hs, hi, by decide, fun w2 H2 hw2 hm sb sc => ?_, fun hno => absurd (List.mem_singleton.mpr h2) (hno w' hw')⟩
        refine q1 w' .non H2 hw' ?_ sb sc
        exact if_pos ⟨h1, h2⟩
      · refine ifF (eqS.trans (decide_eq_false h2)) ?_
        refine ⟨_, rfl, a, dx, _, rfl, hs.1, rfl, ?_⟩
        refine ⟨_, rfl, rfl, _, rfl, ?_⟩
        have hk : ¬ k = "k" := by rw [h1]; decide
        refine ifF (eqS.trans (decide_eq_false hk)) ?_
        exact tail (fun w2 hw2 z => by rw [hw'] at hw2; cases hw2; exact h2 z.2) 0 (if_neg hk).symm
    · refine ifF (eqS.trans (decide_eq_false h1)) ?_
      refine ifF rfl ?_
      refine ⟨_, rfl, a, dx, _, rfl, hs.1, rfl, ?_⟩
      refine ⟨_, rfl, rfl, _, rfl, ?_⟩
      by_cases hk : k = "k"
      · refine ifT (eqS.trans (decide_eq_true hk)) ?_
        exact ⟨_, rfl, tail (fun w2 hw2 z => h1 z.1) _ (if_pos hk).symm⟩
      · refine ifF (eqS.trans (decide_eq_false hk)) ?_
        exact tail (fun w2 hw2 z => h1 z.1) 0 (if_neg hk).symm
end
end K88
end

section
set_option Elab.async false
set_option linter.all false
set_option maxRecDepth 100000
set_option maxHeartbeats 4000000
namespace K88
open PySem PySem.Spec PyProof.Rows L2
def pre (acc : List V) : Except Nat (List V) → Except Nat (List V)
  | .ok vs => .ok (acc ++ vs)
  | .error e => .error e
theorem pre_nil (r : Except Nat (List V)) : pre [] r = r := by cases r <;> rfl
theorem pre_step {ws : List Str} {p : Par} {ps : List Par} {i : Nat} {acc : List V} {w : Str} {v : V} (hw : ws[i]? = some w) (hp : p w = some v) : pre acc (runW ws (p :: ps) i) = pre (acc ++ [v]) (runW ws ps (i + 1)) := by
  have e : runW ws (p :: ps) i = (match runW ws ps (i + 1) with
    | .error e => .error e
    | .ok vs => .ok (v :: vs)) := by
    show (match ws[i]? with
      | none => Except.error i
      | some w => match p w with
        | none => .error i
        | some v => match runW ws ps (i + 1) with
          | .error e => .error e
          | .ok vs => .ok (v :: vs)) = _
    rw [hw]
    dsimp only
    rw [hp]
  rw [e]
  cases runW ws ps (i + 1) with
  | error e => rfl
  | ok vs =>
    show Except.ok (acc ++ v :: vs) = Except.ok (acc ++ [v] ++ vs)
    simp
theorem pre_stop {ws : List Str} {p : Par} {ps : List Par} {i : Nat} {acc : List V} (h : ∀ w, ws[i]? = some w → p w = none) : pre acc (runW ws (p :: ps) i) = .error i := by
  have e : runW ws (p :: ps) i = .error i := by
    show (match ws[i]? with
      | none => Except.error i
      | some w => match p w with
        | none => .error i
        | some v => match runW ws ps (i + 1) with
          | .error e => .error e
          | .ok vs => .ok (v :: vs)) = _
    cases hw : ws[i]? with
    | none => rfl
    | some w =>
      dsimp only
      rw [h w hw]
  rw [e] <;> rfl
def spTakeAsk (K : PySem.W.Frag) : Sp := fun vs H Q E => ∃ a dx wl ws l, vs = [.ref a] ∧ Sc K H a dx wl ws l 0 ∧ short ws ∧
  (∀ xs, takeR ws = .ok xs → ∀ p H', SB a H H' → H' p = some (.tup xs) → Sc K H' a dx wl ws l xs.length → Q (.ref p) H') ∧ (∀ e, takeR ws = .error e → BadText K l e a H E)
abbrev nTake : List Str := ["scan", "word", "names", "kinds", "found", "laps", "_", "kind"]
theorem keys_shape : keys = shapes.map (·.1) := by decide +kernel
theorem lookup_none' {α β : Type} [BEq α] [LawfulBEq α] {a : α} : ∀ {l : List (α × β)}, a ∉ l.map (·.1) → l.lookup a = none
  | [], _ => rfl
  | (c, d) :: r, h => by
    have hc : a ≠ c := fun e => h (by rw [e]; exact List.mem_cons_self)
    have q : (a == c) = false := by simpa using hc
    have z : ((c, d) :: r).lookup a = r.lookup a := by simp [List.lookup, q]
    rw [z]
    exact lookup_none' fun hm => h (List.mem_cons_of_mem _ hm)
theorem lookup_some' {α β : Type} [BEq α] [LawfulBEq α] {a : α} : ∀ {l : List (α × β)}, a ∈ l.map (·.1) → ∃ b, l.lookup a = some b
  | [], h => by cases h
  | (c, d) :: r, h => by
    by_cases e : a = c
    · subst e
      exact ⟨d, by simp [List.lookup]⟩
    · have q : (a == c) = false := by simpa using e
      have hm : a ∈ r.map (·.1) := by
        rcases List.mem_cons.mp h with z | z
        · exact absurd z e
        · exact z
      obtain ⟨b, hb⟩ := lookup_some' hm
      exact ⟨b, by simp [List.lookup, q, hb]⟩
theorem shape_some {w : Str} (h : w ∈ keys) : ∃ n ks, shapeOf w = some (n, ks) := by
  rw [keys_shape] at h
  obtain ⟨⟨n, ks⟩, e⟩ := lookup_some' h
  exact ⟨n, ks, e⟩
theorem shape_none {w : Str} (h : w ∉ keys) : shapeOf w = none := by
  rw [keys_shape] at h
  exact lookup_none' h
theorem shape_bounds {z ks : Str} {n : Nat} (h : shapeOf z = some (n, ks)) : n ≤ 2 ∧ ks.length ≤ 4 ∧ (z = daysW → ks.length = 4) := by
  have all : ∀ q ∈ shapes, q.2.1 ≤ 2 ∧ q.2.2.length ≤ 4 ∧ (q.1 = daysW → q.2.2.length = 4) := by decide +kernel
  exact all _ (lookup_mem' h)
def lenAt (H : Hp) (a : Addr) : Nat := match H a with
  | some (.lst xs) => xs.length
  | _ => 0
def tAgain (K : PySem.W.Frag) : TE := fun σ H Q => ∃ a dx wl ws l i w n ks fl found lp s6 s7, σ = [some (.ref a), some (.str w), n, some (.str ks), some (.ref fl), lp, s6, s7] ∧ Sc K H a dx wl ws l i ∧ i = found.length ∧ H fl = some (.lst found) ∧ ks.length ≤ 4 ∧
  Q (.int (if again ws w ks found.length = true then 1 else 0)) H
theorem Sc.upd {K : PySem.W.Frag} {H : Hp} {a dx wl D : Addr} {ws : List Str} {l : Int} {i : Nat} {o : HO} (h : Sc K H a dx wl ws l i) (h1 : a ≠ D) (h2 : wl ≠ D) : Sc K (L2.upd H D o) a dx wl ws l i := ⟨by rw [upd_ne h1]; exact h.1, by rw [upd_ne h2]; exact h.2⟩
theorem drop_get {α : Type} {l : List α} {i : Nat} {x : α} (h : l[i]? = some x) : l.drop i = x :: l.drop (i + 1) := by
  obtain ⟨hi, e⟩ := List.getElem?_eq_some_iff.mp h
  rw [List.drop_eq_getElem_cons hi, e]
theorem lapsR_err {ws : List Str} {w ks : Str} {f e : Nat} {found : List V} (h : runW ws ((kindsOf ks).map okNum) found.length = .error e) : lapsR ws w ks (f + 1) found = .error e := by
  show (match runW ws ((kindsOf ks).map okNum) found.length with
    | .error e => Except.error e
    | .ok r => if again ws w ks (found ++ r).length = true then lapsR ws w ks f (found ++ r) else .ok (found ++ r)) = _
  rw [h]
theorem lapsR_ok {ws : List Str} {w ks : Str} {f : Nat} {found r : List V} (h : runW ws ((kindsOf ks).map okNum) found.length = .ok r) : lapsR ws w ks (f + 1) found = if again ws w ks (found ++ r).length = true then lapsR ws w ks f (found ++ r) else .ok (found ++ r) := by
  show (match runW ws ((kindsOf ks).map okNum) found.length with
    | .error e => Except.error e
    | .ok r => if again ws w ks (found ++ r).length = true then lapsR ws w ks f (found ++ r) else .ok (found ++ r)) = _
  rw [h]
section
variable {P : Program} {w : World} {K : PySem.W.Frag} {mg : Str → Option Value} {base : Heap}
theorem sc_task : FnScope nTake ["scan"] (defScope (top 37)) := ⟨rfl, rfl, rfl, by decide +kernel, rfl, by decide +kernel, by decide +kernel⟩
theorem ok_task (T : Tx w K mg) : Cal Pr w K mg base (L2.CX Pr w) 7 (He.ga K "take_ask") ["scan"] (spTakeAsk K) := by
  obtain ⟨fd, F⟩ := T.fd 19 _ rfl
  have F : FnP K "take_ask" "take_ask" (top 37) (He.ga K "take_ask") fd := F
  obtain ⟨G1, k1⟩ := ok_take (base := base) T
  obtain ⟨fd2, G2, k2, b2⟩ := ok_tname (base := base) T
  obtain ⟨fd3, G3, k3, b3⟩ := ok_tnum (base := base) T
  obtain ⟨fd4, G4, k4, b4⟩ := ok_over (P := Pr) (base := base) T
  obtain ⟨es, en, D, hk⟩ := T.kd
  obtain ⟨tD, eD⟩ := T.s_DAYS
  obtain ⟨tM, eM⟩ := T.i_MOST_DAYS
  have hz : es.size ≤ sizeLine := by
    have z := hk.length
    rw [List.length_map, List.length_map] at z
    have z2 : es.size = keys.length := by rw [z, Array.length_toList]
    rw [z2]
    decide
  refine ⟨fd, F.ok sc_task (fun vs H Q E h => ?_) (fun cdv A outer s H vs Q E hr h => ?_), F.kp, F.bindsN fun _ _ _ _ _ _ us hl => match us, hl with | [_], _ => rfl⟩
  · obtain ⟨a, dx, wl, ws, l, rfl, _⟩ := h
    rfl
  · have tk := takes_of (X := cxOf (L2.CX Pr w) Pr w K mg base nTake "take_ask" (defScope (top 37)) (He.ga K "take_ask") cdv A outer s H E) rfl rfl rfl rfl
    refine ⟨_, pss_cons (ps_set (i := 1) sc_task.nd rfl (Or.inl rfl) (pe_methSK rfl (pv 0) T.c_Scan T.b_take D hk hz G1 (hr.mono (by decide)) (passes_call tk fun _ _ _ _ h => h) (pe_glob (v := .ref (He.ga K "SHAPES")) rfl T.g_SHAPES rfl)))
      (pss_cons (ps_asg (pe_ix ix_kdict (pe_glob (v := .ref (He.ga K "SHAPES")) rfl T.g_SHAPES rfl) (pv 1) (fun _ _ => rfl)) (pg_tup rfl (pgs_cons (pg_name (i := 2) sc_task.nd rfl (.inl rfl)) (pgs_cons (pg_name (i := 3) sc_task.nd rfl (.inl rfl)) pgs_nil))))
      (pss_cons (ps_set (i := 4) sc_task.nd rfl (Or.inl rfl) (pe_lst (pa_cons (pv 1) (StX.pa_star (pe_lcX (own := [("_", 6)]) (g := gName 6) rfl rfl tk (fun _ _ _ _ h => h) rfl sc_task.nd (pi_range1 rfl T.f_range (pa_cons (pv 2) pa_nil))
          (blkOk_by (own := [("_", 6)]) (N := nTake) (sc := defScope (top 37)) (by decide +kernel)) (fun _ _ _ _ _ => pg_name (i := 6) sc_task.nd rfl (Or.inl rfl)) (fun _ _ _ _ _ => pts_nil)
          (fun _ _ _ _ _ xe px => pe_call G2 hr rfl T.g_take_name k2 b2 .nil px (pa_cons (pv 0) pa_nil))) pa_nil))))
      (pss_cons (ps_set (i := 5) sc_task.nd rfl (Or.inl rfl) pe_int)
      (pss_cons (ps_while (passes_of rfl) (pt_cmpR op_gt (pv 5) pe_int (nomark _))
        (pss_cons (ps_expr (pe_bm PySem.F.plainAttrs_list PySem.F.slot_list_extend PySem.F.type_list_extend mt_extend (pv 4) (pa_cons (pe_lcX (own := [("kind", 7)]) (g := gName 7) rfl rfl tk (fun _ _ _ _ h => h) rfl sc_task.nd (pi_str (pv 3))
            (blkOk_by (own := [("kind", 7)]) (N := nTake) (sc := defScope (top 37)) (by decide +kernel)) (fun _ _ _ _ _ => pg_name (i := 7) sc_task.nd rfl (Or.inl rfl)) (fun _ _ _ _ _ => pts_nil)
            (fun _ _ _ _ _ xe px => pe_call G3 hr rfl T.g_take_number k3 b3 .nil px (pa_cons (pv 0) (pa_cons (pv 7) pa_nil)))) pa_nil)))
        (pss_one (ps_set (i := 5) sc_task.nd rfl (Or.inl rfl) (peImp (t' := tAgain K) (pe_ifExp (PW.pt (pw_and (pt_cmpR op_eq (pv 1) (pe_glob (v := .str "days") rfl eD ⟨_, rfl⟩) (nomark _)) (pw_and (pt_not (pt_val (pe_meth0 (pv 0) T.c_Scan T.m_is_over G4 (hr.mono (by decide)) b4 .nil pass0)))
          (pw_and1 (pt_cmpR op_lt (pe_callB call_len_seq rfl T.f_len boot_len (pa_cons (pv 4) pa_nil)) (pe_op op_add pe_int (pe_op op_mul (pe_glob (v := .int 12) rfl eM ⟨_, rfl⟩) (pe_callB call_len rfl T.f_len boot_len (pa_cons (pv 3) pa_nil)))) (nomark _)))))) pe_int pe_int) ?ag)))))
      (pss_one (ps_ret (pe_tupleOf rfl T.f_tuple (pv 4)))))))), ?_⟩
    case ag =>
      rintro σ H Q ⟨a, dx, wl, ws, l, i, w', n, ks, fl, found, lp, s6, s7, rfl, hs, hi, hf, hks, q⟩
      have un : again ws w' ks found.length = ((decide (w' = daysW) && !decide (found.length = ws.length)) && decide (found.length < 2 + 12 * ks.length)) := rfl
      refine ⟨_, rfl, rfl, _, rfl, ?_⟩
      by_cases h1 : w' = daysW
      · refine ifT (eqS.trans (decide_eq_true h1)) ?_
        refine ⟨_, rfl, a, dx, _, rfl, hs.1, rfl, ?_⟩
        refine ⟨a, dx, wl, ws, l, i, rfl, hs, _, rfl, ?_⟩
        rw [decide_eq_true h1, Bool.true_and] at un
        by_cases h2 : i = ws.length
        · refine ifF (by rw [decide_eq_true h2]; rfl) ?_
          refine ifF rfl ?_
          rw [decide_eq_true (hi ▸ h2), Bool.not_true, Bool.false_and] at un
          rw [un] at q
          exact q
        · refine ifT (by rw [decide_eq_false h2]; rfl) ?_
          rw [decide_eq_false (hi ▸ h2), Bool.not_false, Bool.true_and] at un
          refine ⟨_, rfl, fl, found, rfl, .inl (SqL.of hf), _, rfl, .str ks, _, rfl, ⟨Nat.le_trans hks (by decide), rfl⟩, _, _, rfl, rfl, .inl ⟨by decide, by decide⟩, _, _, rfl, rfl, _, _, rfl, rfl, _, rfl, ?_⟩
          by_cases h3 : found.length < 2 + 12 * ks.length
          · refine ifT (decide_eq_true (by omega)) ?_
            rw [decide_eq_true h3] at un
            rw [un] at q
            exact q
          · refine ifF (decide_eq_false (by omega)) ?_
            rw [decide_eq_false h3] at un
            rw [un] at q
            exact q
      · refine ifF (eqS.trans (decide_eq_false h1)) ?_
        refine ifF rfl ?_
        rw [decide_eq_false h1, Bool.false_and, Bool.false_and] at un
        rw [un] at q
        exact q
    obtain ⟨a, dx, wl, ws, l, rfl, hs, hw, q1, q2⟩ := h
    refine ⟨_, rfl, a, dx, _, rfl, hs.1, rfl, fun q hq => ?_⟩
    have smq := same_new (o := .met (mS K "take") a) hq
    refine ⟨rfl, upd_same, a, dx, wl, ws, l, 0, keys, rfl, hs.same smq, Nat.zero_le _, by decide, fun w' H1 hw' hm sb sc => ?_, fun hno d H2 sb hd => q2 0 ?_ d H2 ((SB.of_same smq).trans sb) hd⟩
    rotate_left
    · unfold takeR
      cases hw0 : ws[0]? with
      | none => rfl
      | some w' =>
        dsimp only
        rw [shape_none (hno w' hw0)]
    have sb1 : SB a H H1 := (SB.of_same smq).trans sb
    have hl1 : 1 ≤ ws.length := (List.getElem?_eq_some_iff.mp hw').1
    obtain ⟨n, ks, hsh⟩ := shape_some hm
    obtain ⟨hns, hsq⟩ := shape_at T hsh
    obtain ⟨bn, bk, bd⟩ := shape_bounds hsh
    have tR : takeR ws = match runW ws (List.replicate n okName) 1 with
        | .error e => .error e
        | .ok names => lapsR ws w' ks 13 (.str w' :: names) := by
      unfold takeR
      rw [hw']
      dsimp only
      rw [hsh] <;> rfl
    -- names, kinds
    refine ⟨_, rfl, He.ga K "SHAPES", w', .ref (shAd K w'), rfl, rfl, ⟨es, _, _, D.at_, D.lit, hns, rfl⟩, ?_⟩
    refine ⟨shAd K w', _, rfl, hsq H1, rfl, _, _, rfl, _, _, rfl, rfl, ?_⟩
    refine ⟨_, rfl, _, rfl, (n : Int), rfl, by omega, by omega, fun D0 hD0 => ?_⟩
    have nDa : a ≠ D0 := ne_of_none sc.1 hD0
    have nDw : wl ≠ D0 := ne_of_none sc.2 hD0
    refine lc_range (lo := 0) (n := n) (fun j H' => ∃ acc, H' D0 = some (.lst acc) ∧ acc.length = j ∧ SB a H1 H' ∧ Sc K H' a dx wl ws l (1 + j) ∧ 1 + j ≤ ws.length ∧ runW ws (List.replicate n okName) 1 = pre acc (runW ws (List.replicate (n - j) okName) (1 + j)))
      ⟨[], upd_same, rfl, SB.of_same (same_new hD0), sc.upd nDa nDw, by omega, (pre_nil _).symm⟩ ?_ ?_
    · rintro j H' hj ⟨acc, hacc, hla, sbj, scj, hle, hrun⟩
      have er : List.replicate (n - j) okName = okName :: List.replicate (n - (j + 1)) okName := by
        rw [← List.replicate_succ]
        exact congrArg (fun m => List.replicate m okName) (by omega)
      rw [er] at hrun
      refine ⟨rfl, _, rfl, a, dx, wl, ws, l, 1 + j, rfl, scj, hle, hw, fun w2 v H2 hw2 hp2 sb2 sc2 => ?_, fun hno d H2 sb2 hd => q2 (1 + j) ?_ d H2 ((sb1.trans sbj).trans sb2) hd⟩
      · have hlt := (List.getElem?_eq_some_iff.mp hw2).1
        refine ⟨acc, sb2 _ _ nDa.symm hacc, by rw [hla]; exact lin (by omega), acc ++ [v], upd_same, by rw [List.length_append, hla]; rfl, fun b o hb e => ?_, sc2.upd nDa nDw, by omega, ?_⟩
        · rw [upd_ne (ne_of_none e hD0)]
          exact sb2 _ _ hb (sbj _ _ hb e)
        · rw [hrun, pre_step hw2 hp2]
          rfl
      · rw [tR, hrun, pre_stop hno]
    · rintro H2 ⟨acc, hacc, hla, sbj, scj, hle, hrun⟩
      have sbj0 := sbj
      rw [Nat.sub_self] at hrun
      have hrun2 : runW ws (List.replicate n okName) 1 = .ok acc := by
        rw [hrun]
        show Except.ok (acc ++ []) = _
        rw [List.append_nil]
      have tR2 : takeR ws = lapsR ws w' ks 13 (.str w' :: acc) := by rw [tR, hrun2]
      refine ⟨D0, acc, rfl, .inr (SqL.of hacc), ?_⟩
      show (V.str w' :: (acc ++ [])).length ≤ sizeLine ∧ _
      rw [List.append_nil]
      refine ⟨by rw [List.length_cons, hla]; exact Nat.le_of_lt (lin (by omega)), fun fl hfl => ?_⟩
      have nfa : a ≠ fl := ne_of_none scj.1 hfl
      have nfw : wl ≠ fl := ne_of_none scj.2 hfl
      have lf : (V.str w' :: acc).length = 1 + n := by rw [List.length_cons, hla]; omega
      refine while_by (fun σ H3 => ∃ found, H3 fl = some (.lst found) ∧ SB a H1 H3 ∧ Sc K H3 a dx wl ws l found.length ∧ found.length ≤ ws.length ∧
          ((σ = [some (.ref a), some (.str w'), some (.int (n : Int)), some (.str ks), some (.ref fl), some (.int 1), none, none] ∧ ∃ f, 1 ≤ f ∧ (w' = daysW → 54 ≤ found.length + 4 * f ∧ found.length < 50) ∧ found.length ≤ 60 ∧ takeR ws = lapsR ws w' ks f found) ∨
           (σ = [some (.ref a), some (.str w'), some (.int (n : Int)), some (.str ks), some (.ref fl), some (.int 0), none, none] ∧ takeR ws = .ok found)))
        (fun σ H3 => if σ[5]? = some (some (.int 0)) then 0 else 1001 - lenAt H3 fl) ?_ ?_ ?_
      · refine ⟨.str w' :: acc, upd_same, fun b o hb e => ?_, ?_, by rw [lf]; exact hle, .inl ⟨rfl, 13, by decide, fun e => ⟨?_, ?_⟩, by omega, tR2⟩⟩
        · have h1 := sbj _ _ hb e
          rw [upd_ne (ne_of_none h1 hfl)]
          exact h1
        · rw [lf]
          exact scj.upd nfa nfw
        · have : n ≤ 2 := bn
          have hn1 : 1 ≤ n := by
            have all : ∀ q ∈ shapes, 1 ≤ q.2.1 := by decide +kernel
            exact all _ (lookup_mem' hsh)
          omega
        · omega
      · rintro σ H3 ⟨found, hf, sb3, sc3, hle3, ⟨rfl, f, hf1, hdays, hf60, htk⟩ | ⟨rfl, htk⟩⟩
        · refine ⟨_, rfl, _, _, rfl, rfl, _, rfl, ifT (by decide) ?_⟩
          refine ⟨_, rfl, .inl ⟨rfl, _, SqL.of hf⟩, _, rfl, ks, rfl, fun D1 hD1 => ?_⟩
          have n1a : a ≠ D1 := ne_of_none sc3.1 hD1
          have n1w : wl ≠ D1 := ne_of_none sc3.2 hD1
          obtain ⟨f', rfl⟩ : ∃ f', f = f' + 1 := ⟨f - 1, by omega⟩
          have hkl : ((kindsOf ks).map okNum).length = ks.length := by
            rw [List.length_map, kinds_len]
          refine lc_str (fun j H' => ∃ acc, H' D1 = some (.lst acc) ∧ acc.length = j ∧ SB a H3 H' ∧ Sc K H' a dx wl ws l (found.length + j) ∧ found.length + j ≤ ws.length ∧ runW ws ((kindsOf ks).map okNum) found.length = pre acc (runW ws (((kindsOf ks).map okNum).drop j) (found.length + j)))
            ⟨[], upd_same, rfl, SB.of_same (same_new hD1), sc3.upd n1a n1w, hle3, (pre_nil _).symm⟩ ?_ ?_
          · rintro j c H' hc ⟨acc, hacc, hla, sbj, scj, hle, hrun⟩
            have ek : ((kindsOf ks).map okNum)[j]? = some (okNum (sg c)) := by
              unfold kindsOf
              rw [List.getElem?_map, List.getElem?_map, get_toList hc]
              rfl
            rw [drop_get ek] at hrun
            have hjk : j < ks.length := by
              obtain ⟨hj, _⟩ := Array.getElem?_eq_some_iff.mp hc
              exact hj
            refine ⟨rfl, _, rfl, _, rfl, a, dx, wl, ws, l, found.length + j, sg c, rfl, scj, hle, hw, fun w2 v H2 hw2 hp2 sb2 sc2 => ?_, fun hno d H2 sb2 hd => q2 (found.length + j) ?_ d H2 (((sb1.trans sb3).trans sbj).trans sb2) hd⟩
            · have hlt := (List.getElem?_eq_some_iff.mp hw2).1
              refine ⟨acc, sb2 _ _ n1a.symm hacc, by rw [hla]; exact lin (by omega), acc ++ [v], upd_same, by rw [List.length_append, hla]; rfl, fun b o hb e => ?_, sc2.upd n1a n1w, by omega, ?_⟩
              · rw [upd_ne (ne_of_none e hD1)]
                exact sb2 _ _ hb (sbj _ _ hb e)
              · rw [hrun, pre_step hw2 hp2]
                rfl
            · rw [htk]
              exact lapsR_err (by rw [hrun, pre_stop hno])
          · rintro H4 ⟨acc, hacc, hla, sbj, scj, hle, hrun⟩
            have hla2 : acc.length = ks.length := hla
            have hrun2 : runW ws ((kindsOf ks).map okNum) found.length = .ok acc := by
              rw [hrun, List.drop_of_length_le (by rw [hkl]; exact Nat.le_refl _)]
              show Except.ok (acc ++ []) = _
              rw [List.append_nil]
            have hlap := lapsR_ok (w := w') (f := f') hrun2
            have hf4 := sbj _ _ nfa.symm hf
            refine ⟨fl, D1, found, acc, rfl, rfl, hf4, hacc, by rw [hla2]; exact Nat.le_of_lt (lin (by omega)), ?_⟩
            have llen : (found ++ acc).length = found.length + ks.length := by rw [List.length_append, hla2]
            refine ⟨a, dx, wl, ws, l, found.length + ks.length, w', _, ks, fl, found ++ acc, _, _, _, rfl, scj.upd nfa nfw, llen.symm, upd_same, bk, ?_⟩
            have sb4 : SB a H1 (upd H4 fl (.lst (found ++ acc))) := fun b o hb e => by
              by_cases hbf : b = fl
              · subst hbf
                exact absurd e (fun z => by
                  have z1 := sbj0 _ _ hb e
                  rw [hfl] at z1
                  cases z1)
              · rw [upd_ne hbf]
                exact sbj _ _ hb (sb3 _ _ hb e)
            have m3 : lenAt H3 fl = found.length := by unfold lenAt; rw [hf]
            have m4 : lenAt (upd H4 fl (.lst (found ++ acc))) fl = found.length + ks.length := by unfold lenAt; rw [upd_same]; exact llen
            have sc4 : Sc K (upd H4 fl (.lst (found ++ acc))) a dx wl ws l (found ++ acc).length := by rw [llen]; exact scj.upd nfa nfw
            by_cases hag : again ws w' ks (found ++ acc).length = true
            · have e1 : (if again ws w' ks (found ++ acc).length = true then (1 : Int) else 0) = 1 := if_pos hag
              rw [e1]
              obtain ⟨ag1, ag2⟩ := Bool.and_eq_true_iff.mp (show ((decide (w' = daysW) && !decide ((found ++ acc).length = ws.length)) && decide ((found ++ acc).length < 2 + 12 * ks.length)) = true from hag)
              have hw3 : w' = daysW := of_decide_eq_true (Bool.and_eq_true_iff.mp ag1).1
              have ag2 := of_decide_eq_true ag2
              have k4 := bd hw3
              obtain ⟨d1, d2⟩ := hdays hw3
              refine ⟨⟨found ++ acc, upd_same, sb4, sc4, by rw [llen]; exact hle, .inl ⟨rfl, f', by omega, fun _ => ⟨by omega, by omega⟩, by omega, ?_⟩⟩, ?_⟩
              · rw [htk, hlap, if_pos hag]
              · show (if some (some (V.int 1)) = some (some (V.int 0)) then 0 else 1001 - lenAt (upd H4 fl (.lst (found ++ acc))) fl) < (if some (some (V.int 1)) = some (some (V.int 0)) then 0 else 1001 - lenAt H3 fl)
                rw [if_neg (by intro z; injection z with z; injection z with z; injection z with z; omega), if_neg (by intro z; injection z with z; injection z with z; injection z with z; omega), m3, m4]
                omega
            · have e0 : (if again ws w' ks (found ++ acc).length = true then (1 : Int) else 0) = 0 := if_neg hag
              rw [e0]
              refine ⟨⟨found ++ acc, upd_same, sb4, sc4, by rw [llen]; exact hle, .inr ⟨rfl, ?_⟩⟩, ?_⟩
              · rw [htk, hlap, if_neg hag]
              · show (if some (some (V.int 0)) = some (some (V.int 0)) then 0 else 1001 - lenAt (upd H4 fl (.lst (found ++ acc))) fl) < (if some (some (V.int 1)) = some (some (V.int 0)) then 0 else 1001 - lenAt H3 fl)
                rw [if_pos rfl, if_neg (by intro z; injection z with z; injection z with z; injection z with z; omega), m3]
                omega
        · refine ⟨_, rfl, _, _, rfl, rfl, _, rfl, ifF (by decide) ?_⟩
          refine ⟨_, rfl, .inl ⟨fl, found, rfl, SqL.of hf, fun p hp => ?_⟩⟩
          exact q1 found htk p _ (fun b o hb e => by
            have z := sb3 _ _ hb (sb1 _ _ hb e)
            rw [upd_ne (ne_of_none z hp)]
            exact z) upd_same (sc3.upd (ne_of_none sc3.1 hp) (ne_of_none sc3.2 hp))
      · intro σ H Q Q' hQ hh
        obtain ⟨v, h1, i, j, e1, e2, k, e3, q⟩ := hh
        exact ⟨v, h1, i, j, e1, e2, k, e3, hQ _ _ q⟩
end
end K88
end

section
set_option Elab.async false
set_option linter.all false
set_option maxRecDepth 100000
set_option maxHeartbeats 4000000
namespace K88
open PySem PySem.Spec PyProof.Rows L2
def wordy : V → Prop
  | .non => True
  | .int i => i.natAbs.log2 < 1920
  | .str _ => True
  | _ => False
def spWords (K : PySem.W.Frag) : Sp := fun vs H Q _ => ∃ a xs, vs = [.ref a] ∧ H a = some (.tup xs) ∧ (∀ v ∈ xs, wordy v) ∧ xs.length ≤ 1000 ∧ ∀ H' p, Same H H' → H' p = some (.lst ((xs.map wordV).map V.str)) → Q (.ref p) H'
/-- a list or a tuple that may be asked whether it is an ask -/
def SeqArg (H : Hp) (v : V) (xs : List V) : Prop := ∃ a, v = .ref a ∧ (H a = some (.lst xs) ∨ H a = some (.tup xs)) ∧ flats xs ∧ xs.length ≤ 1000 ∧ ∀ z r, xs = .str z :: r → (shapeOf z).isSome = true ∨ z = "ring"
/-- what is no ask -/
def BadArg (H : Hp) (v : V) : Prop := flat v = true ∨ ∃ xs, SeqArg H v xs ∧ isAsk xs = false
abbrev BadAsk (K : PySem.W.Frag) (H : Hp) (E : XK) : Prop := ErrS K "BadPaper" [("part", .str "ask")] H E
def spNeed (K : PySem.W.Frag) : Sp := fun vs H Q E => ∃ v, vs = [v] ∧ ((BadArg H v ∧ BadAsk K H E) ∨ ∃ xs, SeqArg H v xs ∧ isAsk xs = true ∧ ∀ p H', Same H H' → H' p = some (.tup xs) → Q (.ref p) H')
def joinOk (xs : List V) : Prop := (((xs.map wordV).map (·.length)).sum + (xs.map wordV).length * spc.length ≤ 16777216) ∧ ∀ v ∈ xs, wordy v
def spText (K : PySem.W.Frag) : Sp := fun vs H Q E => ∃ v, vs = [v] ∧ ((BadArg H v ∧ BadAsk K H E) ∨ ∃ xs, SeqArg H v xs ∧ isAsk xs = true ∧ joinOk xs ∧ ∀ H', Same H H' → Q (.str (textOf xs)) H')
def spRead (K : PySem.W.Frag) : Sp := fun vs H Q E => ∃ v, vs = [v] ∧ ((NoStr H v ∧ BadTextS K 0 0 H E) ∨ ∃ z t r, v = .str z ∧ z.length ≤ 1000000 ∧ Txt.split z nl = t :: r ∧ t.length ≤ 1000000 ∧ short (Txt.split t spc) ∧
  (∀ xs, parse (Txt.split t spc) = .ok xs → (10 ∉ z.cps.toList → ∀ p H', Same H H' → H' p = some (.tup xs) → Q (.ref p) H') ∧ (10 ∈ z.cps.toList → BadTextS K 1 0 H E)) ∧
  (∀ e : Nat, parse (Txt.split t spc) = .error e → BadTextS K 0 (e : Int) H E))
section
variable {P : Program} {w : World} {K : PySem.W.Frag} {mg : Str → Option Value} {base : Heap}
theorem sc_words : FnScope ["ask", "part"] ["ask"] (defScope (top 38)) := ⟨rfl, rfl, rfl, by decide +kernel, rfl, by decide +kernel, by decide +kernel⟩
theorem ok_words (T : Tx w K mg) : Cal P w K mg base CX0 1 (He.ga K "words_of_ask") ["ask"] (spWords K) := by
  obtain ⟨fd, F⟩ := T.fd 20 _ rfl
  have F : FnP K "words_of_ask" "words_of_ask" (top 38) (He.ga K "words_of_ask") fd := F
  obtain ⟨tN, eN⟩ := T.s_NONE
  refine ⟨fd, F.ok sc_words (fun vs H Q E h => ?_) (fun cdv A outer s H vs Q E hr h => ?_), F.kp, F.bindsN fun _ _ _ _ _ _ us hl => match us, hl with | [_], _ => rfl⟩
  · obtain ⟨a, xs, rfl, _⟩ := h
    rfl
  · refine ⟨_, PSs.nox (pss_one (ps_ret (pe_lc (own := [("part", 1)]) (g := gName 1) rfl sc_words.nd (pi_tup (pv 0)) (blkOk_by (own := [("part", 1)]) (N := ["ask", "part"]) (sc := defScope (top 38)) (by decide +kernel))
          (fun _ _ _ _ _ => pg_name (i := 1) sc_words.nd rfl (Or.inl rfl)) (fun _ _ _ _ _ => pts_nil) (fun _ _ _ _ _ => pe_ifExp (pt_cmpR op_isN (pv 1) pe_non (nomark _)) (pe_glob (v := .str "-") rfl eN ⟨_, rfl⟩) (pe_callTy call_str_any rfl T.f_str (by decide +kernel) (pa_cons (pv 1) pa_nil)))))), ?_⟩
    obtain ⟨a, xs, rfl, ha, hwd, hlen, q⟩ := h
    refine ⟨_, rfl, a, rfl, ⟨xs, SqT.of ha⟩, fun D hD => lc_tup (K := K) (a := a) (xs := xs) (fun i H' => Same H H' ∧ H' D = some (.lst (((xs.map wordV).map V.str).take i))) ⟨same_new hD, upd_same⟩ (fun i H' _ ⟨sm, _⟩ => SqT.of (sm _ _ ha)) (fun i x H' hi ⟨sm, hd⟩ => ?_) (fun H' ⟨sm, hd⟩ => ?_)⟩
    · have fin : ∃ acc, H' D = some (.lst acc) ∧ acc.length < sizeLine ∧ (Same H (upd H' D (.lst (acc ++ [.str (wordV x)]))) ∧ (upd H' D (.lst (acc ++ [.str (wordV x)]))) D = some (.lst (((xs.map wordV).map V.str).take (i + 1)))) := by
        refine ⟨_, hd, ?_, fun b o e => ?_, ?_⟩
        · rw [List.length_take, List.length_map, List.length_map]
          exact lin (Nat.le_trans (Nat.min_le_right _ _) hlen)
        · rw [upd_ne (ne_of_none e hD)]
          exact sm _ _ e
        · rw [upd_same]
          have h1 : (xs.map wordV)[i]? = some (wordV x) := by rw [List.getElem?_map, hi]; rfl
          rw [take_map h1]
      have hx := hwd x (List.mem_of_getElem? hi)
      refine ⟨rfl, _, rfl, rfl, _, rfl, ?_⟩
      cases x with
      | non => exact ifT rfl fin
      | int i => exact ifF rfl ⟨_, rfl, .inl ⟨i, rfl, hx, fin⟩⟩
      | str z => exact ifF rfl ⟨_, rfl, .inr ⟨z, rfl, fin⟩⟩
      | _ => exact False.elim hx
    · refine q H' D sm ?_
      rw [hd]
      have e : xs.length = ((xs.map wordV).map V.str).length := by rw [List.length_map, List.length_map]
      rw [e, List.take_length]
theorem sc_need : FnScope ["value"] ["value"] (defScope (top 39)) := ⟨rfl, rfl, rfl, by decide +kernel, rfl, by decide +kernel, by decide +kernel⟩
theorem ok_need (T : Tx w K mg) : Cal Pr w K mg base (L2.CX Pr w) 5 (He.ga K "need_ask") ["value"] (spNeed K) := by
  obtain ⟨fd, F⟩ := T.fd 21 _ rfl
  have F : FnP K "need_ask" "need_ask" (top 39) (He.ga K "need_ask") fd := F
  obtain ⟨fd1, G1, k1, b1⟩ := ok_ask (P := Pr) (base := base) T
  refine ⟨fd, F.ok sc_need (fun vs H Q E h => ?_) (fun cdv A outer s H vs Q E hr h => ?_), F.kp, F.bindsN fun _ _ _ _ _ _ us hl => match us, hl with | [_], _ => rfl⟩
  · obtain ⟨v, rfl, _⟩ := h
    rfl
  · refine ⟨_, pss_cons (ps_if (pt_not (pt_val (pe_call G1 hr rfl T.g_is_ask k1 b1 .nil pass0 (pa_cons (pv 0) pa_nil))))
        (pss_one (ps_raise rfl (takes_of rfl rfl rfl rfl) (pmk_err T.e_BadPaper (fun M => inits_BadPaper T M) (by decide) hr T.g_BadPaper (pa_cons pe_str pa_nil)))) pss_nil)
      (pss_one (ps_ret (pe_tupleOf rfl T.f_tuple (pv 0)))), ?_⟩
    obtain ⟨v, rfl, h⟩ := h
    rcases h with ⟨hb, q⟩ | ⟨xs, ⟨a, rfl, ha, hfl, hlen, hk⟩, his, q⟩
    · have arg : (flat v = true ∧ false = false) ∨ ∃ a xs, v = .ref a ∧ (H a = some (.lst xs) ∨ H a = some (.tup xs)) ∧ flats xs ∧ xs.length ≤ 1000 ∧ (∀ z r, xs = .str z :: r → (shapeOf z).isSome = true ∨ z = "ring") ∧ false = isAsk xs := by
        rcases hb with h | ⟨xs, ⟨a, e, ha, hfl, hlen, hk⟩, his⟩
        · exact .inl ⟨h, rfl⟩
        · exact .inr ⟨a, xs, e, ha, hfl, hlen, hk, his.symm⟩
      refine ⟨_, rfl, v, false, rfl, arg, fun H1 sm => ⟨_, rfl, ifT rfl ?_⟩⟩
      exact ⟨rfl, fun d hd => q d _ (sm.trans (same_new hd)) upd_same⟩
    · refine ⟨_, rfl, .ref a, true, rfl, .inr ⟨a, xs, rfl, ha, hfl, hlen, hk, his.symm⟩, fun H1 sm => ⟨_, rfl, ifF rfl ?_⟩⟩
      refine ⟨_, rfl, ?_⟩
      rcases ha with ha | ha
      · exact .inl ⟨a, xs, rfl, SqL.of (sm _ _ ha), fun p hp => q p _ (sm.trans (same_new hp)) upd_same⟩
      · exact .inr ⟨a, xs, rfl, SqT.of (sm _ _ ha), q a _ sm (sm _ _ ha)⟩
theorem sc_text : FnScope ["ask"] ["ask"] (defScope (top 40)) := ⟨rfl, rfl, rfl, by decide +kernel, rfl, by decide +kernel, by decide +kernel⟩
theorem ok_textF (T : Tx w K mg) : ∃ fd, FnP K "ask_text" "ask_text" (top 40) (He.ga K "ask_text") fd ∧ FnOk Pr w K mg base (L2.CX Pr w) 6 (He.ga K "ask_text") fd ["ask"] (spText K) ∧ PySem.W.keepIn K (.ref (He.ga K "ask_text")) = true ∧ Binds K fd ["ask"] [] := by
  obtain ⟨fd, F⟩ := T.fd 22 _ rfl
  have F : FnP K "ask_text" "ask_text" (top 40) (He.ga K "ask_text") fd := F
  obtain ⟨fd1, G1, k1, b1⟩ := ok_words (P := Pr) (base := base) T
  obtain ⟨fd2, G2, k2, b2⟩ := ok_need (base := base) T
  refine ⟨fd, F, F.ok sc_text (fun vs H Q E h => ?_) (fun cdv A outer s H vs Q E hr h => ?_), F.kp, F.bindsN fun _ _ _ _ _ _ us hl => match us, hl with | [_], _ => rfl⟩
  · obtain ⟨v, rfl, _⟩ := h
    rfl
  · have tk := takes_of (X := cxOf (L2.CX Pr w) Pr w K mg base ["ask"] "ask_text" (defScope (top 40)) (He.ga K "ask_text") cdv A outer s H E) rfl rfl rfl rfl
    refine ⟨_, pss_one (ps_ret (pe_join pe_str (pe_call G1 (hr.mono (by decide)) rfl T.g_words_of_ask k1 b1 .nil pass0 (pa_cons (pe_call G2 hr rfl T.g_need_ask k2 b2 .nil (passes_call tk fun _ _ _ _ h => h) (pa_cons (pv 0) pa_nil)) pa_nil)))), ?_⟩
    obtain ⟨v, rfl, h⟩ := h
    refine ⟨⟨_, rfl⟩, ?_⟩
    rcases h with ⟨hb, q⟩ | ⟨xs, hs, his, ⟨hj, hwd⟩, q⟩
    · exact ⟨_, rfl, v, rfl, .inl ⟨hb, q⟩⟩
    · have hlen : xs.length ≤ 1000 := by obtain ⟨a, _, _, _, h, _⟩ := hs; exact h
      refine ⟨_, rfl, v, rfl, .inr ⟨xs, hs, his, fun p H1 sm hp => ?_⟩⟩
      refine ⟨p, xs, rfl, hp, hwd, hlen, fun H2 l sm2 hl => ?_⟩
      exact ⟨spc, l, xs.map wordV, rfl, rfl, .inl (SqL.of hl), hj, q H2 (sm.trans sm2)⟩
theorem sc_read : FnScope ["text", "scan", "found"] ["text"] (defScope (top 41)) := ⟨rfl, rfl, rfl, by decide +kernel, rfl, by decide +kernel, by decide +kernel⟩
theorem ok_readF (T : Tx w K mg) : ∃ fd, FnP K "read_ask" "read_ask" (top 41) (He.ga K "read_ask") fd ∧ FnOk Pr w K mg base (L2.CX Pr w) 8 (He.ga K "read_ask") fd ["text"] (spRead K) ∧ PySem.W.keepIn K (.ref (He.ga K "read_ask")) = true ∧ Binds K fd ["text"] [] := by
  obtain ⟨fd, F⟩ := T.fd 23 _ rfl
  have F : FnP K "read_ask" "read_ask" (top 41) (He.ga K "read_ask") fd := F
  obtain ⟨fd1, G1, k1, b1⟩ := ok_scanof (base := base) T
  obtain ⟨fd2, G2, k2, b2⟩ := ok_task (base := base) T
  obtain ⟨fd3, G3, k3, b3⟩ := ok_finish (base := base) T
  obtain ⟨fd4, G4, k4, b4⟩ := ok_one (base := base) T
  refine ⟨fd, F, F.ok sc_read (fun vs H Q E h => ?_) (fun cdv A outer s H vs Q E hr h => ?_), F.kp, F.bindsN fun _ _ _ _ _ _ us hl => match us, hl with | [_], _ => rfl⟩
  · obtain ⟨v, rfl, _⟩ := h
    rfl
  · have tk := takes_of (X := cxOf (L2.CX Pr w) Pr w K mg base ["text", "scan", "found"] "read_ask" (defScope (top 41)) (He.ga K "read_ask") cdv A outer s H E) rfl rfl rfl rfl
    refine ⟨_, pss_cons (ps_set (i := 1) sc_read.nd rfl (Or.inl rfl) (pe_call G1 (hr.mono (by decide)) rfl T.g_scan_of k1 b1 .nil (passes_call tk fun _ _ _ _ h => h) (pa_cons (pv 0) pa_nil)))
      (pss_cons (ps_set (i := 2) sc_read.nd rfl (Or.inl rfl) (pe_call G2 hr rfl T.g_take_ask k2 b2 .nil (passes_call tk fun _ _ _ _ h => h) (pa_cons (pv 1) pa_nil)))
      (pss_cons (ps_expr (pe_meth0 (pv 1) T.c_Scan T.m_finish G3 (hr.mono (by decide)) b3 .nil (passes_call tk fun _ _ _ _ h => h)))
      (pss_cons (ps_expr (pe_call G4 (hr.mono (by decide)) rfl T.g_need_one_line k4 b4 .nil (passes_call tk fun _ _ _ _ h => h) (pa_cons (pv 0) pa_nil)))
      (pss_one (ps_ret (pv 2)))))), ?_⟩
    obtain ⟨v, rfl, h⟩ := h
    rcases h with ⟨hn, q⟩ | ⟨z, t, r, rfl, hz, ht, htl, hw, q1, q2⟩
    · exact ⟨_, rfl, v, rfl, .inr ⟨hn, q⟩⟩
    · refine ⟨_, rfl, .str z, rfl, .inl ⟨z, t, r, rfl, hz, ht, htl, fun a dx wl H1 sm sc nH => ?_⟩⟩
      have same : ∀ {H'}, SB a H1 H' → Same H H' := fun sb b o e => sb b o (ne_of_none e nH) (sm _ _ e)
      have pe : ∀ {e : Nat}, takeR (Txt.split t spc) = .error e → parse (Txt.split t spc) = .error e := fun h => by
        unfold parse
        rw [h]
      refine ⟨_, rfl, a, dx, wl, _, 0, rfl, sc, hw, fun xs hx p H2 sb hp sc2 => ?_, fun e he d H2 sb hd => q2 e (pe he) d H2 (same sb) hd⟩
      refine ⟨_, rfl, a, dx, _, rfl, sc2.1, rfl, ?_⟩
      refine ⟨a, dx, wl, _, 0, xs.length, rfl, sc2, fun hl => ?_, fun hl d H3 sb3 hd => q2 xs.length ?_ d H3 (same (sb.trans sb3)) hd⟩
      · have hp1 : parse (Txt.split t spc) = .ok xs := by
          unfold parse
          rw [hx]
          dsimp only
          rw [if_pos hl]
        obtain ⟨a1, a2⟩ := q1 xs hp1
        refine ⟨_, rfl, z, rfl, fun h10 => ?_, fun h10 d H3 sm3 hd => a2 h10 d H3 ((same sb).trans sm3) hd⟩
        exact ⟨_, rfl, a1 h10 p H2 (same sb) hp⟩
      · unfold parse
        rw [hx]
        dsimp only
        rw [if_neg hl]
theorem ok_text (T : Tx w K mg) : Cal Pr w K mg base (L2.CX Pr w) 6 (He.ga K "ask_text") ["ask"] (spText K) := by
  obtain ⟨fd, _, h⟩ := ok_textF (base := base) T
  exact ⟨fd, h⟩
theorem ok_read (T : Tx w K mg) : Cal Pr w K mg base (L2.CX Pr w) 8 (He.ga K "read_ask") ["text"] (spRead K) := by
  obtain ⟨fd, _, h⟩ := ok_readF (base := base) T
  exact ⟨fd, h⟩
end
end K88
end

section
set_option Elab.async false
set_option linter.all false
set_option maxRecDepth 100000
set_option maxHeartbeats 4000000
namespace K88
open PySem PySem.Spec PyProof.Rows L2
/-- at p: a pen over the cells ns (at c) -/
def Pen (H : Hp) (p c : Addr) (ns : List Int) (at' : Nat) (rest : Int) : Prop := H p = some (.lst [.ref c, .int (at' : Int), .int rest]) ∧ H c = some (.lst (ns.map V.int)) ∧ c ≠ p ∧ ns.length ≤ 63
theorem Pen.same {H H' : Hp} {p c : Addr} {ns : List Int} {at' : Nat} {rest : Int} (h : Pen H p c ns at' rest) (s : Same H H') : Pen H' p c ns at' rest := ⟨s _ _ h.1, s _ _ h.2.1, h.2.2⟩
def spPen (K : PySem.W.Frag) : Sp := fun vs H Q _ => ∃ a ns, vs = [.ref a] ∧ SqL K H a (ns.map V.int) ∧ ns.length ≤ 63 ∧ ∀ H' p c, Same H H' → H p = none → Pen H' p c ns 0 0 → Q (.ref p) H'
/-- what a draw gives: a number below many (0 where there is one, or none) -/
def spDraw : Sp := fun vs H Q _ => ∃ p c ns at' rest many, vs = [.ref p, .int ((many : Nat) : Int)] ∧ Pen H p c ns at' rest ∧ many ≤ 1000 ∧ at' ≤ 100000 ∧
  ∀ (d at2 : Nat) rest2 H', (d < many ∨ d = 0) → SB p H H' → Pen H' p c ns at2 rest2 → at2 ≤ at' + 1 → Q (.int (d : Int)) H'
def spPick : Sp := fun vs H Q _ => ∃ p c ns at' rest s xs, vs = [.ref p, .ref s] ∧ Pen H p c ns at' rest ∧ H s = some (.lst xs) ∧ s ≠ p ∧ 1 ≤ xs.length ∧ xs.length ≤ 1000 ∧ at' ≤ 100000 ∧
  ∀ (x : V) (at2 : Nat) rest2 H', x ∈ xs → SB p H H' → Pen H' p c ns at2 rest2 → at2 ≤ at' + 1 → Q x H'
theorem psImp {X : Cx} {st : Stmt} {t t' : TS} (h : PS X st t) (hi : ∀ D σ H, t' D σ H → t D σ H) : PS X st t' := ⟨fun pins s σ H D I hw => h.run pins s σ H D I (hi D σ H hw)⟩
/-- if pen[0] != []: cell = .. -/
def tCellS : TS := fun D σ H => ∃ p c ns at' rest m d a k g x, σ = [some (.ref p), m, d, some (.int ((a : Nat) : Int)), some (.int k), g, x] ∧ Pen H p c ns at' rest ∧ ∀ (cell : Int) H', Same H H' → D.nx [some (.ref p), m, d, some (.int (a : Int)), some (.int cell), g, x] H'
def dat : V → PyData
  | .non => .none
  | .bl b => .bool b
  | .int i => .int i
  | .str z => .str z
  | _ => .none
def simple : V → Bool
  | .non => true
  | .bl _ => true
  | .int _ => true
  | .str z => PyData.strOk z
  | _ => false
theorem dp_simple {K : PySem.W.Frag} {H : Hp} {v : V} (h : simple v = true) : Dp K H v (dat v) := by
  cases v with
  | non => exact .non
  | bl b => exact .bl b
  | int i => exact .int i
  | str z => exact .str z
  | _ => cases h
theorem dpAll_simple {K : PySem.W.Frag} {H : Hp} : ∀ {xs : List V}, (∀ v ∈ xs, simple v = true) → DpAll K H xs (xs.map dat)
  | [], _ => .nil
  | v :: vs, h => .cons (dp_simple (h v List.mem_cons_self)) (dpAll_simple fun u hu => h u (List.mem_cons_of_mem _ hu))
theorem lay1 {v : V} (h : simple v = true) : PyData.canLay0 (dat v) = true := by
  cases v with
  | str z => exact h
  | non => rfl
  | bl b => rfl
  | int i => rfl
  | _ => cases h
theorem lay_simple : ∀ {xs : List V}, (∀ v ∈ xs, simple v = true) → PyData.canLayAll0 (xs.map dat) = true
  | [], _ => rfl
  | v :: vs, h => by
    show (PyData.canLay0 (dat v) && PyData.canLayAll0 (vs.map dat)) = true
    rw [lay1 (h v List.mem_cons_self), lay_simple fun u hu => h u (List.mem_cons_of_mem _ hu)] <;> rfl
theorem depth1 (v : V) : PyData.depth (dat v) = 0 := by
  cases v <;> simp [dat, PyData.depth]
theorem depth_simple : ∀ xs : List V, PyData.depthAll (xs.map dat) = 0
  | [] => by simp [PyData.depthAll]
  | v :: vs => by
    rw [List.map_cons]
    simp only [PyData.depthAll]
    rw [depth1, depth_simple vs] <;> rfl
theorem shaped_list {xs : List V} (h : ∀ v ∈ xs, simple v = true) : SeqAt.shaped (.list (xs.map dat)) = true := by
  unfold SeqAt.shaped
  have d1 : (PyData.list (xs.map dat)).canLay0 = true := lay_simple h
  rw [d1, Bool.true_and]
  refine decide_eq_true ?_
  simp only [PyData.depth]
  rw [depth_simple]
  decide
theorem shaped_tup {xs : List V} (h : ∀ v ∈ xs, simple v = true) : SeqAt.shaped (.tuple (xs.map dat)) = true := by
  unfold SeqAt.shaped
  have d1 : (PyData.tuple (xs.map dat)).canLay0 = true := lay_simple h
  rw [d1, Bool.true_and]
  refine decide_eq_true ?_
  simp only [PyData.depth]
  rw [depth_simple]
  decide
theorem simple_ints (ns : List Int) : ∀ v ∈ ns.map V.int, simple v = true := fun v hv => by
  obtain ⟨n, _, rfl⟩ := List.mem_map.mp hv
  rfl
theorem pow_ok1 {f a : Int} (h1 : 0 ≤ f) (h2 : f < 2147483549) (h3 : 0 ≤ a) (h4 : a ≤ 100000) : (f + 38117 * a + 11289).natAbs < 2 ^ 64 := by omega
theorem pow_ok2 {m a : Int} (h1 : 0 ≤ m) (h2 : m < 2147483629) (h3 : 0 ≤ a) (h4 : a ≤ 100000) : (m * (2 * a + 8037) + 74003 * a * a + 38117).natAbs < 2 ^ 64 := by
  have e1 : m * (2 * a + 8037) ≤ 2147483629 * 208037 := Int.mul_le_mul (by omega) (by omega) (by omega) (by decide)
  have e2 : 74003 * a * a ≤ (74003 * 100000) * 100000 := Int.mul_le_mul (by omega) h4 h3 (by decide)
  have e3 : 0 ≤ m * (2 * a + 8037) := Int.mul_nonneg h1 (by omega)
  have e4 : 0 ≤ 74003 * a * a := Int.mul_nonneg (by omega) h3
  omega
section
variable {P : Program} {w : World} {K : PySem.W.Frag} {mg : Str → Option Value} {base : Heap}
theorem sc_pen : FnScope ["script"] ["script"] (defScope (top 43)) := ⟨rfl, rfl, rfl, by decide +kernel, rfl, by decide +kernel, by decide +kernel⟩
theorem ok_pen (T : Tx w K mg) : Cal P w K mg base CX0 1 (He.ga K "_law_pen") ["script"] (spPen K) := by
  obtain ⟨fd, F⟩ := T.fd 24 _ rfl
  have F : FnP K "_law_pen" "_law_pen" (top 43) (He.ga K "_law_pen") fd := F
  refine ⟨fd, F.ok sc_pen (fun vs H Q E h => ?_) (fun cdv A outer s H vs Q E hr h => ?_), F.kp, F.bindsN fun _ _ _ _ _ _ us hl => match us, hl with | [_], _ => rfl⟩
  · obtain ⟨a, xs, rfl, _⟩ := h
    rfl
  · refine ⟨_, PSs.nox (pss_one (ps_ret (pe_lst (pa_cons (pe_callTy call_list_of rfl T.f_list (by decide +kernel) (pa_cons (pe_slice sl_list (pv 0) po_none (po_some pe_int)) pa_nil)) (pa_cons pe_int (pa_cons pe_int pa_nil)))))), ?_⟩
    obtain ⟨a, ns, rfl, hs, hl, q⟩ := h
    refine ⟨_, rfl, ((63 : Nat) : Int), rfl, a, _, rfl, hs, fun p1 hp1 => ?_⟩
    have ec : cutV (ns.map V.int) none (some ((63 : Nat) : Int)) = ns.map V.int := by
      unfold cutV
      rw [HT.sIx_none, HT.sIx_nat, List.length_map, Nat.min_eq_right hl, List.drop_zero, Nat.sub_zero]
      have : ns.length = (ns.map V.int).length := by rw [List.length_map]
      rw [this, List.take_length]
    rw [ec]
    have s1 := same_new (o := .lst (ns.map V.int)) hp1
    refine ⟨p1, _, rfl, .inl (SqL.of upd_same), fun c hc => ?_⟩
    have s2 := same_new (o := .lst (ns.map V.int)) hc
    refine ⟨by show (3 : Nat) ≤ sizeLine; decide, fun p hp => ?_⟩
    have s3 := same_new (o := .lst [.ref c, .int 0, .int 0]) hp
    have hpn : H p = none := Same.free (s1.trans s2) hp
    have hcp : c ≠ p := ne_of_none upd_same hp
    exact q _ p c (s1.trans (s2.trans s3)) hpn ⟨upd_same, by rw [upd_ne hcp]; exact upd_same, hcp, hl⟩
theorem sc_draw : FnScope ["pen", "many", "digit", "at", "cell", "great", "mixed"] ["pen", "many"] (defScope (top 44)) := ⟨rfl, rfl, rfl, by decide +kernel, rfl, by decide +kernel, by decide +kernel⟩
theorem fmod_nat {x : Int} {m : Nat} (h : 2 ≤ m) : ∃ d : Nat, Int.fmod x (m : Int) = (d : Int) ∧ d < m := by
  have h1 : 0 ≤ Int.fmod x (m : Int) := Int.fmod_nonneg_of_pos x (by omega)
  have h2 : Int.fmod x (m : Int) < (m : Int) := Int.fmod_lt_of_pos x (by omega)
  exact ⟨(Int.fmod x (m : Int)).toNat, by omega, by omega⟩
theorem ok_draw (T : Tx w K mg) : Cal P w K mg base CX0 1 (He.ga K "_law_draw") ["pen", "many"] spDraw := by
  obtain ⟨fd, F⟩ := T.fd 25 _ rfl
  have F : FnP K "_law_draw" "_law_draw" (top 44) (He.ga K "_law_draw") fd := F
  refine ⟨fd, F.ok sc_draw (fun vs H Q E h => ?_) (fun cdv A outer s H vs Q E hr h => ?_), F.kp, F.bindsN fun _ _ _ _ _ _ us hl => match us, hl with | [_, _], _ => rfl⟩
  · obtain ⟨p, c, ns, at', rest, many, rfl, _⟩ := h
    rfl
  · refine ⟨_, PSs.nox (pss_cons (ps_if (pt_cmpR op_lt (pv 1) pe_int (nomark _)) (pss_one (ps_ret pe_int)) pss_nil)
      (pss_cons (ps_if (pt_cmpR op_gt (pe_ix ix_list (pv 0) pe_int (fun _ _ => rfl)) pe_int (nomark _))
        (pss_cons (ps_set (i := 2) sc_draw.nd rfl (Or.inl rfl) (pe_op op_modN (pe_callTy call_int1 rfl T.f_int boot_int (pa_cons (pe_ix ix_list (pv 0) pe_int (fun _ _ => rfl)) pa_nil)) (pv 1)))
        (pss_cons (ps_asg (pe_op op_fdivN (pe_callTy call_int1 rfl T.f_int boot_int (pa_cons (pe_ix ix_list (pv 0) pe_int (fun _ _ => rfl)) pa_nil)) (pv 1)) (pg_sub (pv 0) pe_int set_list))
        (pss_one (ps_ret (pv 2))))) pss_nil)
      (pss_cons (ps_set (i := 3) sc_draw.nd rfl (Or.inl rfl) (pe_ix ix_list (pv 0) pe_int (fun _ _ => rfl)))
      (pss_cons (ps_asg (pe_op op_add (pv 3) pe_int) (pg_sub (pv 0) pe_int set_list))
      (pss_cons (ps_set (i := 4) sc_draw.nd rfl (Or.inl rfl) (pe_op op_add (pe_op op_mul pe_int (pv 3)) pe_int))
      (pss_cons (psImp (t' := tCellS) (ps_if (pt_cmpR (op_neD hr.units) (pe_ix ix_list (pv 0) pe_int (fun _ _ => rfl)) (pe_lst pa_nil) (nomark _))
        (pss_one (ps_set (i := 4) sc_draw.nd rfl (Or.inl rfl) (pe_ix ix_list (pe_ix ix_list (pv 0) pe_int (fun _ _ => rfl)) (pe_op op_modN (pe_callTy call_int1 rfl T.f_int boot_int (pa_cons (pv 3) pa_nil)) (pe_callB call_len_seq rfl T.f_len boot_len (pa_cons (pe_ix ix_list (pv 0) pe_int (fun _ _ => rfl)) pa_nil))) (fun _ _ => rfl)))) pss_nil) ?cell)
      (pss_cons (ps_if (PW.pt (pw_and (pt_cmpR op_lt (pv 3) (pe_callB call_len_seq rfl T.f_len boot_len (pa_cons (pe_ix ix_list (pv 0) pe_int (fun _ _ => rfl)) pa_nil)) (nomark _)) (pw_and1 (pt_cmpR op_ge (pe_callB call_abs rfl T.f_abs boot_abs (pa_cons (pv 4) pa_nil)) (pe_op op_pow pe_int pe_int) (nomark _)))))
        (pss_cons (ps_set (i := 5) sc_draw.nd rfl (Or.inl rfl) (pe_op op_add (pe_op op_mul pe_int (pe_op op_sub (pe_callB call_abs rfl T.f_abs boot_abs (pa_cons (pv 4) pa_nil)) (pe_op op_pow pe_int pe_int))) (pe_callTy call_int1 rfl T.f_int boot_int (pa_cons (pe_cmpR op_lt (pv 4) pe_int (nomark _)) pa_nil))))
        (pss_cons (ps_asg (pe_op op_fdivN (pe_callTy call_int1 rfl T.f_int boot_int (pa_cons (pv 5) pa_nil)) (pv 1)) (pg_sub (pv 0) pe_int set_list))
        (pss_one (ps_ret (pe_op op_modN (pe_callTy call_int1 rfl T.f_int boot_int (pa_cons (pv 5) pa_nil)) (pv 1)))))) pss_nil)
      (pss_cons (ps_set (i := 6) sc_draw.nd rfl (Or.inl rfl) (pe_op op_modN (pe_callTy call_int1 rfl T.f_int boot_int (pa_cons (pe_op op_pow (pe_op op_add (pe_op op_add (pe_op op_modN (pe_callTy call_int1 rfl T.f_int boot_int (pa_cons (pv 4) pa_nil)) pe_int) (pe_op op_mul pe_int (pv 3))) pe_int) pe_int) pa_nil)) pe_int))
      (pss_cons (ps_set (i := 6) sc_draw.nd rfl (Or.inl rfl) (pe_op op_modN (pe_callTy call_int1 rfl T.f_int boot_int (pa_cons (pe_op op_pow (pe_op op_add (pe_op op_add (pe_op op_mul (pv 6) (pe_op op_add (pe_op op_mul pe_int (pv 3)) pe_int)) (pe_op op_mul (pe_op op_mul pe_int (pv 3)) (pv 3))) pe_int) pe_int) pa_nil)) pe_int))
      (pss_one (ps_ret (pe_op op_modN (pe_callTy call_int1 rfl T.f_int boot_int (pa_cons (pe_op op_fdivN (pv 6) pe_int) pa_nil)) (pv 1))))))))))))), ?_⟩
    case cell =>
      rintro D σ H ⟨p, c, ns, at', rest, m, d, a, k, g, x, rfl, hp, q⟩
      refine ⟨_, rfl, p, _, _, .ref c, rfl, rfl, SqL.of hp.1, atI_nat (j := 0) rfl, by decide, fun e he => ?_⟩
      have se := same_new (o := .lst []) he
      refine ⟨.list ((ns.map V.int).map dat), .list [], .lst (SqL.of (se _ _ hp.2.1)) (dpAll_simple (simple_ints ns)), .lst (SqL.of upd_same) .nil, shaped_list (simple_ints ns), by decide +kernel, _, rfl, ?_⟩
      cases ns with
      | nil => exact ifF rfl (q k _ se)
      | cons n ns =>
        refine ifT rfl ?_
        have hpe := hp.same se
        have hlen : ((n :: ns).map V.int).length = (n :: ns).length := by rw [List.length_map]
        obtain ⟨j, hj, hlt⟩ : ∃ j : Nat, Int.fmod (a : Int) (((n :: ns).map V.int).length : Int) = (j : Int) ∧ j < (n :: ns).length := by
          have h1 : 0 ≤ Int.fmod (a : Int) (((n :: ns).map V.int).length : Int) := Int.fmod_nonneg_of_pos _ (by rw [hlen, List.length_cons]; omega)
          have h2 : Int.fmod (a : Int) (((n :: ns).map V.int).length : Int) < (((n :: ns).map V.int).length : Int) := Int.fmod_lt_of_pos _ (by rw [hlen, List.length_cons]; omega)
          exact ⟨(Int.fmod (a : Int) (((n :: ns).map V.int).length : Int)).toNat, by omega, by omega⟩
        refine ⟨_, rfl, p, _, _, .ref c, rfl, rfl, SqL.of hpe.1, atI_nat (j := 0) rfl, ?_⟩
        refine ⟨_, rfl, .inl ⟨_, rfl, _, rfl, p, _, _, .ref c, rfl, rfl, SqL.of hpe.1, atI_nat (j := 0) rfl, c, _, rfl, .inl (SqL.of hpe.2.1), _, _, rfl, rfl, by rw [hlen, List.length_cons]; omega, ?_⟩⟩
        refine ⟨c, _, _, .int ((n :: ns)[j]), rfl, rfl, SqL.of hpe.2.1, ?_, q _ _ se⟩
        rw [hj]
        exact atI_nat (by rw [List.getElem?_map, List.getElem?_eq_getElem hlt]; rfl)
    obtain ⟨p, c, ns, at', rest, many, rfl, hp, hm, hat, q⟩ := h
    refine ⟨_, rfl, _, _, rfl, rfl, _, rfl, ?_⟩
    by_cases h1 : (many : Int) < 2
    · refine ifT (decide_eq_true h1) ?_
      exact q 0 at' rest H (.inr rfl) (fun _ _ _ e => e) hp (by omega)
    · refine ifF (decide_eq_false h1) ?_
      have hm2 : 2 ≤ many := by omega
      have hmn : ((many : Int) ≠ 0 ∧ (many : Int).natAbs < 1073741824) := ⟨by omega, by omega⟩
      have store : ∀ (H : Hp) (x y z : V), H p = some (.lst [.ref c, x, y]) → SB p H (upd H p (.lst ([.ref c, x, y].set 2 z))) := fun _ _ _ _ _ => SB.upd
      refine ⟨_, rfl, p, _, _, .int rest, rfl, rfl, SqL.of hp.1, atI_nat (j := 2) rfl, _, _, rfl, rfl, _, rfl, ?_⟩
      by_cases h2 : rest > 0
      · refine ifT (decide_eq_true h2) ?_
        refine ⟨_, rfl, p, _, _, .int rest, rfl, rfl, SqL.of hp.1, atI_nat (j := 2) rfl, .inl ⟨_, rfl, _, rfl, _, _, rfl, rfl, by omega, ?_⟩⟩
        refine ⟨_, rfl, p, _, _, .int rest, rfl, rfl, SqL.of hp.1, atI_nat (j := 2) rfl, .inl ⟨_, rfl, _, rfl, _, _, rfl, rfl, hmn, ?_⟩⟩
        refine ⟨_, rfl, p, _, _, 2, rfl, rfl, hp.1, rfl, ?_⟩
        refine ⟨_, rfl, ?_⟩
        obtain ⟨d, hd, hlt⟩ := fmod_nat (x := rest) hm2
        show Q (.int (Int.fmod rest (many : Int))) _
        rw [hd]
        exact q d at' _ _ (.inl hlt) SB.upd ⟨upd_same, by rw [upd_ne hp.2.2.1]; exact hp.2.1, hp.2.2⟩ (by omega)
      · refine ifF (decide_eq_false h2) ?_
        refine ⟨_, rfl, p, _, _, .int (at' : Int), rfl, rfl, SqL.of hp.1, atI_nat (j := 1) rfl, ?_⟩
        refine ⟨_, rfl, _, _, rfl, rfl, ?_⟩
        refine ⟨_, rfl, p, _, _, 1, rfl, rfl, hp.1, rfl, ?_⟩
        have hp1 : Pen (upd H p (.lst [.ref c, .int ((at' + 1 : Nat) : Int), .int rest])) p c ns (at' + 1) rest := ⟨upd_same, by rw [upd_ne hp.2.2.1]; exact hp.2.1, hp.2.2⟩
        have sb1 : SB p H (upd H p (.lst [.ref c, .int ((at' + 1 : Nat) : Int), .int rest])) := SB.upd
        refine ⟨_, rfl, _, _, rfl, rfl, .inl ⟨by decide, by decide⟩, _, _, rfl, rfl, ?_⟩
        refine ⟨p, c, ns, at' + 1, rest, _, _, at', _, _, _, rfl, hp1, fun cell H2 s2 => ?_⟩
        have hp2 := hp1.same s2
        have sb2 : SB p H H2 := sb1.trans (SB.of_same s2)
        have bcell : 0 ≤ Int.fmod cell 2147483549 ∧ Int.fmod cell 2147483549 < 2147483549 := ⟨Int.fmod_nonneg_of_pos _ (by decide), Int.fmod_lt_of_pos _ (by decide)⟩
        have hm0 : (many : Int) ≠ 0 := by omega
        -- the last words: mixed
        have tail : ∀ (X : Int), ∃ d : Nat, Int.fmod X (many : Int) = (d : Int) ∧ d < many := fun X => fmod_nat hm2
        refine ⟨_, rfl, _, rfl, p, _, _, .ref c, rfl, rfl, SqL.of hp2.1, atI_nat (j := 0) rfl, c, _, rfl, .inl (SqL.of hp2.2.1), _, _, rfl, rfl, _, rfl, ?_⟩
        have mix : ∀ M : Int, 0 ≤ M → M < 2147483629 → (M * (2 * (at' : Int) + 8037) + 74003 * (at' : Int) * (at' : Int) + 38117).natAbs < 2 ^ 64 := fun M h1 h2 => pow_ok2 h1 h2 (by omega) (by omega)
        have fin : ∀ X : Int, Q (.int (Int.fmod X (many : Int))) H2 := fun X => by
          obtain ⟨d, hd, hlt⟩ := tail X
          rw [hd]
          exact q d _ _ _ (.inl hlt) sb2 hp2 (Nat.le_refl _)
        by_cases h3 : (at' : Int) < ((ns.map V.int).length : Int)
        · refine ifT (decide_eq_true h3) ?_
          refine ⟨_, rfl, cell, rfl, _, _, rfl, rfl, ⟨by decide, by decide, by decide⟩, _, _, rfl, rfl, _, rfl, ?_⟩
          by_cases h4 : (if cell < 0 then -cell else cell) ≥ (10 : Int) ^ (18 : Int).toNat
          · refine ifT (decide_eq_true h4) ?_
            refine ⟨_, rfl, cell, rfl, _, _, rfl, rfl, ⟨by decide, by decide, by decide⟩, _, _, rfl, rfl, _, _, rfl, rfl, .inl ⟨by decide, by decide⟩, _, rfl, _, _, rfl, rfl, .inr ⟨_, rfl, _, _, rfl, rfl, ?_⟩⟩
            refine ⟨_, rfl, .inl ⟨_, rfl, _, rfl, _, _, rfl, rfl, hmn, ?_⟩⟩
            refine ⟨_, rfl, p, _, _, 2, rfl, rfl, hp2.1, rfl, ?_⟩
            refine ⟨_, rfl, .inl ⟨_, rfl, _, rfl, _, _, rfl, rfl, hm0, ?_⟩⟩
            obtain ⟨d, hd, hlt⟩ := tail (2 * ((if cell < 0 then -cell else cell) - (10 : Int) ^ (18 : Int).toNat) + (if decide (cell < 0) = true then 1 else 0))
            show Q (.int (Int.fmod (2 * ((if cell < 0 then -cell else cell) - (10 : Int) ^ (18 : Int).toNat) + (if decide (cell < 0) = true then 1 else 0)) (many : Int))) _
            rw [hd]
            exact q d (at' + 1) _ _ (.inl hlt) (sb2.trans SB.upd) ⟨upd_same, by rw [upd_ne hp2.2.2.1]; exact hp2.2.1, hp2.2.2⟩ (Nat.le_refl _)
          · refine ifF (decide_eq_false h4) ?_
            refine ⟨_, rfl, .inl ⟨_, rfl, _, _, rfl, rfl, (by show (2147483549 : Int) ≠ 0; decide), _, rfl, _, _, rfl, rfl, .inl ⟨by decide, by decide⟩, _, _, rfl, rfl, _, _, rfl, rfl, _, _, rfl, rfl, ⟨by decide, by decide, pow_ok1 bcell.1 bcell.2 (by omega) (by omega)⟩, .inl ⟨_, rfl, _, _, rfl, rfl, (by show (2147483629 : Int) ≠ 0; decide), ?_⟩⟩⟩
            have bM : 0 ≤ Int.fmod ((Int.fmod cell 2147483549 + 38117 * (at' : Int) + 11289) ^ (3 : Int).toNat) 2147483629 ∧ Int.fmod ((Int.fmod cell 2147483549 + 38117 * (at' : Int) + 11289) ^ (3 : Int).toNat) 2147483629 < 2147483629 := ⟨Int.fmod_nonneg_of_pos _ (by decide), Int.fmod_lt_of_pos _ (by decide)⟩
            refine ⟨_, rfl, _, rfl, _, _, rfl, rfl, .inl ⟨by decide, by decide⟩, _, _, rfl, rfl, _, _, rfl, rfl, .inl ⟨by omega, by omega⟩, _, rfl, _, _, rfl, rfl, .inl ⟨by decide, by decide⟩, _, rfl, _, _, rfl, rfl, .inl ⟨by omega, by omega⟩, _, _, rfl, rfl, _, _, rfl, rfl, _, _, rfl, rfl, ⟨by decide, by decide, mix _ bM.1 bM.2⟩, .inl ⟨_, rfl, _, _, rfl, rfl, (by show (2147483563 : Int) ≠ 0; decide), ?_⟩⟩
            exact ⟨_, rfl, _, _, rfl, rfl, ⟨(by show (16 : Int) ≠ 0; decide), (by show (16 : Int).natAbs < 1073741824; decide)⟩, .inl ⟨_, rfl, _, rfl, _, _, rfl, rfl, hm0, fin _⟩⟩
        · refine ifF (decide_eq_false h3) ?_
          refine ifF rfl ?_
          refine ⟨_, rfl, .inl ⟨_, rfl, _, _, rfl, rfl, (by show (2147483549 : Int) ≠ 0; decide), _, rfl, _, _, rfl, rfl, .inl ⟨by decide, by decide⟩, _, _, rfl, rfl, _, _, rfl, rfl, _, _, rfl, rfl, ⟨by decide, by decide, pow_ok1 bcell.1 bcell.2 (by omega) (by omega)⟩, .inl ⟨_, rfl, _, _, rfl, rfl, (by show (2147483629 : Int) ≠ 0; decide), ?_⟩⟩⟩
          have bM : 0 ≤ Int.fmod ((Int.fmod cell 2147483549 + 38117 * (at' : Int) + 11289) ^ (3 : Int).toNat) 2147483629 ∧ Int.fmod ((Int.fmod cell 2147483549 + 38117 * (at' : Int) + 11289) ^ (3 : Int).toNat) 2147483629 < 2147483629 := ⟨Int.fmod_nonneg_of_pos _ (by decide), Int.fmod_lt_of_pos _ (by decide)⟩
          refine ⟨_, rfl, _, rfl, _, _, rfl, rfl, .inl ⟨by decide, by decide⟩, _, _, rfl, rfl, _, _, rfl, rfl, .inl ⟨by omega, by omega⟩, _, rfl, _, _, rfl, rfl, .inl ⟨by decide, by decide⟩, _, rfl, _, _, rfl, rfl, .inl ⟨by omega, by omega⟩, _, _, rfl, rfl, _, _, rfl, rfl, _, _, rfl, rfl, ⟨by decide, by decide, mix _ bM.1 bM.2⟩, .inl ⟨_, rfl, _, _, rfl, rfl, (by show (2147483563 : Int) ≠ 0; decide), ?_⟩⟩
          exact ⟨_, rfl, _, _, rfl, rfl, ⟨(by show (16 : Int) ≠ 0; decide), (by show (16 : Int).natAbs < 1073741824; decide)⟩, .inl ⟨_, rfl, _, rfl, _, _, rfl, rfl, hm0, fin _⟩⟩
theorem sc_pick : FnScope ["pen", "some"] ["pen", "some"] (defScope (top 45)) := ⟨rfl, rfl, rfl, by decide +kernel, rfl, by decide +kernel, by decide +kernel⟩
theorem ok_pick (T : Tx w K mg) : Cal P w K mg base CX0 2 (He.ga K "_law_pick") ["pen", "some"] spPick := by
  obtain ⟨fd, F⟩ := T.fd 26 _ rfl
  have F : FnP K "_law_pick" "_law_pick" (top 45) (He.ga K "_law_pick") fd := F
  obtain ⟨fd1, G1, k1, b1⟩ := ok_draw (P := P) (base := base) T
  refine ⟨fd, F.ok sc_pick (fun vs H Q E h => ?_) (fun cdv A outer s H vs Q E hr h => ?_), F.kp, F.bindsN fun _ _ _ _ _ _ us hl => match us, hl with | [_, _], _ => rfl⟩
  · obtain ⟨p, c, ns, at', rest, s, xs, rfl, _⟩ := h
    rfl
  · refine ⟨_, PSs.nox (pss_one (ps_ret (pe_ix ix_list (pv 1) (pe_call G1 hr rfl T.g__law_draw k1 b1 .nil pass0 (pa_cons (pv 0) (pa_cons (pe_callB call_len_seq rfl T.f_len boot_len (pa_cons (pv 1) pa_nil)) pa_nil))) (fun _ _ => rfl)))), ?_⟩
    obtain ⟨p, c, ns, at', rest, s, xs, rfl, hp, hs, hsp, h1, h2, hat, q⟩ := h
    refine ⟨_, rfl, _, rfl, _, rfl, s, xs, rfl, .inl (SqL.of hs), ?_⟩
    refine ⟨p, c, ns, at', rest, xs.length, rfl, hp, h2, hat, fun d at2 rest2 H' hd sb hp2 hat2 => ?_⟩
    have hlt : d < xs.length := by omega
    exact ⟨s, xs, (d : Int), xs[d], rfl, rfl, SqL.of (sb _ _ hsp hs), atI_nat (List.getElem?_eq_getElem hlt), q _ at2 rest2 H' (List.getElem_mem hlt) sb hp2 hat2⟩
end
end K88
end

section
set_option Elab.async false
set_option linter.all false
set_option maxRecDepth 100000
set_option maxHeartbeats 4000000
namespace K88
open PySem PySem.Spec PyProof.Rows L2 LamX
abbrev nHeard : List Str := ["ask", "caught", "error", "some", "words", "word", "is_one"]
theorem sc_heard : FnScope nHeard ["ask"] (defScope (top 46)) := ⟨rfl, rfl, rfl, by decide +kernel, rfl, by decide +kernel, by decide +kernel⟩
/-- the errors that it tells -/
def eHeard (K : PySem.W.Frag) (Q : VK) : XK := fun cls d H' => (∃ dd l i, cls = .ref (He.ga K "BadText") ∧ d = some dd ∧ H' dd = some (.xd [("line", .int l), ("word", .int i)]) ∧ ∀ H'' p, Same H' H'' → H' p = none → H'' p = some (.tup [.str "text", .int l, .int i]) → Q (.ref p) H'') ∨
      (∃ dd, cls = .ref (He.ga K "BadPaper") ∧ d = some dd ∧ H' dd = some (.xd [("part", .str "ask")]) ∧ ∀ H'' p, Same H' H'' → H' p = none → H'' p = some (.tup [.str "paper", .str "ask"]) → Q (.ref p) H'')
/-- what _law_heard makes of the lambda's reading -/
def TTheard (K : PySem.W.Frag) : (XK → Hp → VK → Prop) → Hp → VK → Prop := fun tl H Q => tl (eHeard K Q) H (fun v H' => ([v] : List V).length ≤ sizeLine ∧ ∀ l, H' l = none → Q (.ref l) (upd H' l (.lst [v])))
def pairs7 : List (Str × Bool) := [("number", decide (("BadNumber" : Str) = "BadPaper")), ("bits", decide (("BadBits" : Str) = "BadPaper")), ("book", decide (("BadBook" : Str) = "BadPaper")), ("row", decide (("BadRow" : Str) = "BadPaper")), ("pattern", decide (("BadPattern" : Str) = "BadPaper")), ("paper", decide (("BadPaper" : Str) = "BadPaper")), ("misfit", decide (("Misfit" : Str) = "BadPaper"))]
theorem hall7 {H : Hp} {t1 t2 t3 t4 t5 t6 t7 : Addr} (f1 : H t1 = some (.tup [.str "number", .bl (decide (("BadNumber" : Str) = "BadPaper"))])) (f2 : H t2 = some (.tup [.str "bits", .bl (decide (("BadBits" : Str) = "BadPaper"))])) (f3 : H t3 = some (.tup [.str "book", .bl (decide (("BadBook" : Str) = "BadPaper"))])) (f4 : H t4 = some (.tup [.str "row", .bl (decide (("BadRow" : Str) = "BadPaper"))])) (f5 : H t5 = some (.tup [.str "pattern", .bl (decide (("BadPattern" : Str) = "BadPaper"))])) (f6 : H t6 = some (.tup [.str "paper", .bl (decide (("BadPaper" : Str) = "BadPaper"))])) (f7 : H t7 = some (.tup [.str "misfit", .bl (decide (("Misfit" : Str) = "BadPaper"))])) :
    ∀ (i : Nat) (x : V), ([V.ref t1, .ref t2, .ref t3, .ref t4] ++ [.ref t5, .ref t6, .ref t7])[i]? = some x → ∃ T' z b, x = .ref T' ∧ H T' = some (.tup [.str z, .bl b]) ∧ pairs7[i]? = some (z, b) := by
  intro i x hi
  match i, hi with
  | 0, hi => exact ⟨t1, _, _, (Option.some.inj hi).symm, f1, rfl⟩
  | 1, hi => exact ⟨t2, _, _, (Option.some.inj hi).symm, f2, rfl⟩
  | 2, hi => exact ⟨t3, _, _, (Option.some.inj hi).symm, f3, rfl⟩
  | 3, hi => exact ⟨t4, _, _, (Option.some.inj hi).symm, f4, rfl⟩
  | 4, hi => exact ⟨t5, _, _, (Option.some.inj hi).symm, f5, rfl⟩
  | 5, hi => exact ⟨t6, _, _, (Option.some.inj hi).symm, f6, rfl⟩
  | 6, hi => exact ⟨t7, _, _, (Option.some.inj hi).symm, f7, rfl⟩
  | n + 7, hi => simp at hi
def kept7 (i : Nat) : List V := ((pairs7.take i).filter (·.2)).map fun p => V.str p.1
theorem kept7_step {i : Nat} {z : Str} {b : Bool} (h : pairs7[i]? = some (z, b)) : kept7 (i + 1) = kept7 i ++ (if b = true then [.str z] else []) := by
  obtain ⟨hi, e⟩ := List.getElem?_eq_some_iff.mp h
  unfold kept7
  rw [List.take_succ_eq_append_getElem hi, e, List.filter_append, List.map_append]
  cases b <;> rfl
theorem kept7_len (i : Nat) : (kept7 i).length ≤ 7 := by
  unfold kept7
  rw [List.length_map]
  refine Nat.le_trans (List.length_filter_le _ _) ?_
  rw [List.length_take]
  exact Nat.min_le_right _ _
theorem takes_len {X : Cx} {W : WX} (tk : Takes X W) : Takes X (fun cls d σ H => σ.length = X.N.length → W cls d σ H) := fun u s' x => by
  obtain ⟨a, B, sI, pins', σ', H', cls, d, e, J, nb, up, sky, na, os, ag, q⟩ := x
  exact tk u s' ⟨a, B, sI, pins', σ', H', cls, d, e, J, nb, up, sky, na, os, ag, q J.len⟩
section
variable {w : World} {K : PySem.W.Frag} {mg : Str → Option Value} {base : Heap}
theorem heard_gives {X : Cx} (hw : X.w = w) (hK : X.K = K) (hmg : X.mg = mg) (T : Tx w K mg) {q : Str} {cdg : Value} :
    GivesTo X nHeard "_law_heard" (defScope (top 46)) (He.ga K "_law_heard") cdg (defBody (top 46)) "ask" q (TTheard K) := by
  subst hw hK hmg
  intro f c' s H Q tl act hc h
  refine ⟨_, pss_cons (ps_set (i := 1) sc_heard.nd rfl (Or.inl rfl) pe_non)
    (pss_cons (ps_try_keep (X := (cxOf C8.CX0 X.prog X.w X.K X.mg X.base nHeard "_law_heard" (defScope (top 46)) (He.ga X.K "_law_heard") cdg X.A X.stack s H C8.E0).nox) (c := .ref (He.ga X.K "BellError")) (i := 2) (ts := fun _ _ _ => tAsg (tVar 2) (gName 1)) (Wout := fun _ _ _ _ => False)
      (tb := fun (W : WX) (D : Ends) (σ : L2.St) (H : Hp) => ∃ Ech : XK, (∀ (cls : Value) (d : Option Addr) (σ' : L2.St) (H' : Hp), Ech cls d H' → σ'.length = 7 → W cls d σ' H') ∧ σ[0]? = some (some (.ref f)) ∧ H c' = some (CodeO c' q) ∧ tl Ech H (fun v H' => ([v] : List V).length ≤ sizeLine ∧ ∀ l, H' l = none → D.rt (.ref l) (upd H' l (.lst [v]))))
      rfl rfl rfl sc_heard.nd rfl rfl ⟨rfl, by decide, .inl T.g_BellError⟩ LamX.takes0 (fun W pn xe tk _ => ?tr) (fun a oe cls d pn _ _ => pss_one (ps_set (i := 1) sc_heard.nd rfl (Or.inl rfl) (pv 2))))
    (pss_cons (ps_if (pt_val (pe_callB call_isA rfl T.f_isinstance boot_isinstance (pa_cons (pv 1) (pa_cons (pe_glob (v := .ref (He.ga X.K "TooMany")) rfl T.g_TooMany rfl) pa_nil)))) (pss_one (ps_ret (pe_tup (pa_cons pe_str (pa_cons (pe_xat (pv 1) rfl) (pa_cons (pe_xat (pv 1) rfl) pa_nil)))))) pss_nil)
    (pss_cons (ps_if (pt_val (pe_callB call_isA rfl T.f_isinstance boot_isinstance (pa_cons (pv 1) (pa_cons (pe_glob (v := .ref (He.ga X.K "BadText")) rfl T.g_BadText rfl) pa_nil)))) (pss_one (ps_ret (pe_tup (pa_cons pe_str (pa_cons (pe_xat (pv 1) rfl) (pa_cons (pe_xat (pv 1) rfl) pa_nil)))))) pss_nil)
    (pss_cons (ps_if (pt_val (pe_callB call_isA rfl T.f_isinstance boot_isinstance (pa_cons (pv 1) (pa_cons (pe_glob (v := .ref (He.ga X.K "BadWord")) rfl T.g_BadWord rfl) pa_nil)))) (pss_one (ps_ret (pe_tup (pa_cons pe_str (pa_cons (pe_xat (pv 1) rfl) pa_nil))))) pss_nil)
    (pss_cons (ps_if (pt_val (pe_callB call_isA rfl T.f_isinstance boot_isinstance (pa_cons (pv 1) (pa_cons (pe_glob (v := .ref (He.ga X.K "NoName")) rfl T.g_NoName rfl) pa_nil)))) (pss_one (ps_ret (pe_tup (pa_cons pe_str (pa_cons (pe_xat (pv 1) rfl) pa_nil))))) pss_nil)
    (pss_cons (ps_set (i := 3) sc_heard.nd rfl (Or.inl rfl) (pe_lst (pa_cons (pe_tup (pa_cons pe_str (pa_cons (pe_callB call_isA rfl T.f_isinstance boot_isinstance (pa_cons (pv 1) (pa_cons (pe_glob (v := .ref (He.ga X.K "BadNumber")) rfl T.g_BadNumber rfl) pa_nil))) pa_nil))) (pa_cons (pe_tup (pa_cons pe_str (pa_cons (pe_callB call_isA rfl T.f_isinstance boot_isinstance (pa_cons (pv 1) (pa_cons (pe_glob (v := .ref (He.ga X.K "BadBits")) rfl T.g_BadBits rfl) pa_nil))) pa_nil))) (pa_cons (pe_tup (pa_cons pe_str (pa_cons (pe_callB call_isA rfl T.f_isinstance boot_isinstance (pa_cons (pv 1) (pa_cons (pe_glob (v := .ref (He.ga X.K "BadBook")) rfl T.g_BadBook rfl) pa_nil))) pa_nil))) (pa_cons (pe_tup (pa_cons pe_str (pa_cons (pe_callB call_isA rfl T.f_isinstance boot_isinstance (pa_cons (pv 1) (pa_cons (pe_glob (v := .ref (He.ga X.K "BadRow")) rfl T.g_BadRow rfl) pa_nil))) pa_nil))) pa_nil))))))
    (pss_cons (ps_set (i := 3) sc_heard.nd rfl (Or.inl rfl) (pe_op op_cat (pv 3) (pe_lst (pa_cons (pe_tup (pa_cons pe_str (pa_cons (pe_callB call_isA rfl T.f_isinstance boot_isinstance (pa_cons (pv 1) (pa_cons (pe_glob (v := .ref (He.ga X.K "BadPattern")) rfl T.g_BadPattern rfl) pa_nil))) pa_nil))) (pa_cons (pe_tup (pa_cons pe_str (pa_cons (pe_callB call_isA rfl T.f_isinstance boot_isinstance (pa_cons (pv 1) (pa_cons (pe_glob (v := .ref (He.ga X.K "BadPaper")) rfl T.g_BadPaper rfl) pa_nil))) pa_nil))) (pa_cons (pe_tup (pa_cons pe_str (pa_cons (pe_callB call_isA rfl T.f_isinstance boot_isinstance (pa_cons (pv 1) (pa_cons (pe_glob (v := .ref (He.ga X.K "Misfit")) rfl T.g_Misfit rfl) pa_nil))) pa_nil))) pa_nil))))))
    (pss_cons (ps_setLc (i := 4) (own := [("word", 5), ("is_one", 6)]) (g := gTup X.K 2 (gCons (gName 5) (gCons (gName 6) gNil))) rfl sc_heard.nd rfl rfl (sw_true rfl rfl rfl (by decide +kernel)) (pi_list (pv 3)) (blkOk_by (own := [("word", 5), ("is_one", 6)]) (N := nHeard) (sc := defScope (top 46)) (by decide +kernel))
        (fun _ _ _ _ _ => pg_tup rfl (pgs_cons (pg_name (i := 5) sc_heard.nd rfl (Or.inl rfl)) (pgs_cons (pg_name (i := 6) sc_heard.nd rfl (Or.inl rfl)) pgs_nil))) (fun _ _ _ _ _ => pts_one (pt_val (pv 6))) (fun _ _ _ _ _ => pv 5))
    (pss_one (ps_ret (pe_ifExp (pt_cmpR op_eq (pe_callB call_len_seq rfl T.f_len boot_len (pa_cons (pv 4) pa_nil)) pe_int (nomark _)) (pe_tup (pa_cons (pe_ix ix_list (pv 4) pe_int (fun _ _ => rfl)) (pa_cons (pe_xat (pv 1) rfl) pa_nil))) (pe_tup (pa_cons pe_str pa_nil))))))))))))), ?_⟩
  case tr =>
    refine ⟨fun pins s' σ H' D I h' => ?_⟩
    obtain ⟨Ech, hW, h1, h2, h3⟩ := h'
    have hp := act _ pn xe Ech ⟨209, 16, 209, 19⟩ ⟨209, 16, 209, 21⟩ (takes_len tk) (fun cls d σ' H' e hl => hW cls d σ' H' e hl)
    have hq := pss_one (ps_ret (pos := ⟨209, 8, 209, 22⟩) (pe_lst (pos := ⟨209, 15, 209, 22⟩) (pa_cons hp pa_nil)))
    exact hq.run pins s' σ H' D I ⟨h1, h2, h3⟩
  refine ⟨eHeard X.K Q, fun cls d σ' H' he hl => ?_, rfl, hc, h⟩
  obtain ⟨s0, s1, s2, s3, s4, s5, s6, rfl⟩ : ∃ s0 s1 s2 s3 s4 s5 s6, σ' = [s0, s1, s2, s3, s4, s5, s6] := by
    match σ', hl with
    | [s0, s1, s2, s3, s4, s5, s6], _ => exact ⟨_, _, _, _, _, _, _, rfl⟩
  rcases he with ⟨dd, l, i, rfl, rfl, hdd, q⟩ | ⟨dd, rfl, rfl, hdd, q⟩
  · refine ⟨true, T.x_BadText, fun _ a ha => ?_, fun z => by cases z⟩
    have nd : dd ≠ a := ne_of_none hdd ha
    have hd2 : (upd H' a (ExcA (.ref (He.ga X.K "BadText")) (some dd) a)) dd = some (.xd [("line", .int l), ("word", .int i)]) := by rw [upd_ne nd]; exact hdd
    have smA : Same H' (upd H' a (ExcA (.ref (He.ga X.K "BadText")) (some dd) a)) := same_new ha
    refine ⟨_, rfl, ?_⟩
    refine ⟨_, rfl, a, _, dd, _, .ref (He.ga X.K "TooMany"), .ref (He.ga X.K "TooMany"), false, rfl, upd_same, hd2, T.a_BadText, .own _, T.k_BadText "TooMany" (by decide), _, rfl, ifF rfl ?_⟩
    refine ⟨_, rfl, a, _, dd, _, .ref (He.ga X.K "BadText"), .ref (He.ga X.K "BadText"), true, rfl, upd_same, hd2, T.a_BadText, .own _, T.k_BadText "BadText" (by decide), _, rfl, ifT rfl ?_⟩
    refine ⟨_, rfl, a, _, dd, _, _, rfl, upd_same, hd2, T.a_BadText, T.e_BadText.noF "line" (by simp), rfl, ?_⟩
    refine ⟨_, rfl, a, _, dd, _, _, rfl, upd_same, hd2, T.a_BadText, T.e_BadText.noF "word" (by simp), rfl, ?_⟩
    exact ⟨by show (3 : Nat) ≤ sizeLine; decide, fun p hp => q _ p (smA.trans (same_new hp)) (Same.free smA hp) upd_same⟩
  · refine ⟨true, T.x_BadPaper, fun _ a ha => ?_, fun z => by cases z⟩
    have nd : dd ≠ a := ne_of_none hdd ha
    have hd2 : (upd H' a (ExcA (.ref (He.ga X.K "BadPaper")) (some dd) a)) dd = some (.xd [("part", .str "ask")]) := by rw [upd_ne nd]; exact hdd
    have smA : Same H' (upd H' a (ExcA (.ref (He.ga X.K "BadPaper")) (some dd) a)) := same_new ha
    have hA : (upd H' a (ExcA (.ref (He.ga X.K "BadPaper")) (some dd) a)) a = some (ExcA (.ref (He.ga X.K "BadPaper")) (some dd) a) := upd_same
    refine ⟨_, rfl, ?_⟩
    have fin : ∀ H2, Same (upd H' a (ExcA (.ref (He.ga X.K "BadPaper")) (some dd) a)) H2 → ∀ p, H2 p = none → Q (.ref p) (upd H2 p (.tup [.str "paper", .str "ask"])) := fun H2 sm p hp => q _ p ((smA.trans sm).trans (same_new hp)) (Same.free (smA.trans sm) hp) upd_same
    refine ⟨_, rfl, a, _, dd, _, .ref (He.ga X.K "TooMany"), .ref (He.ga X.K "TooMany"), _, rfl, (Same.refl _) a _ hA, (Same.refl _) dd _ hd2, T.a_BadPaper, .own _, T.k_BadPaper "TooMany" (by decide), _, rfl, ifF rfl ?_⟩
    refine ⟨_, rfl, a, _, dd, _, .ref (He.ga X.K "BadText"), .ref (He.ga X.K "BadText"), _, rfl, (Same.refl _) a _ hA, (Same.refl _) dd _ hd2, T.a_BadPaper, .own _, T.k_BadPaper "BadText" (by decide), _, rfl, ifF rfl ?_⟩
    refine ⟨_, rfl, a, _, dd, _, .ref (He.ga X.K "BadWord"), .ref (He.ga X.K "BadWord"), _, rfl, (Same.refl _) a _ hA, (Same.refl _) dd _ hd2, T.a_BadPaper, .own _, T.k_BadPaper "BadWord" (by decide), _, rfl, ifF rfl ?_⟩
    refine ⟨_, rfl, a, _, dd, _, .ref (He.ga X.K "NoName"), .ref (He.ga X.K "NoName"), _, rfl, (Same.refl _) a _ hA, (Same.refl _) dd _ hd2, T.a_BadPaper, .own _, T.k_BadPaper "NoName" (by decide), _, rfl, ifF rfl ?_⟩
    -- four pairs
    refine ⟨_, rfl, a, _, dd, _, .ref (He.ga X.K "BadNumber"), .ref (He.ga X.K "BadNumber"), _, rfl, (Same.refl _) a _ hA, (Same.refl _) dd _ hd2, T.a_BadPaper, .own _, T.k_BadPaper "BadNumber" (by decide), by show (2 : Nat) ≤ sizeLine; decide, fun t1 n1 => ?_⟩
    have s1 := same_new (o := .tup [.str "number", .bl (decide (("BadNumber" : Str) = "BadPaper"))]) n1
    have e1 := s1
    refine ⟨_, rfl, a, _, dd, _, .ref (He.ga X.K "BadBits"), .ref (He.ga X.K "BadBits"), _, rfl, e1 a _ hA, e1 dd _ hd2, T.a_BadPaper, .own _, T.k_BadPaper "BadBits" (by decide), by show (2 : Nat) ≤ sizeLine; decide, fun t2 n2 => ?_⟩
    have s2 := same_new (o := .tup [.str "bits", .bl (decide (("BadBits" : Str) = "BadPaper"))]) n2
    have e2 := e1.trans s2
    refine ⟨_, rfl, a, _, dd, _, .ref (He.ga X.K "BadBook"), .ref (He.ga X.K "BadBook"), _, rfl, e2 a _ hA, e2 dd _ hd2, T.a_BadPaper, .own _, T.k_BadPaper "BadBook" (by decide), by show (2 : Nat) ≤ sizeLine; decide, fun t3 n3 => ?_⟩
    have s3 := same_new (o := .tup [.str "book", .bl (decide (("BadBook" : Str) = "BadPaper"))]) n3
    have e3 := e2.trans s3
    refine ⟨_, rfl, a, _, dd, _, .ref (He.ga X.K "BadRow"), .ref (He.ga X.K "BadRow"), _, rfl, e3 a _ hA, e3 dd _ hd2, T.a_BadPaper, .own _, T.k_BadPaper "BadRow" (by decide), by show (2 : Nat) ≤ sizeLine; decide, fun t4 n4 => ?_⟩
    have s4 := same_new (o := .tup [.str "row", .bl (decide (("BadRow" : Str) = "BadPaper"))]) n4
    have e4 := e3.trans s4
    refine ⟨by show (4 : Nat) ≤ sizeLine; decide, fun l1 m1 => ?_⟩
    have s5 := same_new (o := .lst [.ref t1, .ref t2, .ref t3, .ref t4]) m1
    have e5 := e4.trans s5
    refine ⟨_, rfl, ?_⟩
    refine ⟨_, rfl, a, _, dd, _, .ref (He.ga X.K "BadPattern"), .ref (He.ga X.K "BadPattern"), _, rfl, e5 a _ hA, e5 dd _ hd2, T.a_BadPaper, .own _, T.k_BadPaper "BadPattern" (by decide), by show (2 : Nat) ≤ sizeLine; decide, fun t5 n5 => ?_⟩
    have s6 := same_new (o := .tup [.str "pattern", .bl (decide (("BadPattern" : Str) = "BadPaper"))]) n5
    have e6 := e5.trans s6
    refine ⟨_, rfl, a, _, dd, _, .ref (He.ga X.K "BadPaper"), .ref (He.ga X.K "BadPaper"), _, rfl, e6 a _ hA, e6 dd _ hd2, T.a_BadPaper, .own _, T.k_BadPaper "BadPaper" (by decide), by show (2 : Nat) ≤ sizeLine; decide, fun t6 n6 => ?_⟩
    have s7 := same_new (o := .tup [.str "paper", .bl (decide (("BadPaper" : Str) = "BadPaper"))]) n6
    have e7 := e6.trans s7
    refine ⟨_, rfl, a, _, dd, _, .ref (He.ga X.K "Misfit"), .ref (He.ga X.K "Misfit"), _, rfl, e7 a _ hA, e7 dd _ hd2, T.a_BadPaper, .own _, T.k_BadPaper "Misfit" (by decide), by show (2 : Nat) ≤ sizeLine; decide, fun t7 n7 => ?_⟩
    have s8 := same_new (o := .tup [.str "misfit", .bl (decide (("Misfit" : Str) = "BadPaper"))]) n7
    have e8 := e7.trans s8
    refine ⟨by show (3 : Nat) ≤ sizeLine; decide, fun l2 m2 => ?_⟩
    have s9 := same_new (o := .lst [.ref t5, .ref t6, .ref t7]) m2
    have e9 := e8.trans s9
    refine ⟨l1, l2, _, _, rfl, rfl, (s6.trans (s7.trans (s8.trans s9))) l1 _ upd_same, upd_same, by show (4 + 3 : Nat) ≤ sizeLine; decide, fun l3 m3 => ?_⟩
    have s10 := same_new (o := .lst ([.ref t1, .ref t2, .ref t3, .ref t4] ++ [.ref t5, .ref t6, .ref t7])) m3
    have e10 := e9.trans s10
    have f1 := (s2.trans (s3.trans (s4.trans (s5.trans (s6.trans (s7.trans (s8.trans (s9.trans s10)))))))) t1 _ upd_same
    have f2 := (s3.trans (s4.trans (s5.trans (s6.trans (s7.trans (s8.trans (s9.trans s10))))))) t2 _ upd_same
    have f3 := (s4.trans (s5.trans (s6.trans (s7.trans (s8.trans (s9.trans s10)))))) t3 _ upd_same
    have f4 := (s5.trans (s6.trans (s7.trans (s8.trans (s9.trans s10))))) t4 _ upd_same
    have f5 := (s7.trans (s8.trans (s9.trans s10))) t5 _ upd_same
    have f6 := (s8.trans (s9.trans s10)) t6 _ upd_same
    have f7 := (s9.trans s10) t7 _ upd_same
    have hall := hall7 f1 f2 f3 f4 f5 f6 f7
    refine ⟨_, rfl, l3, rfl, ⟨_, SqL.of upd_same⟩, fun D hD => lc_list (K := X.K) (a := l3) (xs := [.ref t1, .ref t2, .ref t3, .ref t4] ++ [.ref t5, .ref t6, .ref t7]) (fun i H' => Same _ H' ∧ H' D = some (.lst (kept7 i))) ⟨same_new hD, upd_same⟩ (fun i H' _ ⟨sm, _⟩ => SqL.of (sm l3 _ upd_same)) (fun i x H' hi ⟨sm, hd⟩ => ?_) (fun H' ⟨sm, hd⟩ => ?_)⟩
    · obtain ⟨T', z, b, rfl, hT, hp⟩ := hall i x hi
      refine ⟨T', _, rfl, SqT.of (sm _ _ hT), rfl, _, _, rfl, _, _, rfl, rfl, rfl, _, rfl, b, rfl, ?_⟩
      have st := kept7_step hp
      cases b with
      | false =>
        refine iteF ?_
        rw [st]
        exact ⟨sm, by rw [hd]; simp⟩
      | true =>
        refine iteT ⟨_, rfl, kept7 i, hd, lin (Nat.le_trans (kept7_len i) (by decide)), fun b o e => ?_, ?_⟩
        · rw [upd_ne (ne_of_none e hD)]
          exact sm _ _ e
        · rw [upd_same, st]
          rfl
    · have hd7 : H' D = some (.lst [.str "paper"]) := by
        rw [hd]
        exact congrArg (fun l => some (HO.lst l)) (show kept7 7 = [.str "paper"] by decide +kernel)
      have e11 := e10.trans sm
      refine ⟨_, rfl, D, _, rfl, .inl (SqL.of hd7), rfl, _, rfl, ifT (by decide) ?_⟩
      refine ⟨_, rfl, D, _, 0, .str "paper", rfl, rfl, SqL.of hd7, atI_nat (j := 0) rfl, ?_⟩
      refine ⟨_, rfl, a, _, dd, _, _, rfl, e11 a _ hA, e11 dd _ hd2, T.a_BadPaper, T.e_BadPaper.noF "part" (by simp), rfl, ?_⟩
      exact ⟨by show (2 : Nat) ≤ sizeLine; decide, fun p hp => fin H' e11 p hp⟩
end
end K88
end

section
set_option Elab.async false
set_option linter.all false
set_option maxRecDepth 100000
set_option maxHeartbeats 4000000
namespace K88
open PySem PySem.Spec PyProof.Rows L2
/-- a pick from a written list: whatever it gives is right -/
def tPickE (i : Nat) (Good : V → Prop) : TE := fun σ H Q => ∃ p c ns at' rest, σ[i]? = some (some (.ref p)) ∧ Pen H p c ns at' rest ∧ at' ≤ 100000 ∧
  ∀ x at2 rest2 H', Good x → SB p H H' → Pen H' p c ns at2 rest2 → at2 ≤ at' + 1 → Q x H'
theorem pick_imp {i : Nat} {xs : List V} {Good : V → Prop} {t : TA} {E : XK} (hT : ∀ σ H k, k xs H → t σ H k) (hg : ∀ x ∈ xs, Good x) (h1 : 1 ≤ xs.length) (h2 : xs.length ≤ 1000) :
    ∀ σ H Q, tPickE i Good σ H Q → tCall spPick [] E (tCons (tVar i) (tCons (tLst t) tNil)) σ H Q := by
  rintro σ H Q ⟨p, c, ns, at', rest, h0, hp, hat, q⟩
  refine ⟨_, h0, hT σ H _ ⟨Nat.le_of_lt (lin h2), fun s hs => ?_⟩⟩
  have sm := same_new (o := .lst xs) hs
  refine ⟨p, c, ns, at', rest, s, xs, rfl, hp.same sm, upd_same, fun e => ?_, h1, h2, hat, fun x at2 rest2 H' hx sb hp2 ha => q x at2 rest2 H' (hg x hx) ((SB.of_same sm).trans sb) hp2 ha⟩
  exact ne_of_none hp.1 hs e.symm
def GName (x : V) : Prop := ∃ z, x = .str z ∧ isName z = true
def GWord (x : V) : Prop := ∃ z, x = .str z ∧ z ∈ keys
def GNum (x : V) : Prop := ∃ i, x = .int i ∧ 0 ≤ i ∧ i ≤ maxN
def GH (x : V) : Prop := x = .non ∨ ∃ i, x = .int i ∧ 0 ≤ i ∧ i ≤ maxN
def GK (x : V) : Prop := ∃ i, x = .int i ∧ -maxN ≤ i ∧ i ≤ maxN
def lNames : List V := [.str "up", .str "a", .str "abcdefgh", .str "zyxwvuts", .str "jkmnoqr"]
def lOthers : List V := [.str "down", .str "b"]
def lWords : List V := [.str "rings", .str "claim", .str "days", .str "falls", .str "alike", .str "within", .str "never", .str "moved", .str "cure"]
def lNums : List V := [.int 0, .int 1, .int 7, .int ((10 : Int) ^ (60 : Int).toNat - 1)]
def lMoved : List V := [.int 0, .int (-7), .int (1 - (10 : Int) ^ (60 : Int).toNat), .int 12]
theorem g_names : ∀ x ∈ lNames, GName x := by
  intro x hx
  simp only [lNames, List.mem_cons, List.not_mem_nil, or_false] at hx
  rcases hx with rfl | rfl | rfl | rfl | rfl <;> exact ⟨_, rfl, by decide +kernel⟩
theorem g_others : ∀ x ∈ lOthers, GName x := by
  intro x hx
  simp only [lOthers, List.mem_cons, List.not_mem_nil, or_false] at hx
  rcases hx with rfl | rfl <;> exact ⟨_, rfl, by decide +kernel⟩
theorem g_words : ∀ x ∈ lWords, GWord x := by
  intro x hx
  simp only [lWords, List.mem_cons, List.not_mem_nil, or_false] at hx
  rcases hx with rfl | rfl | rfl | rfl | rfl | rfl | rfl | rfl | rfl <;> exact ⟨_, rfl, by decide +kernel⟩
theorem g_nums : ∀ x ∈ lNums, GNum x := by
  intro x hx
  simp only [lNums, List.mem_cons, List.not_mem_nil, or_false] at hx
  rcases hx with rfl | rfl | rfl | rfl <;> exact ⟨_, rfl, by decide, by decide⟩
theorem g_moved : ∀ x ∈ lMoved, GK x := by
  intro x hx
  simp only [lMoved, List.mem_cons, List.not_mem_nil, or_false] at hx
  rcases hx with rfl | rfl | rfl | rfl <;> exact ⟨_, rfl, by decide, by decide⟩
theorem g_h (n : Int) (h0 : 0 ≤ n) (h1 : n ≤ maxN) : ∀ x ∈ [V.non, .int n], GH x := by
  intro x hx
  simp only [List.mem_cons, List.not_mem_nil, or_false] at hx
  rcases hx with rfl | rfl
  · exact .inl rfl
  · exact .inr ⟨_, rfl, h0, h1⟩
def spLawAsk : Sp := fun vs H Q _ => ∃ p c ns at' rest, vs = [.ref p] ∧ Pen H p c ns at' rest ∧ at' ≤ 90000 ∧
  ∀ (a : Ask) (at2 : Nat) rest2 H' t, a.Ok → SB p H H' → Pen H' p c ns at2 rest2 → at2 ≤ at' + 100 → H' t = some (.tup a.xs) → Q (.ref t) H'
/-- a tail right for the word (for days: none yet) -/
def TailOk (wd : Str) (tv : List V) : Prop := (∀ n ks, shapeOf wd = some (n, ks) → wd ≠ daysW → good (kindsOf ks) tv) ∧ (wd = daysW → tv = []) ∧ tv.length ≤ 4
def GsOk (wd : Str) (gs : List (List V)) : Prop := (∀ n ks, shapeOf wd = some (n, ks) → ∀ g ∈ gs, good (kindsOf ks) g) ∧ (wd ≠ daysW → gs.length = 1) ∧ (wd = daysW → 1 ≤ gs.length ∧ gs.length ≤ 12) ∧ gs.flatten.length ≤ 48
def tTail : TE := fun σ H Q => ∃ p c ns at' rest x1 x2 wd nums D s5 s6, σ = [some (.ref p), x1, x2, some (.str wd), some (.ref D), s5, s6] ∧ Pen H p c ns at' rest ∧ at' ≤ 99000 ∧ wd ∈ keys ∧ H D = some (.lst nums) ∧ nums.length = 4 ∧ (∀ x ∈ nums, GNum x) ∧ D ≠ p ∧
  ∀ tl tv at2 rest2 H', TailOk wd tv → SB p H H' → Pen H' p c ns at2 rest2 → at2 ≤ at' + 2 → H' tl = some (.lst tv) → tl ≠ p → Q (.ref tl) H'
def tDays : TS := fun D σ H => ∃ p c ns at' rest x1 x2 wd n tl tv s6, σ = [some (.ref p), x1, x2, some (.str wd), n, some (.ref tl), s6] ∧ Pen H p c ns at' rest ∧ at' ≤ 99000 ∧ H tl = some (.lst tv) ∧ tl ≠ p ∧ TailOk wd tv ∧
  ∀ tl2 gs s6' at2 rest2 H', GsOk wd gs → SB p H H' → Pen H' p c ns at2 rest2 → at2 ≤ at' + 40 → H' tl2 = some (.lst gs.flatten) → tl2 ≠ p → D.nx [some (.ref p), x1, x2, some (.str wd), n, some (.ref tl2), s6'] H'
def tLastA : TE := fun σ H Q => ∃ p z1 z2 wd n tl gs s6, σ = [p, some (.str z1), some (.str z2), some (.str wd), n, some (.ref tl), s6] ∧ isName z1 = true ∧ isName z2 = true ∧ wd ∈ keys ∧ GsOk wd gs ∧ H tl = some (.lst gs.flatten) ∧
  ∀ (a : Ask) H' t, a.Ok → Same H H' → H' t = some (.tup a.xs) → Q (.ref t) H'
theorem two_names : ∀ q ∈ shapes, (q.2.1 = 2 ∧ inV (.str q.1) [.str "alike", .str "within", .str "moved"] = true) ∨ (q.2.1 = 1 ∧ inV (.str q.1) [.str "alike", .str "within", .str "moved"] = false) := by decide +kernel
theorem cut_k (xs : List V) (k : Nat) : cutV xs none (some ((k : Nat) : Int)) = xs.take k := by
  unfold cutV
  rw [HT.sIx_none, HT.sIx_nat, List.drop_zero, Nat.sub_zero]
  by_cases h : k ≤ xs.length
  · rw [Nat.min_eq_left h]
  · rw [Nat.min_eq_right (by omega), List.take_length, List.take_of_length_le (by omega)]
theorem num_n {i : Int} (h0 : 0 ≤ i) (h1 : i ≤ maxN) : numB "n" (.int i) = true := by
  have e : lo "n" = 0 := by decide +kernel
  show (decide (lo "n" ≤ i) && decide (i ≤ maxN)) = true
  rw [e, decide_eq_true h0, decide_eq_true h1] <;> rfl
theorem num_h {x : V} (h : GH x) : numB "h" x = true := by
  rcases h with rfl | ⟨i, rfl, h0, h1⟩
  · decide +kernel
  · have e : lo "h" = 0 := by decide +kernel
    show (decide (lo "h" ≤ i) && decide (i ≤ maxN)) = true
    rw [e, decide_eq_true h0, decide_eq_true h1] <;> rfl
theorem num_k {x : V} (h : GK x) : numB "k" x = true := by
  obtain ⟨i, rfl, h0, h1⟩ := h
  have e : lo "k" = -maxN := by decide +kernel
  show (decide (lo "k" ≤ i) && decide (i ≤ maxN)) = true
  rw [e, decide_eq_true h0, decide_eq_true h1] <;> rfl
theorem num_g {x : V} (h : GNum x) : numB "n" x = true := by
  obtain ⟨i, rfl, h0, h1⟩ := h
  exact num_n h0 h1
theorem kinds_nnnh : kindsOf "nnnh" = [("n" : Str), "n", "n", "h"] := by decide +kernel
def tailD (r1 r4 r5 r6 : V) : List (Key × V) := [(Sum.inr "rings", r1), (Sum.inr "claim", r4), (Sum.inr "cure", r5), (Sum.inr "moved", r6)]
theorem tailD_rings (r1 r4 r5 r6 : V) : valV (mergeK [] (tailD r1 r4 r5 r6)) (Sum.inr "rings") = some r1 := rfl
theorem tailD_claim (r1 r4 r5 r6 : V) : valV (mergeK [] (tailD r1 r4 r5 r6)) (Sum.inr "claim") = some r4 := rfl
theorem tailD_cure (r1 r4 r5 r6 : V) : valV (mergeK [] (tailD r1 r4 r5 r6)) (Sum.inr "cure") = some r5 := rfl
theorem tailD_moved (r1 r4 r5 r6 : V) : valV (mergeK [] (tailD r1 r4 r5 r6)) (Sum.inr "moved") = some r6 := rfl
theorem tailD_none (r1 r4 r5 r6 : V) : ∀ wd ∈ [("falls" : Str), "alike", "within", "never", "days"], valV (mergeK [] (tailD r1 r4 r5 r6)) (Sum.inr wd) = none := by
  intro wd hw
  simp only [List.mem_cons, List.not_mem_nil, or_false] at hw
  rcases hw with rfl | rfl | rfl | rfl | rfl <;> rfl
abbrev nLA : List Str := ["pen", "name", "other", "word", "number", "tail", "lap"]
section
variable {P : Program} {w : World} {K : PySem.W.Frag} {mg : Str → Option Value} {base : Heap}
theorem sc_la : FnScope nLA ["pen"] (defScope (top 47)) := ⟨rfl, rfl, rfl, by decide +kernel, rfl, by decide +kernel, by decide +kernel⟩
theorem ok_la (T : Tx w K mg) : Cal P w K mg base CX0 3 (He.ga K "_law_ask") ["pen"] spLawAsk := by
  obtain ⟨fd, F⟩ := T.fd 28 _ rfl
  have F : FnP K "_law_ask" "_law_ask" (top 47) (He.ga K "_law_ask") fd := F
  obtain ⟨fd1, G1, k1, b1⟩ := ok_pick (P := P) (base := base) T
  obtain ⟨fd2, G2, k2, b2⟩ := ok_draw (P := P) (base := base) T
  refine ⟨fd, F.ok sc_la (fun vs H Q E h => ?_) (fun cdv A outer s H vs Q E hr h => ?_), F.kp, F.bindsN fun _ _ _ _ _ _ us hl => match us, hl with | [_], _ => rfl⟩
  · obtain ⟨p, c, ns, at', rest, rfl, _⟩ := h
    rfl
  · refine ⟨_, PSs.nox (pss_cons (ps_par (i := 1) (j := 2) rfl sc_la.nd rfl rfl (by decide) rfl rfl
        (pa_cons (peImp (pe_call G1 hr rfl T.g__law_pick k1 b1 .nil pass0 (pa_cons (pv 0) (pa_cons (pe_lst (pa_cons pe_str (pa_cons pe_str (pa_cons pe_str (pa_cons pe_str (pa_cons pe_str pa_nil)))))) pa_nil))) (pick_imp (E := E0) (xs := lNames) (fun _ _ _ h => h) g_names (by decide) (by decide)))
        (pa_cons (peImp (pe_call G1 hr rfl T.g__law_pick k1 b1 .nil pass0 (pa_cons (pv 0) (pa_cons (pe_lst (pa_cons pe_str (pa_cons pe_str pa_nil))) pa_nil))) (pick_imp (E := E0) (xs := lOthers) (fun _ _ _ h => h) g_others (by decide) (by decide))) pa_nil)) (by rfl))
      (pss_cons (ps_set (i := 3) sc_la.nd rfl (Or.inl rfl) (peImp (pe_call G1 hr rfl T.g__law_pick k1 b1 .nil pass0 (pa_cons (pv 0) (pa_cons (pe_lst (pa_cons pe_str (pa_cons pe_str (pa_cons pe_str (pa_cons pe_str (pa_cons pe_str (pa_cons pe_str (pa_cons pe_str (pa_cons pe_str (pa_cons pe_str pa_nil)))))))))) pa_nil))) (pick_imp (E := E0) (xs := lWords) (fun _ _ _ h => h) g_words (by decide) (by decide))))
      (pss_cons (ps_setLc (i := 4) (own := [("lap", 6)]) (g := gName 6) rfl sc_la.nd rfl rfl (sw_true rfl rfl rfl (by decide +kernel)) (pi_range1 rfl T.f_range (pa_cons pe_int pa_nil)) (blkOk_by (own := [("lap", 6)]) (N := nLA) (sc := defScope (top 47)) (by decide +kernel))
        (fun _ _ _ _ _ => pg_name (i := 6) sc_la.nd rfl (Or.inl rfl)) (fun _ _ _ _ _ => pts_nil)
        (fun _ _ _ _ _ => peImp (pe_call G1 hr rfl T.g__law_pick k1 b1 .nil pass0 (pa_cons (pv 0) (pa_cons (pe_lst (pa_cons pe_int (pa_cons pe_int (pa_cons pe_int (pa_cons (pe_op op_sub (pe_op op_pow pe_int pe_int) pe_int) pa_nil))))) pa_nil))) (pick_imp (E := E0) (xs := lNums) (fun _ _ _ h => ⟨_, _, rfl, rfl, ⟨by decide, by decide, by decide⟩, _, _, rfl, rfl, h⟩) g_nums (by decide) (by decide))))
      (pss_cons (ps_set (i := 5) sc_la.nd rfl (Or.inl rfl) (peImp (t' := tTail) (pe_dget2 (hu_of hr) (pe_disp (pps_cons pe_str (pe_slice sl_list (pv 4) po_none (po_some pe_int))
          (pps_cons pe_str (pe_op op_cat (pe_slice sl_list (pv 4) po_none (po_some pe_int)) (pe_lst (pa_cons (peImp (pe_call G1 hr rfl T.g__law_pick k1 b1 .nil pass0 (pa_cons (pv 0) (pa_cons (pe_lst (pa_cons pe_non (pa_cons pe_int pa_nil))) pa_nil))) (pick_imp (E := E0) (xs := [.non, .int 5]) (fun _ _ _ h => h) (g_h 5 (by decide) (by decide)) (by decide) (by decide))) pa_nil)))
          (pps_cons pe_str (pe_slice sl_list (pv 4) po_none (po_some pe_int))
          (pps_cons pe_str (pe_lst (pa_cons (peImp (pe_call G1 hr rfl T.g__law_pick k1 b1 .nil pass0 (pa_cons (pv 0) (pa_cons (pe_lst (pa_cons pe_int (pa_cons (pe_un un_neg pe_int) (pa_cons (pe_op op_sub pe_int (pe_op op_pow pe_int pe_int)) (pa_cons pe_int pa_nil))))) pa_nil))) (pick_imp (E := E0) (xs := lMoved) (fun _ _ _ h => ⟨_, rfl, _, _, rfl, rfl, ⟨by decide, by decide, by decide⟩, _, _, rfl, rfl, h⟩) g_moved (by decide) (by decide))) pa_nil)) pps_nil)))) (by rfl) (by rfl) (fun z => by cases z) (by decide)) (pv 3) (pe_lst pa_nil) ⟨rfl, rfl, rfl, rfl⟩) ?tail))
      (pss_cons (psImp (t' := tDays) (ps_if (pt_cmpR op_eq (pv 3) pe_str (nomark _)) (pss_one (ps_for PassesOwn.never rfl (pi_range1 rfl T.f_range (pa_cons (pe_op op_add pe_int (pe_call G2 (hr.mono (by decide)) rfl T.g__law_draw k2 b2 .nil pass0 (pa_cons (pv 0) (pa_cons pe_int pa_nil)))) pa_nil)) (pg_name (i := 6) sc_la.nd rfl (Or.inl rfl))
          (pss_one (ps_set (i := 5) sc_la.nd rfl (Or.inl rfl) (pe_op op_cat (pv 5) (pe_lst (pa_cons (pv 6) (pa_cons (pe_op op_add (pv 6) pe_int) (pa_cons (pe_call G2 (hr.mono (by decide)) rfl T.g__law_draw k2 b2 .nil pass0 (pa_cons (pv 0) (pa_cons pe_int pa_nil))) (pa_cons (peImp (pe_call G1 hr rfl T.g__law_pick k1 b1 .nil pass0 (pa_cons (pv 0) (pa_cons (pe_lst (pa_cons pe_non (pa_cons pe_int pa_nil))) pa_nil))) (pick_imp (E := E0) (xs := [.non, .int 9]) (fun _ _ _ h => h) (g_h 9 (by decide) (by decide)) (by decide) (by decide))) pa_nil)))))))))) pss_nil) ?days)
      (pss_one (ps_ret (peImp (t' := tLastA) (pe_tupleOf rfl T.f_tuple (pe_op op_cat (pe_op op_cat (pe_lst (pa_cons (pv 3) (pa_cons (pv 1) pa_nil))) (pe_ifExp (pt_cmpR op_in_seq (pv 3) (pe_tup (pa_cons pe_str (pa_cons pe_str (pa_cons pe_str pa_nil)))) rfl) (pe_lst (pa_cons (pv 2) pa_nil)) (pe_lst pa_nil))) (pv 5))) ?last)))))))), ?_⟩
    case last =>
      rintro σ H Q ⟨p, z1, z2, wd, n, tl, gs, s6, rfl, h1, h2, hw, hgs, htl, q⟩
      obtain ⟨nn, ks, hsh⟩ := shape_some hw
      have two := two_names _ (lookup_mem' hsh)
      refine ⟨_, rfl, _, rfl, by show (2 : Nat) ≤ sizeLine; decide, fun a1 n1 => ?_⟩
      have s1 := same_new (o := .lst [.str wd, .str z1]) n1
      refine ⟨_, rfl, by show (3 : Nat) ≤ sizeLine; decide, fun t1 m1 => ?_⟩
      have s2 := same_new (o := .tup [.str "alike", .str "within", .str "moved"]) m1
      refine ⟨t1, _, rfl, .inr (SqT.of upd_same), rfl, rfl, _, rfl, ?_⟩
      have fin : ∀ (H3 : Hp) (a2 : Addr) (nm : List Str), Same (upd (upd H a1 (.lst [.str wd, .str z1])) t1 (.tup [.str "alike", .str "within", .str "moved"])) H3 → H3 a2 = some (.lst ((nm.map V.str))) → (∀ z ∈ nm, isName z = true) → nm.length + 1 = nn → nm.length ≤ 1 → 
          ∃ l b xs zs, V.ref a1 = .ref l ∧ V.ref a2 = .ref b ∧ H3 l = some (.lst xs) ∧ H3 b = some (.lst zs) ∧ xs.length + zs.length ≤ sizeLine ∧ ∀ p, H3 p = none → (∃ v, some (some (V.ref tl)) = some (some v) ∧ ∃ l b xs2 zs2, V.ref p = .ref l ∧ v = .ref b ∧ (upd H3 p (.lst (xs ++ zs))) l = some (.lst xs2) ∧ (upd H3 p (.lst (xs ++ zs))) b = some (.lst zs2) ∧ xs2.length + zs2.length ≤ sizeLine ∧
            ∀ p2, (upd H3 p (.lst (xs ++ zs))) p2 = none → kTup K (.ref p2) (upd (upd H3 p (.lst (xs ++ zs))) p2 (.lst (xs2 ++ zs2))) Q) := by
        intro H3 a2 nm s3 ha2 hnm hl hl1
        refine ⟨a1, a2, _, _, rfl, rfl, (s2.trans s3) a1 _ upd_same, ha2, by show (2 : Nat) + _ ≤ sizeLine; rw [List.length_map]; exact Nat.le_of_lt (lin (by omega)), fun a3 n3 => ?_⟩
        have s4 := same_new (o := .lst ([.str wd, .str z1] ++ nm.map V.str)) n3
        have htl3 : (upd H3 a3 (.lst ([.str wd, .str z1] ++ nm.map V.str))) tl = some (.lst gs.flatten) := (s1.trans (s2.trans (s3.trans s4))) _ _ htl
        refine ⟨_, rfl, a3, tl, _, _, rfl, rfl, upd_same, htl3, ?_, fun a4 n4 => ?_⟩
        · rw [List.length_append, List.length_map]
          have := hgs.2.2.2
          exact Nat.le_of_lt (lin (by show 2 + nm.length + _ ≤ 1000; omega))
        · have s5 := same_new (o := .lst (([.str wd, .str z1] ++ nm.map V.str) ++ gs.flatten)) n4
          refine .inl ⟨a4, _, rfl, SqL.of upd_same, fun t ht => ?_⟩
          have s6 := same_new (o := .tup (([.str wd, .str z1] ++ nm.map V.str) ++ gs.flatten)) ht
          refine q ⟨wd, nn, ks, z1 :: nm, gs⟩ _ t ?_ (s1.trans (s2.trans (s3.trans (s4.trans (s5.trans s6))))) upd_same
          refine ⟨hsh, by rw [List.length_cons]; exact hl, fun z hz => ?_, fun g hg => hgs.1 nn ks hsh g hg, hgs.2.1, hgs.2.2.1⟩
          rcases List.mem_cons.mp hz with e | e
          · rw [e]; exact h1
          · exact hnm z e
      rcases two with ⟨e2, ein⟩ | ⟨e1, ein⟩
      · refine ifT ein ?_
        refine ⟨_, rfl, by show (1 : Nat) ≤ sizeLine; decide, fun a2 n2 => ?_⟩
        exact fin _ a2 [z2] (same_new n2) upd_same (fun z hz => by rw [List.mem_singleton.mp hz]; exact h2) (by show 1 + 1 = nn; exact e2.symm) (Nat.le_refl _)
      · refine ifF ein ?_
        refine ⟨by decide, fun a2 n2 => ?_⟩
        exact fin _ a2 [] (same_new n2) upd_same (fun z hz => by cases hz) (by show 0 + 1 = nn; exact e1.symm) (by decide)
    case tail =>
      rintro σ H Q ⟨p, c, ns, at', rest, x1, x2, wd, nums, D, s5, s6, rfl, hp, hat, hw, hD, hlen, hnum, hDp, q⟩
      refine fun pd n0 => ?_
      have z0 := same_new (o := .dK []) n0
      have hp0 := hp.same z0
      have npd : pd ≠ p := fun e => ne_of_none hp.1 n0 e.symm
      refine ⟨_, rfl, ((2 : Nat) : Int), rfl, D, nums, rfl, SqL.of (z0 _ _ hD), fun r1 n1 => ?_⟩
      rw [cut_k]
      have z1 := same_new (o := .lst (nums.take 2)) n1
      have hp1 := hp0.same z1
      have np1 : r1 ≠ p := fun e => ne_of_none hp0.1 n1 e.symm
      refine ⟨_, rfl, ((3 : Nat) : Int), rfl, D, nums, rfl, SqL.of (z1 _ _ (z0 _ _ hD)), fun r2 n2 => ?_⟩
      rw [cut_k]
      have z2 := same_new (o := .lst (nums.take 3)) n2
      have hp2 := hp1.same z2
      have np2 : r2 ≠ p := fun e => ne_of_none hp1.1 n2 e.symm
      refine ⟨p, c, ns, at', rest, rfl, hp2, by omega, fun x3 at3 rest3 H3 hx3 sb3 hp3 ha3 => ?_⟩
      refine ⟨by show (1 : Nat) ≤ sizeLine; decide, fun r3 n3 => ?_⟩
      have z3 := same_new (o := .lst [x3]) n3
      have hp4 := hp3.same z3
      have l3 : (nums.take 3).length = 3 := by rw [List.length_take, hlen]; rfl
      refine ⟨r2, r3, _, _, rfl, rfl, z3 r2 _ (sb3 r2 _ np2 upd_same), upd_same, by rw [l3]; show (3 + 1 : Nat) ≤ sizeLine; decide, fun r4 n4 => ?_⟩
      have z4 := same_new (o := .lst (nums.take 3 ++ [x3])) n4
      have hp5 := hp4.same z4
      have np4 : r4 ≠ p := fun e => ne_of_none hp4.1 n4 e.symm
      have hD4 := z4 _ _ (z3 _ _ (sb3 _ _ hDp (z2 _ _ (z1 _ _ (z0 _ _ hD)))))
      refine ⟨_, rfl, ((3 : Nat) : Int), rfl, D, nums, rfl, SqL.of hD4, fun r5 n5 => ?_⟩
      rw [cut_k]
      have z5 := same_new (o := .lst (nums.take 3)) n5
      have hp6 := hp5.same z5
      have np5 : r5 ≠ p := fun e => ne_of_none hp5.1 n5 e.symm
      refine ⟨p, c, ns, at3, rest3, rfl, hp6, by omega, fun x6 at6 rest6 H6 hx6 sb6 hp7 ha6 => ?_⟩
      refine ⟨by show (1 : Nat) ≤ sizeLine; decide, fun r6 n6 => ?_⟩
      have z6 := same_new (o := .lst [x6]) n6
      have hp8 := hp7.same z6
      have np6 : r6 ≠ p := fun e => ne_of_none hp7.1 n6 e.symm
      have up1 := ((((SB.of_same z2).trans sb3).trans (SB.of_same (z3.trans (z4.trans z5)))).trans sb6).trans (SB.of_same z6)
      have up4 := ((SB.of_same (a := p) z5).trans sb6).trans (SB.of_same z6)
      have up5 := sb6.trans (SB.of_same z6)
      have d0 : (upd H pd (.dK [])) pd = some (.dK []) := upd_same
      have nd1 : r1 ≠ pd := fun e => ne_of_none d0 n1 e.symm
      have d4 := z3 pd _ (sb3 pd _ npd (z2 pd _ (z1 pd _ d0)))
      have nd4 : r4 ≠ pd := fun e => ne_of_none d4 n4 e.symm
      have d5 := z4 pd _ d4
      have nd5 : r5 ≠ pd := fun e => ne_of_none d5 n5 e.symm
      have d6 := sb6 pd _ npd (z5 pd _ d5)
      have nd6 : r6 ≠ pd := fun e => ne_of_none d6 n6 e.symm
      have F1 := up1 r1 _ np1 upd_same
      have F4 := up4 r4 _ np4 upd_same
      have F5 := up5 r5 _ np5 upd_same
      have upH : SB p H (upd H6 r6 (.lst [x6])) := (SB.of_same (z0.trans z1)).trans up1
      refine ⟨up1 pd _ npd (z1 _ _ d0), tailD (.ref r1) (.ref r4) (.ref r5) (.ref r6), rfl, by show (4 : Nat) ≤ 15; decide, ?_⟩
      refine ⟨pd, rfl, .inl ⟨_, .inl upd_same⟩, _, rfl, by decide, fun e ne => ?_⟩
      have ze := same_new (o := .lst []) ne
      refine ⟨valV (mergeK [] (tailD (.ref r1) (.ref r4) (.ref r5) (.ref r6))) (Sum.inr wd), DGet.k (k := Sum.inr wd) (ze _ _ upd_same), ?_⟩
      have nee : e ≠ p := fun z => ne_of_none (show (upd (upd H6 r6 (.lst [x6])) pd (.dK (mergeK [] (tailD (.ref r1) (.ref r4) (.ref r5) (.ref r6))))) p = some _ by rw [upd_ne npd.symm]; exact hp8.1) ne z.symm
      have penF : Pen (upd (upd (upd H6 r6 (.lst [x6])) pd (.dK (mergeK [] (tailD (.ref r1) (.ref r4) (.ref r5) (.ref r6))))) e (.lst [])) p c ns at6 rest6 := by
        refine Pen.same ⟨?_, ?_, hp8.2.2⟩ ze
        · rw [upd_ne npd.symm]; exact hp8.1
        · rw [upd_ne (ne_of (hp8.2.1) (up1 pd _ npd (z1 _ _ d0)) (by intro z; cases z))]; exact hp8.2.1
      have sbF : SB p H (upd (upd (upd H6 r6 (.lst [x6])) pd (.dK (mergeK [] (tailD (.ref r1) (.ref r4) (.ref r5) (.ref r6))))) e (.lst [])) := fun b o hb e0 => ze _ _ (by rw [upd_ne (ne_of_none e0 n0)]; exact upH b o hb e0)
      have F1' := ze r1 _ ((upd_ne nd1).trans F1)
      have F4' := ze r4 _ ((upd_ne nd4).trans F4)
      have F5' := ze r5 _ ((upd_ne nd5).trans F5)
      have F6' := ze r6 _ ((upd_ne nd6).trans upd_same)
      obtain ⟨y1, y2, y3, y4, rfl⟩ : ∃ y1 y2 y3 y4, nums = [y1, y2, y3, y4] := by
        match nums, hlen with
        | [y1, y2, y3, y4], _ => exact ⟨_, _, _, _, rfl⟩
      have g1 := num_g (hnum y1 (by simp))
      have g2 := num_g (hnum y2 (by simp))
      have g3 := num_g (hnum y3 (by simp))
      have kk : ∀ {w ks ks' : Str} {n n' : Nat}, shapeOf w = some (n', ks') → shapeOf w = some (n, ks) → ks = ks' := fun h0 h => by
        rw [h0] at h
        exact (Prod.mk.inj (Option.some.inj h)).2.symm
      simp only [keys, List.mem_cons, List.not_mem_nil, or_false] at hw
      have none_ : wd ∈ [("falls" : Str), "alike", "within", "never", "days"] → (wd ≠ daysW → shapeOf wd = some (1, ("" : Str)) ∨ shapeOf wd = some (2, ("" : Str))) → Q ((valV (mergeK [] (tailD (.ref r1) (.ref r4) (.ref r5) (.ref r6))) (Sum.inr wd)).getD (.ref e)) (upd (upd (upd H6 r6 (.lst [x6])) pd (.dK (mergeK [] (tailD (.ref r1) (.ref r4) (.ref r5) (.ref r6))))) e (.lst [])) := fun hm hs => by
        rw [tailD_none _ _ _ _ wd hm]
        refine q e [] at6 rest6 _ ⟨fun n ks h hne => ?_, fun _ => rfl, by decide⟩ sbF penF (by omega) upd_same nee
        have e0 : kindsOf "" = [] := by decide +kernel
        rcases hs hne with h0 | h0
        · rw [kk h0 h, e0]; trivial
        · rw [kk h0 h, e0]; trivial
      rcases hw with rfl | rfl | rfl | rfl | rfl | rfl | rfl | rfl | rfl
      · rw [tailD_rings]
        refine q r1 [y1, y2] at6 rest6 _ ⟨fun n ks h _ => ?_, fun h => absurd h (by decide), (by show (2 : Nat) ≤ 4; decide)⟩ sbF penF (by omega) F1' np1
        rw [kk (show shapeOf "rings" = some (1, ("nn" : Str)) by decide +kernel) h, show kindsOf "nn" = [("n" : Str), "n"] by decide +kernel]
        exact ⟨g1, g2, trivial⟩
      · rw [tailD_claim]
        refine q r4 [y1, y2, y3, x3] at6 rest6 _ ⟨fun n ks h _ => ?_, fun h => absurd h (by decide), (by show (4 : Nat) ≤ 4; decide)⟩ sbF penF (by omega) F4' np4
        rw [kk (show shapeOf "claim" = some (1, ("nnnh" : Str)) by decide +kernel) h, kinds_nnnh]
        exact ⟨g1, g2, g3, num_h hx3, trivial⟩
      · exact none_ (by decide) (fun _ => .inl (by decide +kernel))
      · exact none_ (by decide) (fun _ => .inr (by decide +kernel))
      · exact none_ (by decide) (fun _ => .inr (by decide +kernel))
      · exact none_ (by decide) (fun _ => .inl (by decide +kernel))
      · rw [tailD_moved]
        refine q r6 [x6] at6 rest6 _ ⟨fun n ks h _ => ?_, fun h => absurd h (by decide), (by show (1 : Nat) ≤ 4; decide)⟩ sbF penF (by omega) F6' np6
        rw [kk (show shapeOf "moved" = some (2, ("k" : Str)) by decide +kernel) h, show kindsOf "k" = [("k" : Str)] by decide +kernel]
        exact ⟨num_k hx6, trivial⟩
      · rw [tailD_cure]
        refine q r5 [y1, y2, y3] at6 rest6 _ ⟨fun n ks h _ => ?_, fun h => absurd h (by decide), (by show (3 : Nat) ≤ 4; decide)⟩ sbF penF (by omega) F5' np5
        rw [kk (show shapeOf "cure" = some (1, ("nnn" : Str)) by decide +kernel) h, show kindsOf "nnn" = [("n" : Str), "n", "n"] by decide +kernel]
        exact ⟨g1, g2, g3, trivial⟩
      · exact none_ (by decide) (fun h => absurd rfl h)
    case days =>
      rintro D σ H ⟨p, c, ns, at', rest, x1, x2, wd, n, tl, tv, s6, rfl, hp, hat, htl, htp, ⟨ht1, ht2, ht3⟩, q⟩
      refine ⟨_, rfl, rfl, _, rfl, ?_⟩
      by_cases hd : wd = daysW
      · refine ifT (eqS.trans (decide_eq_true hd)) ?_
        refine ⟨_, rfl, p, c, ns, at', rest, 12, rfl, hp, by decide, by omega, fun d at1 rest1 H1 hd1 sb1 hp1 ha1 => ?_⟩
        refine ⟨_, _, rfl, rfl, _, rfl, by omega, by omega, ?_⟩
        have hd12 : d ≤ 11 := by omega
        refine for_range (lo := 0) (n := 1 + d) (fun i σ' H' => ∃ tl' gs s6' at2 rest2, σ' = [some (.ref p), x1, x2, some (.str wd), n, some (.ref tl'), s6'] ∧ (gs : List (List V)).length = i ∧ (∀ g ∈ gs, good [("n" : Str), "n", "n", "h"] g) ∧ gs.flatten.length = 4 * i ∧
            H' tl' = some (.lst gs.flatten) ∧ tl' ≠ p ∧ SB p H H' ∧ Pen H' p c ns at2 rest2 ∧ at2 ≤ at1 + 2 * i) ?_ ?_ ?_
        · exact ⟨tl, [], s6, at1, rest1, rfl, rfl, (fun g hg => by cases hg), rfl, (by rw [sb1 _ _ htp htl, ht2 hd]; rfl), htp, sb1, hp1, by omega⟩
        · rintro i σ' H' hi ⟨tl', gs, s6', at2, rest2, rfl, hgl, hgg, hgf, htl', htp', sb2, hp2, ha2⟩
          refine ⟨_, rfl, _, rfl, _, rfl, _, _, rfl, rfl, _, rfl, p, c, ns, at2, rest2, 4, rfl, hp2, by decide, by omega, fun d2 at3 rest3 H3 hd3 sb3 hp3 ha3 => ?_⟩
          refine ⟨p, c, ns, at3, rest3, rfl, hp3, by omega, fun x at4 rest4 H4 hx sb4 hp4 ha4 => ?_⟩
          refine ⟨by show (4 : Nat) ≤ sizeLine; decide, fun l1 n1 => ?_⟩
          have z1 := same_new (o := .lst [.int (0 + (i : Int)), .int (0 + (i : Int) + 1), .int (d2 : Int), x]) n1
          have htl4 := sb4 _ _ htp' (sb3 _ _ htp' htl')
          refine ⟨tl', l1, _, _, rfl, rfl, z1 _ _ htl4, upd_same, ?_, fun l2 n2 => ?_⟩
          · show gs.flatten.length + 4 ≤ sizeLine
            exact Nat.le_of_lt (lin (by omega))
          · have z2 := same_new (o := .lst (gs.flatten ++ [.int (0 + (i : Int)), .int (0 + (i : Int) + 1), .int (d2 : Int), x])) n2
            have hp5 := (hp4.same z1).same z2
            have hm : (0 : Int) + (i : Int) + 1 ≤ 100 ∧ (d2 : Int) ≤ 100 := by omega
            have big : (100 : Int) ≤ maxN := by decide
            refine ⟨l2, gs ++ [[.int (0 + (i : Int)), .int (0 + (i : Int) + 1), .int (d2 : Int), x]], _, at4, rest4, rfl, by rw [List.length_append, hgl]; rfl, fun g hg => ?_, ?_, ?_, fun e => ne_of_none ((hp4.same z1).1) n2 e.symm, ((sb2.trans sb3).trans sb4).trans (SB.of_same (z1.trans z2)), hp5, by omega⟩
            · rcases List.mem_append.mp hg with hg | hg
              · exact hgg g hg
              · rw [List.mem_singleton.mp hg]
                exact ⟨num_n (by omega) (by omega), num_n (by omega) (by omega), num_n (by omega) (by omega), num_h hx, trivial⟩
            · rw [List.flatten_append, List.length_append, hgf]
              show 4 * i + 4 = 4 * (i + 1)
              omega
            · rw [upd_same, List.flatten_append]
              rfl
        · rintro σ' H' ⟨tl', gs, s6', at2, rest2, rfl, hgl, hgg, hgf, htl', htp', sb2, hp2, ha2⟩
          refine q tl' gs s6' at2 rest2 H' ⟨fun nn ks hsh => ?_, fun h => absurd hd h, fun _ => ⟨by omega, by omega⟩, by omega⟩ sb2 hp2 (by omega) htl' htp'
          rw [hd, shape_days] at hsh
          have e := (Prod.mk.inj (Option.some.inj hsh)).2
          rw [← e, kinds_nnnh]
          exact hgg
      · refine ifF (eqS.trans (decide_eq_false hd)) ?_
        refine q tl [tv] s6 at' rest H ⟨fun nn ks hsh g hg => ?_, fun _ => rfl, fun h => absurd h hd, by simp; omega⟩ (fun _ _ _ e => e) hp (by omega) (by rw [htl]; simp) htp
        rw [List.mem_singleton.mp hg]
        exact ht1 nn ks hsh hd
    obtain ⟨p, c, ns, at', rest, rfl, hp, hat, q⟩ := h
    refine ⟨p, c, ns, at', rest, rfl, hp, by omega, fun x1 at1 rest1 H1 hx1 sb1 hp1 ha1 => ?_⟩
    refine ⟨p, c, ns, at1, rest1, rfl, hp1, by omega, fun x2 at2 rest2 H2 hx2 sb2 hp2 ha2 => ?_⟩
    refine ⟨_, _, rfl, ?_⟩
    refine ⟨p, c, ns, at2, rest2, rfl, hp2, by omega, fun x3 at3 rest3 H3 hx3 sb3 hp3 ha3 => ?_⟩
    obtain ⟨z1, rfl, hz1⟩ := hx1
    obtain ⟨z2, rfl, hz2⟩ := hx2
    obtain ⟨wd, rfl, hwd⟩ := hx3
    refine ⟨4, rfl, by decide, by decide, fun D hD => ?_⟩
    have nDp : D ≠ p := fun e => ne_of_none hp3.1 hD e.symm
    refine lc_range (lo := 0) (n := 4) (fun i H' => ∃ acc at4 rest4, H' D = some (.lst acc) ∧ acc.length = i ∧ (∀ x ∈ acc, GNum x) ∧ SB p H3 H' ∧ Pen H' p c ns at4 rest4 ∧ at4 ≤ at3 + i)
      ⟨[], at3, rest3, upd_same, rfl, (fun x hx => by cases hx), SB.of_same (same_new hD), hp3.same (same_new hD), by omega⟩ ?_ ?_
    · rintro i H' hi ⟨acc, at4, rest4, hacc, hla, hg, sb4, hp4, ha4⟩
      refine ⟨rfl, p, c, ns, at4, rest4, rfl, hp4, by omega, fun x at5 rest5 H5 hx sb5 hp5 ha5 => ?_⟩
      have cD : c ≠ D := ne_of_none hp3.2.1 hD
      refine ⟨acc, sb5 _ _ nDp hacc, by rw [hla]; exact lin (by omega), acc ++ [x], at5, rest5, upd_same, by rw [List.length_append, hla]; rfl, fun y hy => ?_, fun b o hb e => ?_, ⟨by rw [upd_ne nDp.symm]; exact hp5.1, by rw [upd_ne cD]; exact hp5.2.1, hp5.2.2⟩, by omega⟩
      · rcases List.mem_append.mp hy with h | h
        · exact hg y h
        · rw [List.mem_singleton.mp h]; exact hx
      · rw [upd_ne (ne_of_none e hD)]
        exact sb5 _ _ hb (sb4 _ _ hb e)
    · rintro H4 ⟨acc, at4, rest4, hacc, hla, hg, sb4, hp4, ha4⟩
      refine ⟨p, c, ns, at4, rest4, _, _, wd, acc, D, _, _, rfl, hp4, by omega, hwd, hacc, hla, hg, nDp, fun tl tv at5 rest5 H5 htv sb5 hp5 ha5 htl htp => ?_⟩
      refine ⟨p, c, ns, at5, rest5, _, _, wd, _, tl, tv, _, rfl, hp5, by omega, htl, htp, htv, fun tl2 gs s6' at6 rest6 H6 hgs sb6 hp6 ha6 htl2 htp2 => ?_⟩
      refine ⟨_, z1, z2, wd, _, tl2, gs, _, rfl, hz1, hz2, hwd, hgs, htl2, fun a H7 t ha sm ht => ?_⟩
      exact q a at6 rest6 H7 t ha (((((sb1.trans sb2).trans sb3).trans sb4).trans sb5).trans (sb6.trans (SB.of_same sm))) (hp6.same sm) (by omega) ht
end
end K88
end

section
set_option Elab.async false
set_option linter.all false
set_option maxRecDepth 100000
set_option maxHeartbeats 4000000
namespace K88
open PySem PySem.Spec PyProof.Rows L2 LamX
section
variable {X : Cx} {CX : CXT} {k : Nat} {f : Addr} {fd : FuncData} {ps ks : List Str} {sp : Sp} {E : XK} {x : Str} {p pos : Pos} {kws : List Keyword} {tk : TA} {g : List Value → List Value → List Value} {gV : List V → List V → List V}
/-- f(k = v, ..) -/
theorem pe_callK0 (F : FnOk X.prog X.w X.K X.mg X.base CX k f fd ps sp) (hr : Room k X.A) (hg : Gl X x) (hm : X.mg x = some (.ref f)) (hk : PySem.W.keepIn X.K (.ref f) = true) (hb : KBinds X.K fd ps ks g gV) (hx : Passes CX X E)
    (hkw : PK X kws tk) (hall : (backToKw pos (keywordEach kws X.env)).all (·.1.isSome) = true := by rfl) (hks : (backToKw pos (keywordEach kws X.env)).filterMap (·.1) = ks := by rfl)
    (hdb : (x == ("__debug__" : Str)) = false := by decide) (hpl : ((backTo pos (starEach [] X.env)).any (·.1) || (backToKw pos (keywordEach kws X.env)).any (·.1.isNone)) = false := by rfl) :
    PE X (.Call (.Name x p) [] kws pos) (fun σ H Q => tk σ H fun zs H2 => sp (gV [] zs) H2 Q E) := by
  refine ⟨fun pins s σ H Q I h => ?_⟩
  refine wpAny_Call_Name_kw (ld_glob I hg hm ?_ hdb)
  refine PySem.W.callWith_KW0 (h₀ := X.base) I.ok.mod.kin hk hall (thn (hkw.run pos pins s σ H _ I h) fun ws s2 ⟨zs, H2, I2, rz, q2⟩ => ⟨I2.kIn, ?_⟩) hpl
  rw [hks]
  exact run_fnk F hr hb hx I2 .nil rz q2
end
theorem passes_false {X : Cx} : Passes (L2.CX X.prog X.w) X (fun _ _ _ => False) := fun pins σ H s e s' I c => by
  obtain ⟨_, _, _, _, _, _, _, _, _, _, _, _, _, _, hE⟩ := call_air I c
  exact hE.elim
/-- one parameter, given by name -/
theorem kb1 {K : PySem.W.Frag} {x q : Str} {st : Stmt} {f : Addr} {fd : FuncData} {a : Str} (F : FnP K x q st f fd)
    (h1 : ∀ (kV doc pm : Value) (an : Option Addr) (cdv ct u : Value), bindArgs (PySem.W.fnOf x q (defArgs st) (defBody st) (defScope st) .none kV doc pm an cdv ct) ⟨[u], []⟩ = pure [(a, u)])
    (h2 : ∀ (kV doc pm : Value) (an : Option Addr) (cdv ct u : Value), bindArgs (PySem.W.fnOf x q (defArgs st) (defBody st) (defScope st) .none kV doc pm an cdv ct) ⟨[], [(a, u)]⟩ = pure [(a, u)]) :
    KBinds K fd [a] [a] (fun us ws => us ++ ws) (fun us ws => us ++ ws) := by
  obtain ⟨oc, od, dV, kV, doc, pm, an, cdv, ct, osl, rfl, lk, hcd, hD, hK⟩ := F.ex
  have ed : dV = .none := by
    rcases hD with ⟨_, e⟩ | ⟨e, _⟩
    · exact e
    · exact absurd rfl e
  subst ed
  refine ⟨fun s us ws _ hl => ?_, fun r1 r2 => r1.append r2⟩
  match us, ws, hl with
  | [u], [], _ => exact .of_eq (h1 kV doc pm an cdv ct u)
  | [], [u], _ => exact .of_eq (h2 kV doc pm an cdv ct u)
section
variable {w : World} {K : PySem.W.Frag} {mg : Str → Option Value} {base : Heap}
theorem heard_call {X : Cx} (T : Tx X.w X.K X.mg) {T' : List (Addr × Str)} {c P : Addr} {k : Nat} {params : Arguments} {body : Expr} {scope : Scope} {t : XK → TE} {p lpos pos : Pos} (hg : Gl X "_law_heard")
    (TB : TabB X.base X.mg c P) (hcode : X.env.code = .ref c) (hmT : (P, X.env.qual ++ "<lambda>") ∈ T') (hu : ∀ p ∈ T', p.1 = P → p.2 = X.env.qual ++ "<lambda>") (hr : Room (k + 2) X.A) (L : LamS X.env.scope scope) (hdef : defaultsOf params X.env = ([], []))
    (hbind : ∀ (q : Str) (cl : List (Str × Addr)) (pm cv ctv : Value), bindArgs (PySem.W.kla_fn "<lambda>" q params body scope cl pm cv ctv) ⟨[], []⟩ = pure [])
    (hbody : ∀ (A : Around) (outer : List Env) (s : Shared) (H : Hp) (E : XK) (f c' : Addr), Room k (A.deeper (lamEnv X scope s.heap.objs.size f c')) → PE (lamCx X A outer s H E scope f c') body (t E)) :
    PE X (.Call (.Name "_law_heard" p) [.Lambda params body scope lpos] [] pos) (tLam T' (TTheard X.K) t) := by
  obtain ⟨fd, F⟩ := T.fd 27 _ rfl
  have F : FnP X.K "_law_heard" "_law_heard" (top 46) (He.ga X.K "_law_heard") fd := F
  have b : L2.Binds X.K fd ["ask"] [] := F.bindsN fun _ _ _ _ _ _ us hl => match us, hl with | [_], _ => rfl
  obtain ⟨oc, od, dV, kV, doc, pm, an, cdv, ct, osl, rfl, lk, hcd, hD, hK⟩ := F.ex
  exact pe_lamcall hg T.g__law_heard F.kp lk hcd b sc_heard rfl (.inl rfl) (heard_gives rfl rfl rfl T) TB hcode hmT hu hr L hdef hbind hbody
theorem heard_call3 {X : Cx} (T : Tx X.w X.K X.mg) {a1 : Str} {n : Int} {cp : Pos} {ck : Tok} {T' : List (Addr × Str)} {c P : Addr} {k : Nat} {params : Arguments} {body : Expr} {scope : Scope} {t : XK → TE} {p lpos pos : Pos} (hg : Gl X "_law_heard")
    (TB : TabB X.base X.mg c P) (hcode : X.env.code = .ref c) (hmT : (P, X.env.qual ++ "<lambda>") ∈ T') (hu : ∀ p ∈ T', p.1 = P → p.2 = X.env.qual ++ "<lambda>") (hr : Room (k + 2) X.A) (L : LamD X.N X.env.scope scope a1) (hdef : defaultsOf params X.env = (evalEach [.Constant (.int n) ck cp] X.env, []))
    (hbind : ∀ (q : Str) (cl : List (Str × Addr)) (Td : Addr) (doc pm cv ctv : Value), ∃ k, bindArgs (PySem.W.kdv_fn "<lambda>" q params (.expr body) scope cl (.ref Td) doc pm cv ctv) ⟨[], []⟩ = seqItems? (.ref Td) >>= k ∧ ∀ v1, k (some #[v1]) = pure [(a1, v1)])
    (hbody : ∀ (A : Around) (outer : List Env) (s : Shared) (H : Hp) (E : XK) (f c' : Addr), Room k (A.deeper (lamEnv X scope s.heap.objs.size f c')) → PE (lamCx X A outer s H E scope f c') body (t E)) :
    PE X (.Call (.Name "_law_heard" p) [.Lambda params body scope lpos] [] pos) (tLam T' (TTheard X.K) t) := by
  obtain ⟨fd, F⟩ := T.fd 27 _ rfl
  have F : FnP X.K "_law_heard" "_law_heard" (top 46) (He.ga X.K "_law_heard") fd := F
  have b : L2.Binds X.K fd ["ask"] [] := F.bindsN fun _ _ _ _ _ _ us hl => match us, hl with | [_], _ => rfl
  obtain ⟨oc, od, dV, kV, doc, pm, an, cdv, ct, osl, rfl, lk, hcd, hD, hK⟩ := F.ex
  exact pe_lamcall3 hg T.g__law_heard F.kp lk hcd b sc_heard rfl (.inl rfl) (heard_gives rfl rfl rfl T) TB hcode hmT hu hr L hdef hbind hbody
end
abbrev nLaw : List Str := ["script", "pen", "turn", "ask", "words", "names", "at", "bad", "extra", "due", "some", "text", "odd", "heard", "part"]
theorem sc_law : FnScope nLaw ["script"] (defScope (top 48)) := ⟨rfl, rfl, rfl, by decide +kernel, rfl, by decide +kernel, by decide +kernel⟩
end K88
end

section
set_option Elab.async false
set_option linter.all false
set_option maxRecDepth 100000
set_option maxHeartbeats 4000000
namespace K88
open PySem PySem.Spec PyProof.Rows L2 LamX
def bodyFor (st : Stmt) : List Stmt := match (defBody st).getD 1 (.Pass ⟨0, 0, 0, 0⟩) with
  | .For _ _ b _ _ => b
  | _ => []
def qLam : Str := (envOfC "law" (defScope (top 48)) 0 0 .none).qual ++ "<lambda>"
def TT0 (P : Addr) : List (Addr × Str) := [(P, qLam)]
end K88
end

section
set_option Elab.async false
set_option linter.all false
set_option maxRecDepth 100000
set_option maxHeartbeats 4000000
/-! Joined words, split again. -/
namespace K88
open PySem PySem.Spec PyProof.Rows L2 TL
def wordOk (w : Str) : Prop := w.length ≤ 100 ∧ 32 ∉ tl w ∧ 10 ∉ tl w
def WordsOk (ws : List Str) : Prop := ws.length ≤ 60 ∧ ∀ w ∈ ws, wordOk w
theorem spc_tl : tl spc = 32 :: [] := by decide +kernel
theorem nl_tl : tl nl = 10 :: [] := by decide +kernel
theorem spc_len : spc.length = 1 := by decide +kernel
theorem sum_le {ws : List Str} {b : Nat} (h : ∀ w ∈ ws, w.length ≤ b) : (ws.map (·.length)).sum ≤ ws.length * b := by
  induction ws with
  | nil => simp
  | cons w r ih =>
    rw [List.map_cons, List.sum_cons, List.length_cons, Nat.succ_mul]
    have := h w List.mem_cons_self
    have := ih fun x hx => h x (List.mem_cons_of_mem _ hx)
    omega
theorem join_small {ws : List Str} (h : WordsOk ws) : (ws.map (·.length)).sum + ws.length * spc.length ≤ 16777216 := by
  have h1 := sum_le fun w hw => (h.2 w hw).1
  have h2 := h.1
  rw [spc_len]
  have : ws.length * 100 ≤ 60 * 100 := Nat.mul_le_mul_right _ h2
  omega
theorem joinL_len (s : Nat) : ∀ l : List (List Nat), (joinL [s] l).length ≤ (l.map List.length).sum + l.length
  | [] => by simp [joinL]
  | [p] => by simp [joinL]
  | p :: q :: r => by
    have ih := joinL_len s (q :: r)
    show (p ++ ([s] ++ joinL [s] (q :: r))).length ≤ _
    rw [List.length_append, List.length_append, List.map_cons, List.sum_cons, List.length_cons (as := q :: r)]
    have : ([s] : List Nat).length = 1 := rfl
    omega
theorem joinL_mem {s c : Nat} (hc : c ≠ s) : ∀ {l : List (List Nat)}, (∀ p ∈ l, c ∉ p) → c ∉ joinL [s] l
  | [], _ => by simp [joinL]
  | [p], h => h p List.mem_cons_self
  | p :: q :: r, h => fun hm => by
    have hm : c ∈ p ++ ([s] ++ joinL [s] (q :: r)) := hm
    rcases List.mem_append.mp hm with a | a
    · exact h p List.mem_cons_self a
    · rcases List.mem_append.mp a with a | a
      · exact hc (List.mem_singleton.mp a)
      · exact joinL_mem hc (fun x hx => h x (List.mem_cons_of_mem _ hx)) a
theorem join_tl (ws : List Str) : tl (Txt.join spc ws) = joinL [32] (ws.map tl) := by
  rw [join_eq, tl_join, spc_tl]
theorem join_len {ws : List Str} (h : WordsOk ws) : (Txt.join spc ws).length ≤ 1000000 := by
  rw [len_tl, join_tl]
  refine Nat.le_trans (joinL_len 32 _) ?_
  have h1 := sum_le fun w hw => (h.2 w hw).1
  have e : ((ws.map tl).map List.length) = ws.map (·.length) := by
    rw [List.map_map]
    exact List.map_congr_left fun w _ => (len_tl w).symm
  rw [e, List.length_map]
  have h2 := h.1
  have : ws.length * 100 ≤ 60 * 100 := Nat.mul_le_mul_right _ h2
  omega
theorem join_no10 {ws : List Str} (h : WordsOk ws) : 10 ∉ tl (Txt.join spc ws) := by
  rw [join_tl]
  refine joinL_mem (by decide) fun p hp => ?_
  obtain ⟨w, hw, rfl⟩ := List.mem_map.mp hp
  exact (h.2 w hw).2.2
theorem split_one {z : Str} (h : 10 ∉ tl z) : Txt.split z nl = [z] := by
  have e := split_join nl_tl (by decide +kernel) (parts := [z]) (by simp) (fun p hp => by rw [List.mem_singleton.mp hp]; exact h)
  have e2 : Txt.join nl [z] = z := by rw [join_eq]; rfl
  rw [e2] at e
  exact e
theorem split_words {ws : List Str} (h : WordsOk ws) (hne : ws ≠ []) : Txt.split (Txt.join spc ws) spc = ws :=
  split_join spc_tl (by decide +kernel) hne fun p hp => (h.2 p hp).2.1
theorem parse_none : parse [("" : Str)] = .error 0 := by kernel_rfl
theorem split_empty : Txt.split (Txt.join spc []) spc = [("" : Str)] := by
  have e := split_join (y := spc) spc_tl (by decide +kernel) (parts := [("" : Str)]) (by simp) (fun p hp => by rw [List.mem_singleton.mp hp, empty_tl]; simp)
  have e2 : Txt.join spc [("" : Str)] = Txt.join spc [] := by rw [join_eq, join_eq]; rfl
  rw [e2] at e
  exact e
/-- a reading of joined words -/
theorem read_words {K : PySem.W.Frag} {ws : List Str} {H : Hp} {Q : VK} {E : XK} (h : WordsOk ws) (h1 : ∀ xs, parse (if ws = [] then [("" : Str)] else ws) = .ok xs → ∀ p H', Same H H' → H' p = some (.tup xs) → Q (.ref p) H')
    (h2 : ∀ e : Nat, parse (if ws = [] then [("" : Str)] else ws) = .error e → BadTextS K 0 (e : Int) H E) : spRead K [.str (Txt.join spc ws)] H Q E := by
  have e : Txt.split (Txt.join spc ws) spc = if ws = [] then [("" : Str)] else ws := by
    by_cases hw : ws = []
    · rw [if_pos hw, hw, split_empty]
    · rw [if_neg hw, split_words h hw]
  refine ⟨_, rfl, .inr ⟨Txt.join spc ws, Txt.join spc ws, [], rfl, join_len h, split_one (join_no10 h), join_len h, ?_, ?_, ?_⟩⟩
  · rw [e]
    intro w hw
    by_cases hn : ws = []
    · rw [if_pos hn] at hw
      rw [List.mem_singleton.mp hw]
      decide +kernel
    · rw [if_neg hn] at hw
      exact Nat.le_trans (h.2 w hw).1 (by decide)
  · rw [e]
    exact fun xs hx => ⟨fun _ => h1 xs hx, fun hm => absurd hm (join_no10 h)⟩
  · rw [e]
    exact h2
/-! ### the words of an ask -/
theorem keys_ok : ∀ q ∈ shapes, wordOk q.1 := by
  have e : (shapes.all fun q => decide (q.1.length ≤ 100) && (!decide (32 ∈ tl q.1) && !decide (10 ∈ tl q.1))) = true := by decide +kernel
  intro q hq
  have := List.all_eq_true.mp e q hq
  simpa [wordOk] using this
theorem letters_lo : ∀ c ∈ letters.cps.toList, 97 ≤ c := by decide +kernel
theorem name_ok {z : Str} (h : isName z = true) : wordOk z := by
  unfold isName at h
  simp only [Bool.and_eq_true, decide_eq_true_eq] at h
  obtain ⟨⟨h1, h2⟩, h3⟩ := h
  have h3 : ∀ c ∈ tl z, 97 ≤ c := fun c hc => by
    rw [List.all_map, List.all_eq_true] at h3
    have := h3 c hc
    exact letters_lo c (by simpa using this)
  refine ⟨by omega, fun hm => ?_, fun hm => ?_⟩
  · have := h3 _ hm
    omega
  · have := h3 _ hm
    omega
theorem int_ok {i : Int} (h1 : -maxN ≤ i) (h2 : i ≤ maxN) : wordOk (toS i) := by
  cases i with
  | ofNat n =>
    have hn := lt_max (n := n) h2
    have hl : (numL n).length ≤ 60 := numL_len (by decide) hn
    have et : tl (toS (Int.ofNat n)) = numL n := tl_nat n
    refine ⟨by rw [len_tl, et]; omega, ?_, ?_⟩
    · rw [et]; exact numL_free (.inl (by decide))
    · rw [et]; exact numL_free (.inl (by decide))
  | negSucc n =>
    have hn : n + 1 < 10 ^ 60 := lt_max (n := n + 1) (by
      have : Int.negSucc n = -((n + 1 : Nat) : Int) := rfl
      rw [this] at h1
      omega)
    have hl : (numL (n + 1)).length ≤ 60 := numL_len (by decide) hn
    have et := tl_neg n
    refine ⟨by rw [len_tl, et, List.length_cons]; omega, ?_, ?_⟩
    · rw [et]
      intro hm
      rcases List.mem_cons.mp hm with e | e
      · cases e
      · exact numL_free (.inl (by decide)) e
    · rw [et]
      intro hm
      rcases List.mem_cons.mp hm with e | e
      · cases e
      · exact numL_free (.inl (by decide)) e
theorem lo_le (k : Str) : -maxN ≤ lo k := by
  unfold lo
  split
  · exact Int.le_refl _
  · decide
theorem numB_ok {k : Str} {v : V} (h : numB k v = true) : wordOk (wordV v) ∧ wordy v ∧ flat v = true ∧ ∀ z, v ≠ .str z := by
  cases v with
  | non => exact ⟨by unfold wordOk; decide +kernel, trivial, rfl, fun z => by intro e; cases e⟩
  | int i =>
    have h' : (decide (lo k ≤ i) && decide (i ≤ maxN)) = true := h
    obtain ⟨a, b⟩ := Bool.and_eq_true_iff.mp h'
    have a := of_decide_eq_true a
    have b := of_decide_eq_true b
    have a' := Int.le_trans (lo_le k) a
    refine ⟨int_ok a' b, ?_, rfl, fun z => by intro e; cases e⟩
    show i.natAbs.log2 < 1920
    have hb : i.natAbs < 2 ^ 1920 := by
      have : i.natAbs < 10 ^ 60 := by
        have e : ((10 : Int) ^ 60) = ((10 ^ 60 : Nat) : Int) := by decide
        have z1 : -((10 : Int) ^ 60 - 1) ≤ i := a'
        have z2 : i ≤ (10 : Int) ^ 60 - 1 := b
        rw [e] at z1 z2
        omega
      exact Nat.lt_of_lt_of_le this (Nat.le_trans (show 10 ^ 60 ≤ 2 ^ 200 by decide) (Nat.pow_le_pow_right (by decide) (by decide)))
    by_cases h0 : i.natAbs = 0
    · rw [h0]; decide
    · exact (Nat.log2_lt h0).mpr hb
  | _ => cases h
theorem good_mem : ∀ {ks : List Str} {g : List V}, good ks g → ∀ v ∈ g, ∃ k, numB k v = true
  | [], [], _, v, hv => by cases hv
  | k :: ks, a :: g, h, v, hv => by
    rcases List.mem_cons.mp hv with e | e
    · exact ⟨k, e ▸ h.1⟩
    · exact good_mem h.2 v e
theorem Ask.Ok.each {a : Ask} (h : a.Ok) : ∀ v ∈ a.xs, (v = .str a.w ∨ (∃ z, v = .str z ∧ isName z = true) ∨ ∃ k, numB k v = true) := fun v hv => by
  unfold Ask.xs Ask.head at hv
  rcases List.mem_append.mp hv with e | e
  · rcases List.mem_cons.mp e with e | e
    · exact .inl e
    · obtain ⟨z, hz, rfl⟩ := List.mem_map.mp e
      exact .inr (.inl ⟨z, rfl, h.nm z hz⟩)
  · obtain ⟨g, hg, hv⟩ := List.mem_flatten.mp e
    exact .inr (.inr (good_mem (h.gd g hg) v hv))
theorem Ask.Ok.wok {a : Ask} (h : a.Ok) : wordOk a.w := keys_ok (a.w, a.n, a.ks) (lookup_mem' h.sh)
theorem Ask.Ok.val {a : Ask} (h : a.Ok) : ∀ v ∈ a.xs, wordOk (wordV v) ∧ wordy v ∧ flat v = true := fun v hv => by
  rcases h.each v hv with e | ⟨z, e, hz⟩ | ⟨k, hk⟩
  · rw [e]; exact ⟨h.wok, trivial, decide_eq_true (Nat.le_trans h.wok.1 (by decide))⟩
  · rw [e]; exact ⟨name_ok hz, trivial, decide_eq_true (Nat.le_trans (name_ok hz).1 (by decide))⟩
  · exact ⟨(numB_ok hk).1, (numB_ok hk).2.1, (numB_ok hk).2.2.1⟩
theorem shapes_len : ∀ q ∈ shapes, 1 ≤ q.2.1 ∧ q.2.1 ≤ 2 ∧ (kindsOf q.2.2).length ≤ 4 := by decide +kernel
theorem Ask.Ok.len {a : Ask} (h : a.Ok) : a.xs.length ≤ 51 ∧ 2 ≤ a.xs.length := by
  have hs : 1 ≤ a.n ∧ a.n ≤ 2 ∧ (kindsOf a.ks).length ≤ 4 := shapes_len (a.w, a.n, a.ks) (lookup_mem' h.sh)
  have l1 := h.lhead
  unfold Ask.xs
  rw [List.length_append, l1]
  by_cases e : a.w = daysW
  · rw [h.flen e h.gd]
    have := h.days e
    have := (h.dk e).1
    omega
  · have h1 := h.one e
    obtain ⟨g, hg⟩ := List.length_eq_one_iff.mp h1
    have hg' := good_len (h.gd g (by rw [hg]; simp))
    rw [hg, List.flatten_cons, List.flatten_nil, List.append_nil]
    omega
theorem Ask.Ok.words {a : Ask} (h : a.Ok) : WordsOk a.ws := by
  refine ⟨by rw [len_ws]; have := h.len; omega, fun w hw => ?_⟩
  obtain ⟨v, hv, rfl⟩ := List.mem_map.mp hw
  exact (h.val v hv).1
theorem Ask.Ok.join {a : Ask} (h : a.Ok) : joinOk a.xs := ⟨join_small h.words, fun v hv => (h.val v hv).2.1⟩
theorem Ask.Ok.flats {a : Ask} (h : a.Ok) : flats a.xs := fun v hv => (h.val v hv).2.2
theorem Ask.Ok.ne {a : Ask} (h : a.Ok) : a.ws ≠ [] := fun e => by
  have h1 := h.len
  have h2 := len_ws a
  rw [e] at h2
  have : ([] : List Str).length = 0 := rfl
  omega
theorem Ask.Ok.seq {a : Ask} (h : a.Ok) {H : Hp} {p : Addr} (hp : H p = some (.lst a.xs) ∨ H p = some (.tup a.xs)) : SeqArg H (.ref p) a.xs :=
  ⟨p, rfl, hp, h.flats, by have := h.len; omega, fun z r e => by
    have e' : V.str a.w :: (a.names.map V.str ++ a.gs.flatten) = .str z :: r := e
    have e2 : a.w = z := by
      have := (List.cons.inj e').1
      exact V.str.inj this
    rw [← e2]
    exact .inl (by rw [h.sh]; rfl)⟩
theorem WordsOk.take {ws : List Str} (h : WordsOk ws) (i : Nat) : WordsOk (ws.take i) := ⟨by rw [List.length_take]; exact Nat.le_trans (Nat.min_le_right _ _) h.1, fun w hw => h.2 w (List.mem_of_mem_take hw)⟩
end K88
end

section
set_option Elab.async false
set_option linter.all false
set_option maxRecDepth 100000
set_option maxHeartbeats 4000000
/-! The law: the statements of one turn (the terms printed by mk_law1.py). -/
namespace K88
open PySem PySem.Spec PyProof.Rows L2 LamX
theorem Tabs.same {P : Addr} {H H' : Hp} (h : Tabs (TT0 P) H) (s : Same H H') : Tabs (TT0 P) H' := h.ext fun b o e => s b o e
theorem Tabs.sb {T : List (Addr × Str)} {H H' : Hp} {p : Addr} {xs : List V} (h : Tabs T H) (hp : H p = some (.lst xs)) (s : SB p H H') : Tabs T H' := fun q hq => by
  obtain ⟨ps, h1, h2, h3⟩ := h q hq
  refine ⟨ps, s _ _ (fun e => ?_) h1, h2, fun pos cv hc => ?_⟩
  · rw [e, hp] at h1
    cases h1
  · obtain ⟨c, e1, e2⟩ := h3 pos cv hc
    refine ⟨c, e1, s _ _ (fun e => ?_) e2⟩
    rw [e, hp] at e2
    cases e2
theorem Pen.extN {H H' : Hp} {p c : Addr} {ns : List Int} {at' : Nat} {rest : Int} (h : Pen H p c ns at' rest) (s : ExtN H H') : Pen H' p c ns at' rest := ⟨s _ _ h.1 (fun _ e => by cases e), s _ _ h.2.1 (fun _ e => by cases e), h.2.2⟩
theorem ext_lst {H H' : Hp} (s : ExtN H H') {p : Addr} {xs : List V} (h : H p = some (.lst xs)) : H' p = some (.lst xs) := s _ _ h (fun _ e => by cases e)
theorem ext_tup {H H' : Hp} (s : ExtN H H') {p : Addr} {xs : List V} (h : H p = some (.tup xs)) : H' p = some (.tup xs) := s _ _ h (fun _ e => by cases e)
theorem ExtN.same {H H' : Hp} (s : Same H H') : ExtN H H' := .of s
theorem letters_hi : ∀ c ∈ letters.cps.toList, c ≤ 122 := by decide +kernel
theorem name_simple {z : Str} (h : isName z = true) : simple (.str z) = true := by
  unfold isName at h
  simp only [Bool.and_eq_true, decide_eq_true_eq] at h
  obtain ⟨_, h3⟩ := h
  show PyData.strOk z = true
  unfold PyData.strOk
  rw [Array.all_eq_true']
  intro c hc
  rw [List.all_map, List.all_eq_true] at h3
  have h1 := h3 c (by simpa using hc)
  have h2 := letters_hi c (by simpa using h1)
  exact decide_eq_true (by omega)
theorem shapes_simple : ∀ q ∈ shapes, simple (.str q.1) = true := by decide +kernel
theorem Ask.Ok.simple {a : Ask} (h : a.Ok) : ∀ v ∈ a.xs, K88.simple v = true := fun v hv => by
  rcases h.each v hv with e | ⟨z, e, hz⟩ | ⟨k, hk⟩
  · rw [e]; exact shapes_simple (a.w, a.n, a.ks) (lookup_mem' h.sh)
  · rw [e]; exact name_simple hz
  · cases v with
    | str z => exact absurd rfl ((numB_ok hk).2.2.2 z)
    | non => rfl
    | int i => rfl
    | _ => cases hk
theorem neD_same {K : PySem.W.Frag} {H : Hp} {a b : Addr} {xs : List V} {Q : VK} (ha : H a = some (.tup xs)) (hb : H b = some (.tup xs)) (hs : ∀ v ∈ xs, simple v = true) (q : Q (.bl false) H) : rNeD K (.ref a) (.ref b) H Q := by
  refine ⟨_, _, .tup (SqT.of ha) (dpAll_simple hs), .tup (SqT.of hb) (dpAll_simple hs), shaped_tup hs, shaped_tup hs, ?_⟩
  have e : PyData.eqv (.tuple (xs.map dat)) (.tuple (xs.map dat)) = true := SeqAt.eqv_refl (.tuple (xs.map dat)) (lay_simple hs)
  rw [e]
  exact q
theorem text_simple (l i : Int) : ∀ v ∈ [V.str "text", .int l, .int i], simple v = true := fun v hv => by
  simp only [List.mem_cons, List.not_mem_nil, or_false] at hv
  rcases hv with rfl | rfl | rfl
  · decide +kernel
  · rfl
  · rfl
/-! readings -/
abbrev S15 : Type := List (Option V)
def tWords : TS := fun D σ H => ∃ (a : Ask) (t : Addr) (x0 x1 x2 x4 x5 x6 x7 x8 x9 x10 x11 x12 x13 x14 : Option V), a.Ok ∧ σ = [x0, x1, x2, some (.ref t), x4, x5, x6, x7, x8, x9, x10, x11, x12, x13, x14] ∧ H t = some (.tup a.xs) ∧ ∀ l H', Same H H' → H' l = some (.lst (a.ws.map V.str)) → D.nx [x0, x1, x2, some (.ref t), some (.ref l), x5, x6, x7, x8, x9, x10, x11, x12, x13, x14] H'
def tCheck : TS := fun D σ H => ∃ (a : Ask) (t l : Addr), a.Ok ∧ σ[3]? = some (some (.ref t)) ∧ σ[4]? = some (some (.ref l)) ∧ H t = some (.tup a.xs) ∧ H l = some (.lst (a.ws.map V.str)) ∧ ∀ H', Same H H' → D.nx σ H'
section
variable {w : World} {K : PySem.W.Frag} {mg : Str → Option Value} {base : Heap} {c P : Addr}
theorem st_words (T : Tx w K mg) (TB : TabB base mg c P) {A : Around} {outer : List Env} {s : Shared} {H0 : Hp} {E0 : XK} (hr : Room 10 (A.deeper (envOfC "law" (defScope (top 48)) s.heap.objs.size (He.ga K "law") (.ref c)))) :
    PS (cxOf CX0 Pr w K mg base nLaw "law" (defScope (top 48)) (He.ga K "law") (.ref c) A outer s H0 E0).nox ((bodyFor (top 48)).getD 1 (.Pass ⟨0,0,0,0⟩)) (tWords) := by
  obtain ⟨fdp, Gp, kp, bp⟩ := ok_pen (P := Pr) (base := base) T
  obtain ⟨fda, Ga, ka, ba⟩ := ok_la (P := Pr) (base := base) T
  obtain ⟨fdd, Gd, kd, bd⟩ := ok_draw (P := Pr) (base := base) T
  obtain ⟨fdi, Gi, ki, bi⟩ := ok_pick (P := Pr) (base := base) T
  obtain ⟨fdr, Fr, Gr, kr, br⟩ := ok_readF (base := base) T
  obtain ⟨fdt, Ft, Gt, kt, bt⟩ := ok_textF (base := base) T
  have hu : ∀ p ∈ TT0 P, p.1 = P → p.2 = qLam := fun p hp _ => by rw [List.mem_singleton.mp hp]
  let TT0 := TT0 P
  refine psImp (t' := tWords) (ps_set (i := 4) sc_law.nd rfl (Or.inr rfl) (pe_lc (own := [("part", 14)]) (g := gName 14) rfl sc_law.nd (pi_tup (pv 3)) (blkOk_by (own := [("part", 14)]) (N := nLaw) (sc := defScope (top 48)) (by decide +kernel))
          (fun _ _ _ _ _ => pg_name (i := 14) sc_law.nd rfl (Or.inl rfl)) (fun _ _ _ _ _ => pts_nil) (fun _ _ _ _ _ => pe_ifExp (pt_cmpR op_isN (pv 14) pe_non (nomark _)) pe_str (pe_callTy call_str_any rfl T.f_str (by decide +kernel) (pa_cons (pv 14) pa_nil))))) ?_
  rintro D σ H ⟨a, t, x0, x1, x2, x4, x5, x6, x7, x8, x9, x10, x11, x12, x13, x14, ha, rfl, ht, q⟩
  refine ⟨_, rfl, t, rfl, ⟨a.xs, SqT.of ht⟩, fun D hD => lc_tup (K := K) (a := t) (xs := a.xs) (fun i H' => Same H H' ∧ H' D = some (.lst (((a.xs.map wordV).map V.str).take i))) ⟨same_new hD, upd_same⟩ (fun i H' _ ⟨sm, _⟩ => SqT.of (sm _ _ ht)) (fun i x H' hi ⟨sm, hd⟩ => ?_) (fun H' ⟨sm, hd⟩ => ?_)⟩
  · have fin : ∃ acc, H' D = some (.lst acc) ∧ acc.length < sizeLine ∧ (Same H (upd H' D (.lst (acc ++ [.str (wordV x)]))) ∧ (upd H' D (.lst (acc ++ [.str (wordV x)]))) D = some (.lst (((a.xs.map wordV).map V.str).take (i + 1)))) := by
      refine ⟨_, hd, ?_, fun b o e => ?_, ?_⟩
      · rw [List.length_take, List.length_map, List.length_map]
        exact lin (Nat.le_trans (Nat.min_le_right _ _) (by have := ha.len; omega))
      · rw [upd_ne (ne_of_none e hD)]
        exact sm _ _ e
      · rw [upd_same]
        have h1 : (a.xs.map wordV)[i]? = some (wordV x) := by rw [List.getElem?_map, hi]; rfl
        rw [take_map h1]
    have hx := (ha.val x (List.mem_of_getElem? hi)).2.1
    refine ⟨rfl, _, rfl, rfl, _, rfl, ?_⟩
    cases x with
    | non => exact ifT rfl fin
    | int i => exact ifF rfl ⟨_, rfl, .inl ⟨i, rfl, hx, fin⟩⟩
    | str z => exact ifF rfl ⟨_, rfl, .inr ⟨z, rfl, fin⟩⟩
    | _ => exact False.elim hx
  · refine q D H' sm ?_
    rw [hd]
    have e : a.xs.length = ((a.xs.map wordV).map V.str).length := by rw [List.length_map, List.length_map]
    rw [e, List.take_length]
    rfl
theorem st_check (T : Tx w K mg) (TB : TabB base mg c P) {A : Around} {outer : List Env} {s : Shared} {H0 : Hp} {E0 : XK} (hr : Room 10 (A.deeper (envOfC "law" (defScope (top 48)) s.heap.objs.size (He.ga K "law") (.ref c)))) :
    PS (cxOf CX0 Pr w K mg base nLaw "law" (defScope (top 48)) (He.ga K "law") (.ref c) A outer s H0 E0).nox ((bodyFor (top 48)).getD 2 (.Pass ⟨0,0,0,0⟩)) (tCheck) := by
  obtain ⟨fdp, Gp, kp, bp⟩ := ok_pen (P := Pr) (base := base) T
  obtain ⟨fda, Ga, ka, ba⟩ := ok_la (P := Pr) (base := base) T
  obtain ⟨fdd, Gd, kd, bd⟩ := ok_draw (P := Pr) (base := base) T
  obtain ⟨fdi, Gi, ki, bi⟩ := ok_pick (P := Pr) (base := base) T
  obtain ⟨fdr, Fr, Gr, kr, br⟩ := ok_readF (base := base) T
  obtain ⟨fdt, Ft, Gt, kt, bt⟩ := ok_textF (base := base) T
  have hu : ∀ p ∈ TT0 P, p.1 = P → p.2 = qLam := fun p hp _ => by rw [List.mem_singleton.mp hp]
  let TT0 := TT0 P
  refine psImp (t' := tCheck) (ps_if (PW.pt (pw_or (pt_cmpR op_ne (pe_callK0 Gt (hr.mono (by decide)) rfl T.g_ask_text kt (kb1 Ft (fun _ _ _ _ _ _ _ => rfl) (fun _ _ _ _ _ _ _ => rfl)) passes_false (pk_cons (pv 3) pk_nil)) (pe_join pe_str (pv 4)) (nomark _))
           (pw_or (pt_cmpR (op_neD hr.units) (pe_callK0 Gr (hr.mono (by decide)) rfl T.g_read_ask kr (kb1 Fr (fun _ _ _ _ _ _ _ => rfl) (fun _ _ _ _ _ _ _ => rfl)) passes_false (pk_cons (pe_join pe_str (pv 4)) pk_nil)) (pv 3) (nomark _))
            (pw_or1 (pt_cmpR op_ne (pe_call Gt (hr.mono (by decide)) rfl T.g_ask_text kt bt .nil passes_false (pa_cons (pe_callTy call_list_of rfl T.f_list (by decide +kernel) (pa_cons (pv 3) pa_nil)) pa_nil)) (pe_join pe_str (pv 4)) (nomark _))))))
          (pss_one (ps_ret pe_bl)) pss_nil) ?_
  rintro D σ H ⟨a, t, l, ha, h3, h4, ht, hl, q⟩
  have hj := join_small ha.words
  have hw := ha.words
  refine ⟨_, h3, .ref t, rfl, .inr ⟨a.xs, ha.seq (.inr ht), isAsk_xs ha, ha.join, fun H1 s1 => ?_⟩⟩
  refine ⟨⟨_, rfl⟩, _, h4, spc, l, a.ws, rfl, rfl, .inl (SqL.of (s1 _ _ hl)), hj, rfl, _, rfl, ?_⟩
  have e1 : (!decide (V.str (textOf a.xs) = V.str (Txt.join spc a.ws))) = false := by
    rw [decide_eq_true (show V.str (textOf a.xs) = V.str (Txt.join spc a.ws) from rfl)] <;> rfl
  refine ifF e1 ?_
  refine ⟨⟨_, rfl⟩, _, h4, spc, l, a.ws, rfl, rfl, .inl (SqL.of (s1 _ _ hl)), hj, ?_⟩
  dsimp only [tNil, List.nil_append]
  refine read_words hw (fun xs hx p H2 s2 hp => ?_) (fun e he => ?_)
  · rw [if_neg ha.ne, parse_ws ha] at hx
    cases hx
    have s12 := s1.trans s2
    refine ⟨_, h3, neD_same hp (s12 _ _ ht) ha.simple ⟨_, rfl, ifF rfl ?_⟩⟩
    refine ⟨_, h3, t, a.xs, rfl, .inr (SqT.of (s12 _ _ ht)), fun l2 hl2 => ?_⟩
    have s3 := s12.trans (same_new (o := .lst a.xs) hl2)
    refine ⟨.ref l2, rfl, .inr ⟨a.xs, ha.seq (.inl upd_same), isAsk_xs ha, ha.join, fun H4 s4 => ?_⟩⟩
    have s34 := s3.trans s4
    refine ⟨⟨_, rfl⟩, _, h4, spc, l, a.ws, rfl, rfl, .inl (SqL.of (s34 _ _ hl)), hj, rfl, _, rfl, ?_⟩
    exact ifF e1 (q _ s34)
  · rw [if_neg ha.ne, parse_ws ha] at he
    cases he
end
end K88
end

section
set_option Elab.async false
set_option linter.all false
set_option maxRecDepth 100000
set_option maxHeartbeats 4000000
/-! The law: the lambdas of one turn (the terms printed by mk_law1.py). -/
namespace K88
open PySem PySem.Spec PyProof.Rows L2 LamX
def newWs (ws : List Str) (at' : Nat) (b : Str) : List Str := (ws.take at' ++ [b]) ++ ws.drop (at' + 1)
def tL1 (K : PySem.W.Frag) : XK → TE := fun E σ H Q => ∃ (wl : Addr) (ws : List Str) (at' : Nat) (bad : Str) (new : List Str), σ[4]? = some (some (.ref wl)) ∧ σ[6]? = some (some (.int (at' : Int))) ∧ σ[7]? = some (some (.str bad)) ∧ H wl = some (.lst (ws.map V.str)) ∧
  new = newWs ws at' (if 0 < at' then bad else "ring") ∧ ws.length ≤ 100 ∧ WordsOk new ∧ new ≠ [] ∧ ∃ e : Nat, parse new = .error e ∧ ∀ H', Same H H' → BadTextS K 0 (e : Int) H' E
def tL2 (K : PySem.W.Frag) : XK → TE := fun E σ H Q => ∃ (wl : Addr) (ws : List Str) (at' : Nat), σ[4]? = some (some (.ref wl)) ∧ σ[6]? = some (some (.int (at' : Int))) ∧ H wl = some (.lst (ws.map V.str)) ∧ WordsOk ws ∧
  (∀ xs, parse (if ws.take at' = [] then [("" : Str)] else ws.take at') = .ok xs → ∀ p H', Same H H' → H' p = some (.tup xs) → Q (.ref p) H') ∧ ∀ e : Nat, parse (if ws.take at' = [] then [("" : Str)] else ws.take at') = .error e → ∀ H', Same H H' → BadTextS K 0 (e : Int) H' E
theorem cut_d (xs : List V) (k : Nat) : cutV xs (some ((k : Int) + 1)) none = xs.drop (k + 1) := by
  have e : ((k : Int) + 1) = ((1 + k : Nat) : Int) := by omega
  rw [e, cut_tail, Nat.add_comm]
def tLap1 (P : Addr) : TS := fun D σ H => Tabs (TT0 P) H ∧ ∃ (wl : Addr) (ws : List Str) (at' : Nat) (bad : Str) (new : List Str), σ[4]? = some (some (.ref wl)) ∧ σ[6]? = some (some (.int (at' : Int))) ∧ σ[7]? = some (some (.str bad)) ∧ H wl = some (.lst (ws.map V.str)) ∧
  new = newWs ws at' (if 0 < at' then bad else "ring") ∧ ws.length ≤ 100 ∧ WordsOk new ∧ new ≠ [] ∧ parse new = .error at' ∧ ∀ H', ExtN H H' → Tabs (TT0 P) H' → D.nx σ H'
def tLap2 (P : Addr) : TS := fun D σ H => Tabs (TT0 P) H ∧ ∃ (a : Ask) (t wl : Addr) (at' : Nat), a.Ok ∧ σ[3]? = some (some (.ref t)) ∧ σ[4]? = some (some (.ref wl)) ∧ σ[6]? = some (some (.int (at' : Int))) ∧ H t = some (.tup a.xs) ∧ H wl = some (.lst (a.ws.map V.str)) ∧ at' < a.xs.length ∧
  ∀ H', ExtN H H' → Tabs (TT0 P) H' → D.nx σ H'
def tLap3 (P : Addr) : TS := fun D σ H => Tabs (TT0 P) H ∧ ∃ (ws : List Str) (e : Nat), σ[8]? = some (some (.str (Txt.join spc ws))) ∧ σ[9]? = some (some (.int (e : Int))) ∧ WordsOk ws ∧ ws ≠ [] ∧ parse ws = .error e ∧ ∀ H', ExtN H H' → Tabs (TT0 P) H' → D.nx σ H'
theorem heard_text {K : PySem.W.Frag} {Q : VK} {H : Hp} {e : Int} (h : ∀ H' p, Same H H' → H' p = some (.tup [.str "text", .int 0, .int e]) → Q (.ref p) H') : ∀ H', Same H H' → BadTextS K 0 e H' (eHeard K Q) :=
  fun H' s' d H2 s2 hd => .inl ⟨d, 0, e, rfl, rfl, hd, fun H3 p s3 n3 hp => h H3 p ((s'.trans s2).trans s3) hp⟩
theorem shaped_nest {xs : List V} (h : ∀ v ∈ xs, simple v = true) : SeqAt.shaped (.list [.tuple (xs.map dat)]) = true := by
  unfold SeqAt.shaped
  have d1 : (PyData.list [.tuple (xs.map dat)]).canLay0 = true := by
    show (PyData.canLayAll0 (xs.map dat) && true) = true
    rw [lay_simple h] <;> rfl
  rw [d1, Bool.true_and]
  refine decide_eq_true ?_
  simp only [PyData.depth, PyData.depthAll]
  rw [depth_simple]
  decide
theorem ws_take (a : Ask) (i : Nat) : a.ws.take i = (a.xs.take i).map wordV := by
  unfold Ask.ws
  rw [List.map_take]
/-- the words ahead of one -/
theorem parse_pre {a : Ask} (h : a.Ok) {i : Nat} (hi : i < a.xs.length) :
    if a.w = daysW ∧ 2 < i ∧ (i - 2) % 4 = 0 then ∃ ys, parse (if a.ws.take i = [] then [("" : Str)] else a.ws.take i) = .ok ys ∧ ∀ v ∈ ys, simple v = true else parse (if a.ws.take i = [] then [("" : Str)] else a.ws.take i) = .error i := by
  have hn : 0 < i → a.ws.take i ≠ [] := fun h0 e => by
    have := congrArg List.length e
    rw [List.length_take, len_ws] at this
    have z : ([] : List Str).length = 0 := rfl
    omega
  by_cases hs : a.w = daysW ∧ 2 < i ∧ (i - 2) % 4 = 0
  · rw [if_pos hs]
    obtain ⟨hw, h2, h4⟩ := hs
    rw [if_neg (hn (by omega))]
    obtain ⟨d1, d2⟩ := h.dk hw
    have fl := h.flen hw h.gd
    have l1 := h.lhead
    have lx : a.xs.length = 2 + 4 * a.gs.length := by
      unfold Ask.xs
      rw [List.length_append, l1, fl, d1]
    have ok' : (⟨a.w, a.n, a.ks, a.names, a.gs.take ((i - 2) / 4)⟩ : Ask).Ok := by
      refine ⟨h.sh, h.ln, h.nm, fun g hg => h.gd g (List.mem_of_mem_take hg), fun e => absurd hw e, fun _ => ?_⟩
      have := h.days hw
      show 1 ≤ (a.gs.take ((i - 2) / 4)).length ∧ (a.gs.take ((i - 2) / 4)).length ≤ 12
      rw [List.length_take]
      omega
    have hg1 : ∀ g ∈ a.gs.take ((i - 2) / 4), good (kindsOf a.ks) g := fun g hg => h.gd g (List.mem_of_mem_take hg)
    have l3 := h.flen hw hg1
    rw [List.length_take] at l3
    have ex : a.xs.take i = (⟨a.w, a.n, a.ks, a.names, a.gs.take ((i - 2) / 4)⟩ : Ask).xs := by
      show (a.head ++ a.gs.flatten).take i = a.head ++ (a.gs.take ((i - 2) / 4)).flatten
      have es : a.gs.flatten = (a.gs.take ((i - 2) / 4)).flatten ++ (a.gs.drop ((i - 2) / 4)).flatten := by
        rw [← List.flatten_append, List.take_append_drop]
      rw [es, ← List.append_assoc]
      have li : i = (a.head ++ (a.gs.take ((i - 2) / 4)).flatten).length := by
        rw [List.length_append, l1, l3, d1]
        omega
      rw [show List.take i ((a.head ++ (a.gs.take ((i - 2) / 4)).flatten) ++ (a.gs.drop ((i - 2) / 4)).flatten) = List.take (a.head ++ (a.gs.take ((i - 2) / 4)).flatten).length ((a.head ++ (a.gs.take ((i - 2) / 4)).flatten) ++ (a.gs.drop ((i - 2) / 4)).flatten) from by rw [← li], List.take_left]
    refine ⟨_, ?_, ok'.simple⟩
    rw [ws_take, ex]
    exact parse_ws ok'
  · rw [if_neg hs]
    by_cases h0 : i = 0
    · subst h0
      exact parse_none
    · rw [if_neg (hn (by omega))]
      have z := parse_stop h (i := i) (by omega) hi (tl' := []) (.inl rfl) (fun _ => hs)
      rw [List.append_nil] at z
      exact z
section
variable {w : World} {K : PySem.W.Frag} {mg : Str → Option Value} {base : Heap} {c P : Addr}
theorem st_lap1 (T : Tx w K mg) (TB : TabB base mg c P) {A : Around} {outer : List Env} {s : Shared} {H0 : Hp} {E0 : XK} (hr : Room 10 (A.deeper (envOfC "law" (defScope (top 48)) s.heap.objs.size (He.ga K "law") (.ref c)))) :
    PS (cxOf CX0 Pr w K mg base nLaw "law" (defScope (top 48)) (He.ga K "law") (.ref c) A outer s H0 E0).nox ((bodyFor (top 48)).getD 6 (.Pass ⟨0,0,0,0⟩)) (tLap1 P) := by
  obtain ⟨fdp, Gp, kp, bp⟩ := ok_pen (P := Pr) (base := base) T
  obtain ⟨fda, Ga, ka, ba⟩ := ok_la (P := Pr) (base := base) T
  obtain ⟨fdd, Gd, kd, bd⟩ := ok_draw (P := Pr) (base := base) T
  obtain ⟨fdi, Gi, ki, bi⟩ := ok_pick (P := Pr) (base := base) T
  obtain ⟨fdr, Fr, Gr, kr, br⟩ := ok_readF (base := base) T
  obtain ⟨fdt, Ft, Gt, kt, bt⟩ := ok_textF (base := base) T
  have hu : ∀ p ∈ TT0 P, p.1 = P → p.2 = qLam := fun p hp _ => by rw [List.mem_singleton.mp hp]
  let TT0 := TT0 P
  refine psImp (t' := tLap1 P) (ps_if (pt_cmpR (op_neD hr.units) (heard_call T (T' := TT0) rfl TB rfl (List.mem_singleton.mpr rfl) hu hr (lamS_by (sc := defScope (top 48)) (by decide +kernel)) rfl (fun _ _ _ _ _ => rfl) (fun A outer s H E f c' hr2 => peImp (t' := tL1 K E) (pe_call Gr hr2 rfl T.g_read_ask kr br .nil (passes_call (takes_of rfl rfl rfl rfl) fun _ _ _ _ h => h) (pa_cons (pe_join pe_str (pe_op op_cat (pe_op op_cat (pe_slice sl_list (pv 4) po_none (po_some (pv 6))) (pe_lst (pa_cons (pe_ifExp (pt_cmpR op_gt (pv 6) pe_int (nomark _)) (pv 7) pe_str) pa_nil))) (pe_slice sl_list (pv 4) (po_some (pe_op op_add (pv 6) pe_int)) po_none))) pa_nil)) (by
    rintro σ H Q ⟨wl, ws, at', bad, new, h4, h6, h7, hwl, rfl, hlen, hok, hne, e, he, q⟩
    refine ⟨⟨_, rfl⟩, _, h4, _, h6, ((at' : Nat) : Int), rfl, wl, _, rfl, SqL.of hwl, fun p1 n1 => ?_⟩
    rw [cut_k]
    refine ⟨_, h6, _, _, rfl, rfl, _, rfl, ?_⟩
    by_cases h0 : 0 < at'
    · refine ifT (decide_eq_true (by omega)) ?_
      rw [if_pos h0] at hok hne he
      refine ⟨_, h7, by show (1 : Nat) ≤ sizeLine; decide, fun p2 n2 => ?_⟩
      have s1 := same_new (o := .lst ((ws.map V.str).take at')) n1
      have s2 := same_new (o := .lst [.str bad]) n2
      have s12 := s1.trans s2
      refine ⟨p1, p2, _, _, rfl, rfl, s2 _ _ upd_same, upd_same, ?_, fun p3 n3 => ?_⟩
      · rw [List.length_take, List.length_map]
        exact Nat.le_of_lt (lin (by show min at' ws.length + 1 ≤ 1000; have := hlen; omega))
      have s3 := same_new (o := .lst ((ws.map V.str).take at' ++ [.str bad])) n3
      have s13 := s12.trans s3
      refine ⟨_, h4, _, h6, _, _, rfl, rfl, (at' : Int) + 1, rfl, wl, _, rfl, SqL.of (s13 _ _ hwl), fun p4 n4 => ?_⟩
      rw [cut_d]
      have s4 := same_new (o := .lst ((ws.map V.str).drop (at' + 1))) n4
      refine ⟨p3, p4, _, _, rfl, rfl, s4 _ _ upd_same, upd_same, ?_, fun p5 n5 => ?_⟩
      · rw [List.length_append, List.length_take, List.length_drop, List.length_map]
        exact Nat.le_of_lt (lin (by show min at' ws.length + 1 + (ws.length - (at' + 1)) ≤ 1000; have := hlen; omega))
      have s5 := same_new (o := .lst (((ws.map V.str).take at' ++ [.str bad]) ++ (ws.map V.str).drop (at' + 1))) n5
      refine ⟨spc, p5, newWs ws at' bad, rfl, rfl, .inl (SqL.of (by rw [upd_same]; unfold newWs; simp [List.map_append, List.map_take, List.map_drop])), join_small hok, ?_⟩
      dsimp only [tNil, List.nil_append]
      refine read_words hok (fun xs hx => ?_) (fun e' hx => ?_)
      · rw [if_neg hne, he] at hx
        cases hx
      · rw [if_neg hne, he] at hx
        cases hx
        exact q _ ((s13.trans s4).trans s5)
    · refine ifF (decide_eq_false (by omega)) ?_
      rw [if_neg h0] at hok hne he
      refine ⟨by show (1 : Nat) ≤ sizeLine; decide, fun p2 n2 => ?_⟩
      have s1 := same_new (o := .lst ((ws.map V.str).take at')) n1
      have s2 := same_new (o := .lst [.str "ring"]) n2
      have s12 := s1.trans s2
      refine ⟨p1, p2, _, _, rfl, rfl, s2 _ _ upd_same, upd_same, ?_, fun p3 n3 => ?_⟩
      · rw [List.length_take, List.length_map]
        exact Nat.le_of_lt (lin (by show min at' ws.length + 1 ≤ 1000; have := hlen; omega))
      have s3 := same_new (o := .lst ((ws.map V.str).take at' ++ [.str "ring"])) n3
      have s13 := s12.trans s3
      refine ⟨_, h4, _, h6, _, _, rfl, rfl, (at' : Int) + 1, rfl, wl, _, rfl, SqL.of (s13 _ _ hwl), fun p4 n4 => ?_⟩
      rw [cut_d]
      have s4 := same_new (o := .lst ((ws.map V.str).drop (at' + 1))) n4
      refine ⟨p3, p4, _, _, rfl, rfl, s4 _ _ upd_same, upd_same, ?_, fun p5 n5 => ?_⟩
      · rw [List.length_append, List.length_take, List.length_drop, List.length_map]
        exact Nat.le_of_lt (lin (by show min at' ws.length + 1 + (ws.length - (at' + 1)) ≤ 1000; have := hlen; omega))
      have s5 := same_new (o := .lst (((ws.map V.str).take at' ++ [.str "ring"]) ++ (ws.map V.str).drop (at' + 1))) n5
      refine ⟨spc, p5, newWs ws at' "ring", rfl, rfl, .inl (SqL.of (by rw [upd_same]; unfold newWs; simp [List.map_append, List.map_take, List.map_drop])), join_small hok, ?_⟩
      dsimp only [tNil, List.nil_append]
      refine read_words hok (fun xs hx => ?_) (fun e' hx => ?_)
      · rw [if_neg hne, he] at hx
        cases hx
      · rw [if_neg hne, he] at hx
        cases hx
        exact q _ ((s13.trans s4).trans s5)))) (pe_tup (pa_cons pe_str (pa_cons pe_int (pa_cons (pv 6) pa_nil)))) (nomark _)) (pss_one (ps_ret pe_bl)) pss_nil) ?_
  rintro D σ H ⟨hT, wl, ws, at', bad, new, h4, h6, h7, hwl, hn, hlen, hok, hne, hp, q⟩
  refine ⟨hT, fun H1 e1 T1 => ?_⟩
  refine ⟨wl, ws, at', bad, new, h4, h6, h7, ext_lst e1 hwl, hn, hlen, hok, hne, at', hp, heard_text fun H2 p s2 hp => ?_⟩
  refine ⟨_, h6, by show (3 : Nat) ≤ sizeLine; decide, fun p2 n2 => ?_⟩
  have s3 := same_new (o := .tup [.str "text", .int 0, .int (at' : Int)]) n2
  refine neD_same (s3 _ _ hp) upd_same (text_simple 0 at') ⟨_, rfl, ifF rfl (q _ (e1.trans (LamX.ExtN.of (s2.trans s3))) (Tabs.same T1 (s2.trans s3)))⟩
theorem st_lap3 (T : Tx w K mg) (TB : TabB base mg c P) {A : Around} {outer : List Env} {s : Shared} {H0 : Hp} {E0 : XK} (hr : Room 10 (A.deeper (envOfC "law" (defScope (top 48)) s.heap.objs.size (He.ga K "law") (.ref c)))) :
    PS (cxOf CX0 Pr w K mg base nLaw "law" (defScope (top 48)) (He.ga K "law") (.ref c) A outer s H0 E0).nox ((bodyFor (top 48)).getD 10 (.Pass ⟨0,0,0,0⟩)) (tLap3 P) := by
  obtain ⟨fdp, Gp, kp, bp⟩ := ok_pen (P := Pr) (base := base) T
  obtain ⟨fda, Ga, ka, ba⟩ := ok_la (P := Pr) (base := base) T
  obtain ⟨fdd, Gd, kd, bd⟩ := ok_draw (P := Pr) (base := base) T
  obtain ⟨fdi, Gi, ki, bi⟩ := ok_pick (P := Pr) (base := base) T
  obtain ⟨fdr, Fr, Gr, kr, br⟩ := ok_readF (base := base) T
  obtain ⟨fdt, Ft, Gt, kt, bt⟩ := ok_textF (base := base) T
  have hu : ∀ p ∈ TT0 P, p.1 = P → p.2 = qLam := fun p hp _ => by rw [List.mem_singleton.mp hp]
  let TT0 := TT0 P
  refine psImp (t' := tLap3 P) (ps_if (pt_cmpR (op_neD hr.units) (heard_call T (T' := TT0) rfl TB rfl (List.mem_singleton.mpr rfl) hu hr (lamS_by (sc := defScope (top 48)) (by decide +kernel)) rfl (fun _ _ _ _ _ => rfl) (fun A outer s H E f c' hr2 => (pe_call Gr hr2 rfl T.g_read_ask kr br .nil (passes_call (takes_of rfl rfl rfl rfl) fun _ _ _ _ h => h) (pa_cons (pv 8) pa_nil)))) (pe_tup (pa_cons pe_str (pa_cons pe_int (pa_cons (pv 9) pa_nil)))) (nomark _)) (pss_one (ps_ret pe_bl)) pss_nil) ?_
  rintro D σ H ⟨hT, ws, e, h8, h9, hok, hne, hp, q⟩
  refine ⟨hT, fun H1 e1 T1 => ?_⟩
  refine ⟨_, h8, ?_⟩
  dsimp only [tNil, List.nil_append]
  refine read_words hok (fun xs hx => ?_) (fun e' hx => ?_)
  · rw [if_neg hne, hp] at hx
    cases hx
  · rw [if_neg hne, hp] at hx
    cases hx
    refine heard_text (fun H2 p s2 hp => ?_) _ (fun b o e => e)
    refine ⟨_, h9, by show (3 : Nat) ≤ sizeLine; decide, fun p2 n2 => ?_⟩
    have s3 := same_new (o := .tup [.str "text", .int 0, .int (e : Int)]) n2
    exact neD_same (s3 _ _ hp) upd_same (text_simple 0 e) ⟨_, rfl, ifF rfl (q _ (e1.trans (LamX.ExtN.of (s2.trans s3))) (Tabs.same T1 (s2.trans s3)))⟩
theorem st_lap2 (T : Tx w K mg) (TB : TabB base mg c P) {A : Around} {outer : List Env} {s : Shared} {H0 : Hp} {E0 : XK} (hr : Room 10 (A.deeper (envOfC "law" (defScope (top 48)) s.heap.objs.size (He.ga K "law") (.ref c)))) :
    PS (cxOf CX0 Pr w K mg base nLaw "law" (defScope (top 48)) (He.ga K "law") (.ref c) A outer s H0 E0).nox ((bodyFor (top 48)).getD 7 (.Pass ⟨0,0,0,0⟩)) (tLap2 P) := by
  obtain ⟨fdp, Gp, kp, bp⟩ := ok_pen (P := Pr) (base := base) T
  obtain ⟨fda, Ga, ka, ba⟩ := ok_la (P := Pr) (base := base) T
  obtain ⟨fdd, Gd, kd, bd⟩ := ok_draw (P := Pr) (base := base) T
  obtain ⟨fdi, Gi, ki, bi⟩ := ok_pick (P := Pr) (base := base) T
  obtain ⟨fdr, Fr, Gr, kr, br⟩ := ok_readF (base := base) T
  obtain ⟨fdt, Ft, Gt, kt, bt⟩ := ok_textF (base := base) T
  have hu : ∀ p ∈ TT0 P, p.1 = P → p.2 = qLam := fun p hp _ => by rw [List.mem_singleton.mp hp]
  let TT0 := TT0 P
  refine psImp (t' := tLap2 P) (ps_if (PW.pt (pw_and (pt_cmpR (op_neD hr.units) (heard_call T (T' := TT0) rfl TB rfl (List.mem_singleton.mpr rfl) hu hr (lamS_by (sc := defScope (top 48)) (by decide +kernel)) rfl (fun _ _ _ _ _ => rfl) (fun A outer s H E f c' hr2 => peImp (t' := tL2 K E) (pe_call Gr hr2 rfl T.g_read_ask kr br .nil (passes_call (takes_of rfl rfl rfl rfl) fun _ _ _ _ h => h) (pa_cons (pe_join pe_str (pe_slice sl_list (pv 4) po_none (po_some (pv 6)))) pa_nil)) (by
    rintro σ H Q ⟨wl, ws, at', h4, h6, hwl, hok, q1, q2⟩
    refine ⟨⟨_, rfl⟩, _, h4, _, h6, ((at' : Nat) : Int), rfl, wl, _, rfl, SqL.of hwl, fun p1 n1 => ?_⟩
    rw [cut_k]
    have sm := same_new (o := .lst ((ws.map V.str).take at')) n1
    refine ⟨spc, p1, ws.take at', rfl, rfl, .inl (SqL.of (by rw [upd_same, List.map_take])), join_small (hok.take at'), ?_⟩
    dsimp only [tNil, List.nil_append]
    exact read_words (hok.take at') (fun xs hx p H' s' hp => q1 xs hx p H' (sm.trans s') hp) (fun e he => q2 e he _ sm)))) (pe_ifExp (pt_cmpR op_gt (pv 6) pe_int (nomark _)) (pe_tup (pa_cons pe_str (pa_cons pe_int (pa_cons (pv 6) pa_nil)))) (pe_tup (pa_cons pe_str (pa_cons pe_int (pa_cons pe_int pa_nil))))) (nomark _))
           (pw_and1 (pt_not (PW.pt (pw_and (pt_cmpR op_eq (pe_ix ix_tup (pv 3) pe_int (fun _ _ => rfl)) pe_str (nomark _)) (pw_and (pt_cmpR op_gt (pv 6) pe_int (nomark _)) (pw_and1 (pt_cmpR op_eq (pe_op op_mod (pe_callTy call_int1 rfl T.f_int boot_int (pa_cons (pe_op op_sub (pv 6) pe_int) pa_nil)) pe_int) pe_int (nomark _))))))))))
          (pss_one (ps_ret pe_bl)) pss_nil) ?_
  rintro D σ H ⟨hT, a, t, wl, at', ha, h3, h4, h6, ht, hwl, hlt, q⟩
  refine ⟨hT, fun H1 e1 T1 => ?_⟩
  have hpar := parse_pre ha hlt
  refine ⟨wl, a.ws, at', h4, h6, ext_lst e1 hwl, ha.words, fun xs hx p H2 s2 hp => ?_, fun e he => heard_text fun H2 p s2 hp => ?_⟩
  · by_cases hs : a.w = daysW ∧ 2 < at' ∧ (at' - 2) % 4 = 0
    · rw [if_pos hs] at hpar
      obtain ⟨ys, hy, hsim⟩ := hpar
      have exy : xs = ys := by
        rw [hx] at hy
        exact Except.ok.inj hy
      subst exy
      refine ⟨by show (1 : Nat) ≤ sizeLine; decide, fun l nl => ?_⟩
      have s3 := same_new (o := .lst [.ref p]) nl
      refine ⟨_, h6, _, _, rfl, rfl, _, rfl, ifT (decide_eq_true (by omega)) ?_⟩
      refine ⟨_, h6, by show (3 : Nat) ≤ sizeLine; decide, fun p2 n2 => ?_⟩
      have s4 := same_new (o := .tup [.str "text", .int 0, .int (at' : Int)]) n2
      have s24 := s2.trans (s3.trans s4)
      refine ⟨_, _, .lst (SqL.of (s4 _ _ upd_same)) (.cons (.tup (SqT.of (s4 _ _ (s3 _ _ hp))) (dpAll_simple hsim)) .nil), .tup (SqT.of upd_same) (dpAll_simple (text_simple 0 at')), shaped_nest hsim, shaped_tup (text_simple 0 at'), _, rfl, ?_⟩
      refine ifT (by rw [PyData.eqv] <;> rfl) ?_
      have htt := SqT.of (K := K) (s24 _ _ (ext_tup e1 ht))
      refine ⟨_, h3, t, a.xs, 0, .str a.w, rfl, rfl, htt, atI_nat (j := 0) rfl, rfl, _, rfl, ifT (decide_eq_true (congrArg V.str hs.1)) ?_⟩
      refine ⟨_, h6, _, _, rfl, rfl, _, rfl, ifT (decide_eq_true (by omega)) ?_⟩
      refine ⟨_, h6, _, _, rfl, rfl, .inl ⟨_, rfl, _, _, rfl, rfl, (by show (0 : Int) < 4; decide), rfl, _, rfl, ?_⟩⟩
      have e0 : ((at' : Int) - 2) % 4 = 0 := by omega
      refine ifF (by rw [decide_eq_true (congrArg V.int e0)] <;> rfl) ?_
      exact q _ (e1.trans (LamX.ExtN.of s24)) (Tabs.same T1 s24)
    · rw [if_neg hs] at hpar
      rw [hx] at hpar
      cases hpar
  · by_cases hs : a.w = daysW ∧ 2 < at' ∧ (at' - 2) % 4 = 0
    · rw [if_pos hs] at hpar
      obtain ⟨ys, hy, _⟩ := hpar
      rw [he] at hy
      cases hy
    · rw [if_neg hs, he] at hpar
      cases hpar
      by_cases h0 : 0 < at'
      · refine ⟨_, h6, _, _, rfl, rfl, _, rfl, ifT (decide_eq_true (by omega)) ?_⟩
        refine ⟨_, h6, by show (3 : Nat) ≤ sizeLine; decide, fun p2 n2 => ?_⟩
        have s3 := same_new (o := .tup [.str "text", .int 0, .int (at' : Int)]) n2
        exact neD_same (s3 _ _ hp) upd_same (text_simple 0 at') ⟨_, rfl, ifF rfl (ifF rfl (q _ (e1.trans (LamX.ExtN.of (s2.trans s3))) (Tabs.same T1 (s2.trans s3))))⟩
      · have z0 : at' = 0 := by omega
        subst z0
        refine ⟨_, h6, _, _, rfl, rfl, _, rfl, ifF (decide_eq_false (by omega)) ?_⟩
        refine ⟨by show (3 : Nat) ≤ sizeLine; decide, fun p2 n2 => ?_⟩
        have s3 := same_new (o := .tup [.str "text", .int 0, .int 0]) n2
        exact neD_same (s3 _ _ hp) upd_same (text_simple 0 0) ⟨_, rfl, ifF rfl (ifF rfl (q _ (e1.trans (LamX.ExtN.of (s2.trans s3))) (Tabs.same T1 (s2.trans s3))))⟩
end
end K88
end

section
set_option Elab.async false
set_option linter.all false
set_option maxRecDepth 100000
set_option maxHeartbeats 4000000
/-! The law: one turn whole (the terms printed by mk_law1.py). -/
namespace K88
open PySem PySem.Spec PyProof.Rows L2 LamX
def badOf (i n : Nat) : Str := if 0 < i ∧ i < n then "Up" else "x"
def dueOf (a : Ask) : Nat := a.ws.length + if a.w = daysW ∧ a.ws.length < 50 then 1 else 0
def tNms : TS := fun D σ H => ∃ (a : Ask) (t : Addr), a.Ok ∧ σ[3]? = some (some (.ref t)) ∧ H t = some (.tup a.xs) ∧ ∀ H', Same H H' → D.nx (σ.set 5 (some (.int ((a.n + 1 : Nat) : Int)))) H'
def tBadS : TS := fun D σ H => ∃ at' n : Nat, σ[6]? = some (some (.int (at' : Int))) ∧ σ[5]? = some (some (.int (n : Int))) ∧ D.nx (σ.set 7 (some (.str (badOf at' n)))) H
def tExtra : TS := fun D σ H => ∃ (wl : Addr) (ws : List Str), σ[4]? = some (some (.ref wl)) ∧ H wl = some (.lst (ws.map V.str)) ∧ WordsOk (ws ++ [("7" : Str)]) ∧ ∀ H', Same H H' → D.nx (σ.set 8 (some (.str (Txt.join spc (ws ++ [("7" : Str)]))))) H'
def tDue : TS := fun D σ H => ∃ (a : Ask) (t wl : Addr), a.Ok ∧ σ[3]? = some (some (.ref t)) ∧ σ[4]? = some (some (.ref wl)) ∧ H t = some (.tup a.xs) ∧ H wl = some (.lst (a.ws.map V.str)) ∧ D.nx (σ.set 9 (some (.int ((dueOf a : Nat) : Int)))) H
theorem up_bad : okName "Up" = none := by kernel_rfl
theorem x_bad (k : Str) : okNum k "x" = none := by
  have e : intIn "x" = none := by kernel_rfl
  unfold okNum
  rw [if_neg (fun q => absurd q.2 (by decide +kernel)), e]
theorem ring_none (r : List Str) : parse (("ring" : Str) :: r) = .error 0 := by
  have e : shapeOf "ring" = none := by kernel_rfl
  unfold parse takeR
  show (match (match shapeOf "ring" with
      | none => Except.error 0
      | some (n, ks) => match runW (("ring" : Str) :: r) (List.replicate n okName) 1 with
        | .error e => .error e
        | .ok names => lapsR (("ring" : Str) :: r) "ring" ks 13 (.str "ring" :: names)) with
    | .error e => Except.error e
    | .ok xs => if xs.length = (("ring" : Str) :: r).length then .ok xs else .error xs.length) = _
  rw [e]
theorem bad_parse {a : Ask} (h : a.Ok) {i : Nat} (hi : i < a.xs.length) : parse (newWs a.ws i (if 0 < i then badOf i (a.n + 1) else "ring")) = .error i := by
  unfold newWs
  by_cases h0 : 0 < i
  · rw [if_pos h0, List.append_assoc]
    refine parse_stop h h0 hi (tl' := [badOf i (a.n + 1)] ++ a.ws.drop (i + 1)) (.inr ⟨_, _, rfl, fun hn => ?_, fun k hn => ?_⟩) (fun e => by cases e)
    · unfold badOf
      rw [if_pos ⟨h0, by omega⟩]
      exact up_bad
    · unfold badOf
      rw [if_neg (by omega)]
      exact x_bad k
  · have z : i = 0 := by omega
    subst z
    rw [if_neg h0]
    exact ring_none _
theorem word_lit (z : Str) (h : (decide (z.length ≤ 100) && (!decide (32 ∈ TL.tl z) && !decide (10 ∈ TL.tl z))) = true) : wordOk z := by simpa [wordOk] using h
theorem bad_ok (i n : Nat) : wordOk (if 0 < i then badOf i n else "ring") := by
  unfold badOf
  split
  · split
    · exact word_lit _ (by decide +kernel)
    · exact word_lit _ (by decide +kernel)
  · exact word_lit _ (by decide +kernel)
theorem new_ok {a : Ask} (h : a.Ok) (i : Nat) {b : Str} (hb : wordOk b) : WordsOk (newWs a.ws i b) := by
  have hl := h.len
  have lw := len_ws a
  refine ⟨?_, fun w hw => ?_⟩
  · unfold newWs
    rw [List.length_append, List.length_append, List.length_take, List.length_drop]
    show min i a.ws.length + 1 + (a.ws.length - (i + 1)) ≤ 60
    omega
  · unfold newWs at hw
    rcases List.mem_append.mp hw with e | e
    · rcases List.mem_append.mp e with e | e
      · exact h.words.2 w (List.mem_of_mem_take e)
      · rw [List.mem_singleton.mp e]; exact hb
    · exact h.words.2 w (List.mem_of_mem_drop e)
theorem extra_ok {a : Ask} (h : a.Ok) : WordsOk (a.ws ++ [("7" : Str)]) := by
  have hl := h.len
  have lw := len_ws a
  refine ⟨by rw [List.length_append]; show a.ws.length + 1 ≤ 60; omega, fun w hw => ?_⟩
  rcases List.mem_append.mp hw with e | e
  · exact h.words.2 w e
  · rw [List.mem_singleton.mp e]; exact word_lit _ (by decide +kernel)
theorem words_ne {a : Ask} {c : Addr} {r : List V} : a.ws.map V.str ≠ .ref c :: r := fun e => by
  have e' : V.str a.w :: ((a.names.map V.str ++ a.gs.flatten).map wordV).map V.str = .ref c :: r := e
  cases e'
/-- a pen in slot 1, the tables of the lambdas -/
def LawSt (P p c : Addr) (ns : List Int) (b : Nat) : L2.St → Hp → Prop := fun σ H => ∃ (x0 x2 x3 x4 x5 x6 x7 x8 x9 x10 x11 x12 x13 x14 : Option V) (at' : Nat) (rest : Int), σ = [x0, some (.ref p), x2, x3, x4, x5, x6, x7, x8, x9, x10, x11, x12, x13, x14] ∧ Pen H p c ns at' rest ∧ at' ≤ b ∧ Tabs (TT0 P) H
def tTurn (P : Addr) : TS := fun D σ H => ∃ p c ns b, LawSt P p c ns b σ H ∧ b ≤ 80000 ∧ ∀ σ' H', LawSt P p c ns (b + 101) σ' H' → D.nx σ' H'
section
variable {w : World} {K : PySem.W.Frag} {mg : Str → Option Value} {base : Heap} {c P : Addr}
theorem st_names (T : Tx w K mg) (TB : TabB base mg c P) {A : Around} {outer : List Env} {s : Shared} {H0 : Hp} {E0 : XK} (hr : Room 10 (A.deeper (envOfC "law" (defScope (top 48)) s.heap.objs.size (He.ga K "law") (.ref c)))) :
    PS (cxOf CX0 Pr w K mg base nLaw "law" (defScope (top 48)) (He.ga K "law") (.ref c) A outer s H0 E0).nox ((bodyFor (top 48)).getD 3 (.Pass ⟨0,0,0,0⟩)) (tNms) := by
  obtain ⟨fdp, Gp, kp, bp⟩ := ok_pen (P := Pr) (base := base) T
  obtain ⟨fda, Ga, ka, ba⟩ := ok_la (P := Pr) (base := base) T
  obtain ⟨fdd, Gd, kd, bd⟩ := ok_draw (P := Pr) (base := base) T
  obtain ⟨fdi, Gi, ki, bi⟩ := ok_pick (P := Pr) (base := base) T
  obtain ⟨fdr, Fr, Gr, kr, br⟩ := ok_readF (base := base) T
  obtain ⟨fdt, Ft, Gt, kt, bt⟩ := ok_textF (base := base) T
  have hu : ∀ p ∈ TT0 P, p.1 = P → p.2 = qLam := fun p hp _ => by rw [List.mem_singleton.mp hp]
  let TT0 := TT0 P
  refine psImp (t' := tNms) (ps_set (i := 5) sc_law.nd rfl (Or.inl rfl) (pe_ifExp (pt_cmpR op_in_seq (pe_ix ix_tup (pv 3) pe_int (fun _ _ => rfl)) (pe_tup (pa_cons pe_str (pa_cons pe_str (pa_cons pe_str pa_nil)))) rfl) pe_int pe_int)) ?_
  rintro D σ H ⟨a, t, ha, h3, ht, q⟩
  refine ⟨_, h3, t, a.xs, 0, .str a.w, rfl, rfl, SqT.of ht, atI_nat (j := 0) rfl, by show (3 : Nat) ≤ sizeLine; decide, fun p3 n3 => ?_⟩
  have s3 := same_new (o := .tup [.str "alike", .str "within", .str "moved"]) n3
  refine ⟨p3, _, rfl, .inr (SqT.of upd_same), rfl, rfl, _, rfl, ?_⟩
  rcases two_names (a.w, a.n, a.ks) (lookup_mem' ha.sh) with ⟨e2, ein⟩ | ⟨e1, ein⟩
  · refine ifT ein ?_
    have e2 : a.n = 2 := e2
    have := q _ s3
    rw [e2] at this
    exact this
  · refine ifF ein ?_
    have e1 : a.n = 1 := e1
    have := q _ s3
    rw [e1] at this
    exact this
theorem st_bad (T : Tx w K mg) (TB : TabB base mg c P) {A : Around} {outer : List Env} {s : Shared} {H0 : Hp} {E0 : XK} (hr : Room 10 (A.deeper (envOfC "law" (defScope (top 48)) s.heap.objs.size (He.ga K "law") (.ref c)))) :
    PS (cxOf CX0 Pr w K mg base nLaw "law" (defScope (top 48)) (He.ga K "law") (.ref c) A outer s H0 E0).nox ((bodyFor (top 48)).getD 5 (.Pass ⟨0,0,0,0⟩)) (tBadS) := by
  obtain ⟨fdp, Gp, kp, bp⟩ := ok_pen (P := Pr) (base := base) T
  obtain ⟨fda, Ga, ka, ba⟩ := ok_la (P := Pr) (base := base) T
  obtain ⟨fdd, Gd, kd, bd⟩ := ok_draw (P := Pr) (base := base) T
  obtain ⟨fdi, Gi, ki, bi⟩ := ok_pick (P := Pr) (base := base) T
  obtain ⟨fdr, Fr, Gr, kr, br⟩ := ok_readF (base := base) T
  obtain ⟨fdt, Ft, Gt, kt, bt⟩ := ok_textF (base := base) T
  have hu : ∀ p ∈ TT0 P, p.1 = P → p.2 = qLam := fun p hp _ => by rw [List.mem_singleton.mp hp]
  let TT0 := TT0 P
  refine psImp (t' := tBadS) (ps_set (i := 7) sc_law.nd rfl (Or.inr rfl) (pe_ifExp (pt_chain op_lt op_lt pe_int (pv 6) (pv 5)) pe_str pe_str)) ?_
  rintro D σ H ⟨i, n, h6, h5, q⟩
  refine ⟨_, h6, _, _, rfl, rfl, _, rfl, ?_⟩
  unfold badOf at q
  by_cases h0 : 0 < i
  · refine ifT (decide_eq_true (by omega)) ?_
    refine ⟨_, h5, _, _, rfl, rfl, _, rfl, ?_⟩
    by_cases h1 : i < n
    · rw [if_pos ⟨h0, h1⟩] at q
      exact ifT (decide_eq_true (by omega)) q
    · rw [if_neg (fun z => h1 z.2)] at q
      exact ifF (decide_eq_false (by omega)) q
  · rw [if_neg (fun z => h0 z.1)] at q
    refine ifF (decide_eq_false (by omega)) ?_
    exact ⟨_, rfl, ifF rfl q⟩
theorem st_extra (T : Tx w K mg) (TB : TabB base mg c P) {A : Around} {outer : List Env} {s : Shared} {H0 : Hp} {E0 : XK} (hr : Room 10 (A.deeper (envOfC "law" (defScope (top 48)) s.heap.objs.size (He.ga K "law") (.ref c)))) :
    PS (cxOf CX0 Pr w K mg base nLaw "law" (defScope (top 48)) (He.ga K "law") (.ref c) A outer s H0 E0).nox ((bodyFor (top 48)).getD 8 (.Pass ⟨0,0,0,0⟩)) (tExtra) := by
  obtain ⟨fdp, Gp, kp, bp⟩ := ok_pen (P := Pr) (base := base) T
  obtain ⟨fda, Ga, ka, ba⟩ := ok_la (P := Pr) (base := base) T
  obtain ⟨fdd, Gd, kd, bd⟩ := ok_draw (P := Pr) (base := base) T
  obtain ⟨fdi, Gi, ki, bi⟩ := ok_pick (P := Pr) (base := base) T
  obtain ⟨fdr, Fr, Gr, kr, br⟩ := ok_readF (base := base) T
  obtain ⟨fdt, Ft, Gt, kt, bt⟩ := ok_textF (base := base) T
  have hu : ∀ p ∈ TT0 P, p.1 = P → p.2 = qLam := fun p hp _ => by rw [List.mem_singleton.mp hp]
  let TT0 := TT0 P
  refine psImp (t' := tExtra) (ps_set (i := 8) sc_law.nd rfl (Or.inr rfl) (pe_join pe_str (pe_op op_cat (pv 4) (pe_lst (pa_cons pe_str pa_nil))))) ?_
  rintro D σ H ⟨wl, ws, h4, hwl, hok, q⟩
  refine ⟨⟨_, rfl⟩, _, h4, by show (1 : Nat) ≤ sizeLine; decide, fun p2 n2 => ?_⟩
  have s2 := same_new (o := .lst [.str "7"]) n2
  refine ⟨wl, p2, _, _, rfl, rfl, s2 _ _ hwl, upd_same, ?_, fun p3 n3 => ?_⟩
  · have := hok.1
    rw [List.length_append] at this
    rw [List.length_map]
    exact Nat.le_of_lt (lin (by show ws.length + 1 ≤ 1000; have z : ([("7" : Str)] : List Str).length = 1 := rfl; omega))
  · have s3 := same_new (o := .lst (ws.map V.str ++ [.str "7"])) n3
    exact ⟨spc, p3, ws ++ [("7" : Str)], rfl, rfl, .inl (SqL.of (by rw [upd_same, List.map_append]; rfl)), join_small hok, q _ (s2.trans s3)⟩
theorem st_due (T : Tx w K mg) (TB : TabB base mg c P) {A : Around} {outer : List Env} {s : Shared} {H0 : Hp} {E0 : XK} (hr : Room 10 (A.deeper (envOfC "law" (defScope (top 48)) s.heap.objs.size (He.ga K "law") (.ref c)))) :
    PS (cxOf CX0 Pr w K mg base nLaw "law" (defScope (top 48)) (He.ga K "law") (.ref c) A outer s H0 E0).nox ((bodyFor (top 48)).getD 9 (.Pass ⟨0,0,0,0⟩)) (tDue) := by
  obtain ⟨fdp, Gp, kp, bp⟩ := ok_pen (P := Pr) (base := base) T
  obtain ⟨fda, Ga, ka, ba⟩ := ok_la (P := Pr) (base := base) T
  obtain ⟨fdd, Gd, kd, bd⟩ := ok_draw (P := Pr) (base := base) T
  obtain ⟨fdi, Gi, ki, bi⟩ := ok_pick (P := Pr) (base := base) T
  obtain ⟨fdr, Fr, Gr, kr, br⟩ := ok_readF (base := base) T
  obtain ⟨fdt, Ft, Gt, kt, bt⟩ := ok_textF (base := base) T
  have hu : ∀ p ∈ TT0 P, p.1 = P → p.2 = qLam := fun p hp _ => by rw [List.mem_singleton.mp hp]
  let TT0 := TT0 P
  refine psImp (t' := tDue) (ps_set (i := 9) sc_law.nd rfl (Or.inl rfl) (pe_op op_add (pe_callB call_len_seq rfl T.f_len boot_len (pa_cons (pv 4) pa_nil)) (pe_ifExp (PW.pt (pw_and (pt_cmpR op_eq (pe_ix ix_tup (pv 3) pe_int (fun _ _ => rfl)) pe_str (nomark _)) (pw_and1 (pt_cmpR op_lt (pe_callB call_len_seq rfl T.f_len boot_len (pa_cons (pv 4) pa_nil)) pe_int (nomark _))))) pe_int pe_int))) ?_
  rintro D σ H ⟨a, t, wl, ha, h3, h4, ht, hwl, q⟩
  have hlen : (a.ws.map V.str).length = a.ws.length := by rw [List.length_map]
  refine ⟨_, h4, wl, _, rfl, .inl (SqL.of hwl), ?_⟩
  refine ⟨_, h3, t, a.xs, 0, .str a.w, rfl, rfl, SqT.of ht, atI_nat (j := 0) rfl, rfl, _, rfl, ?_⟩
  unfold dueOf at q
  by_cases hd : a.w = daysW
  · refine ifT (decide_eq_true (congrArg V.str hd)) ?_
    refine ⟨_, h4, wl, _, rfl, .inl (SqL.of hwl), _, _, rfl, rfl, _, rfl, ?_⟩
    by_cases h5 : a.ws.length < 50
    · rw [if_pos ⟨hd, h5⟩] at q
      refine ifT (decide_eq_true (by rw [hlen]; omega)) ?_
      refine ⟨_, _, rfl, rfl, ?_⟩
      rw [hlen]
      exact q
    · rw [if_neg (fun z => h5 z.2)] at q
      refine ifF (decide_eq_false (by rw [hlen]; omega)) ?_
      refine ⟨_, _, rfl, rfl, ?_⟩
      rw [hlen]
      exact q
  · rw [if_neg (fun z => hd z.1)] at q
    refine ifF (decide_eq_false (fun z => hd (V.str.inj z))) (ifF rfl ?_)
    refine ⟨_, _, rfl, rfl, ?_⟩
    rw [hlen]
    exact q
end
end K88
end

section
set_option Elab.async false
set_option linter.all false
set_option maxRecDepth 100000
set_option maxHeartbeats 4000000
/-! The law: the turn. -/
namespace K88
open PySem PySem.Spec PyProof.Rows L2 LamX
theorem pssImp {X : Cx} {st : List Stmt} {t t' : TS} (h : PSs X st t) (hi : ∀ D σ H, t' D σ H → t D σ H) : PSs X st t' := ⟨fun pins s σ H D I hw => h.run pins s σ H D I (hi D σ H hw)⟩
section
variable {w : World} {K : PySem.W.Frag} {mg : Str → Option Value} {base : Heap} {c P : Addr}
theorem ok_turn (T : Tx w K mg) (TB : TabB base mg c P) {A : Around} {outer : List Env} {s : Shared} {H0 : Hp} {E0 : XK} (hr : Room 10 (A.deeper (envOfC "law" (defScope (top 48)) s.heap.objs.size (He.ga K "law") (.ref c)))) :
    PSs (cxOf CX0 Pr w K mg base nLaw "law" (defScope (top 48)) (He.ga K "law") (.ref c) A outer s H0 E0).nox (bodyFor (top 48)) (tTurn P) := by
  obtain ⟨fdp, Gp, kp, bp⟩ := ok_pen (P := Pr) (base := base) T
  obtain ⟨fda, Ga, ka, ba⟩ := ok_la (P := Pr) (base := base) T
  obtain ⟨fdd, Gd, kd, bd⟩ := ok_draw (P := Pr) (base := base) T
  obtain ⟨fdi, Gi, ki, bi⟩ := ok_pick (P := Pr) (base := base) T
  obtain ⟨fdr, Fr, Gr, kr, br⟩ := ok_readF (base := base) T
  obtain ⟨fdt, Ft, Gt, kt, bt⟩ := ok_textF (base := base) T
  have hu : ∀ p ∈ TT0 P, p.1 = P → p.2 = qLam := fun p hp _ => by rw [List.mem_singleton.mp hp]
  refine pssImp (t' := tTurn P) (pss_cons (ps_set (i := 3) sc_law.nd rfl (Or.inl rfl) (pe_call Ga (hr.mono (by decide)) rfl T.g__law_ask ka ba .nil pass0 (pa_cons (pv 1) pa_nil))) (pss_cons (st_words T TB hr) (pss_cons (st_check T TB hr) (pss_cons (st_names T TB hr) (pss_cons (ps_set (i := 6) sc_law.nd rfl (Or.inr rfl) (pe_call Gd (hr.mono (by decide)) rfl T.g__law_draw kd bd .nil pass0 (pa_cons (pv 1) (pa_cons (pe_callB call_len_seq rfl T.f_len boot_len (pa_cons (pv 4) pa_nil)) pa_nil)))) (pss_cons (st_bad T TB hr) (pss_cons (st_lap1 T TB hr) (pss_cons (st_lap2 T TB hr) (pss_cons (st_extra T TB hr) (pss_cons (st_due T TB hr) (pss_one (st_lap3 T TB hr)))))))))))) ?_
  rintro D σ H ⟨p, c, ns, b, ⟨x0, x2, x3, x4, x5, x6, x7, x8, x9, x10, x11, x12, x13, x14, at', rest, rfl, hp, hat, hT⟩, hb, q⟩
  refine ⟨_, rfl, p, c, ns, at', rest, rfl, hp, by omega, fun a at1 rest1 H1 t ha sb1 hp1 ha1 ht => ?_⟩
  have T1 := Tabs.sb hT hp.1 sb1
  refine ⟨a, t, _, _, _, _, _, _, _, _, _, _, _, _, _, _, ha, rfl, ht, fun l H2 s2 hl => ?_⟩
  have T2 := Tabs.same T1 s2
  have hp2 := hp1.same s2
  have t2 := s2 _ _ ht
  refine ⟨a, t, l, ha, rfl, rfl, t2, hl, fun H3 s3 => ?_⟩
  have T3 := Tabs.same T2 s3
  have hp3 := hp2.same s3
  have t3 := s3 _ _ t2
  have l3 := s3 _ _ hl
  refine ⟨a, t, ha, rfl, t3, fun H4 s4 => ?_⟩
  have T4 := Tabs.same T3 s4
  have hp4 := hp3.same s4
  have t4 := s4 _ _ t3
  have l4 := s4 _ _ l3
  have hlen := ha.len
  have lw := len_ws a
  refine ⟨_, rfl, _, rfl, l, _, rfl, .inl (SqL.of l4), p, c, ns, at1, rest1, _, rfl, hp4, ?_, by omega, fun d at2 rest2 H5 hd sb5 hp5 ha5 => ?_⟩
  · rw [List.length_map]
    omega
  have hlt : d < a.xs.length := by
    rw [List.length_map] at hd
    omega
  have T5 := Tabs.sb T4 hp4.1 sb5
  have t5 := sb5 t _ (fun e => by rw [e, hp4.1] at t4; cases t4) t4
  have l5 := sb5 l _ (fun e => by
    rw [e, hp4.1] at l4
    exact words_ne (HO.lst.inj (Option.some.inj l4)).symm) l4
  refine ⟨d, a.n + 1, rfl, rfl, ?_⟩
  refine ⟨T5, l, a.ws, d, badOf d (a.n + 1), _, rfl, rfl, rfl, l5, rfl, by omega, new_ok ha d (bad_ok d (a.n + 1)), (by unfold newWs; simp), bad_parse ha hlt, fun H6 e6 T6 => ?_⟩
  have t6 := ext_tup e6 t5
  have l6 := ext_lst e6 l5
  have hp6 := hp5.extN e6
  refine ⟨T6, a, t, l, d, ha, rfl, rfl, rfl, t6, l6, hlt, fun H7 e7 T7 => ?_⟩
  have t7 := ext_tup e7 t6
  have l7 := ext_lst e7 l6
  have hp7 := hp6.extN e7
  refine ⟨l, a.ws, rfl, l7, extra_ok ha, fun H8 s8 => ?_⟩
  have t8 := s8 _ _ t7
  have l8 := s8 _ _ l7
  refine ⟨a, t, l, ha, rfl, rfl, t8, l8, ?_⟩
  refine ⟨Tabs.same T7 s8, a.ws ++ [("7" : Str)], dueOf a, rfl, rfl, extra_ok ha, by simp, parse_extra ha, fun H9 e9 T9 => ?_⟩
  exact q _ _ ⟨_, _, _, _, _, _, _, _, _, _, _, _, _, _, at2, rest2, rfl, (hp7.same s8).extN e9, by omega, T9⟩
end
end K88
end

section
set_option Elab.async false
set_option linter.all false
set_option maxRecDepth 100000
set_option maxHeartbeats 4000000
/-! The law's menus (printed by mk_menu.py). -/
namespace K88
open PySem PySem.Spec PyProof.Rows L2 TL
def TextOk (z : Str) (e : Nat) : Prop := ∃ ws, z = Txt.join spc ws ∧ WordsOk ws ∧ parse (if ws = [] then [("" : Str)] else ws) = .error e
theorem words_lit (ws : List Str) (h : (decide (ws.length ≤ 60) && ws.all fun z => (decide (z.length ≤ 100) && (!decide (32 ∈ tl z) && !decide (10 ∈ tl z)))) = true) : WordsOk ws := by
  obtain ⟨h1, h2⟩ := Bool.and_eq_true_iff.mp h
  exact ⟨of_decide_eq_true h1, fun w hw => word_lit w (List.all_eq_true.mp h2 w hw)⟩
theorem menu0 : TextOk "rings up 0 -" 3 := ⟨[("rings" : Str), "up", "0", "-"], by kernel_rfl, words_lit _ (by decide +kernel), by kernel_rfl⟩
theorem menu1 : TextOk "claim up 0 1 - 2" 4 := ⟨[("claim" : Str), "up", "0", "1", "-", "2"], by kernel_rfl, words_lit _ (by decide +kernel), by kernel_rfl⟩
theorem menu2 : TextOk "claim up 0 1 -1 2" 4 := ⟨[("claim" : Str), "up", "0", "1", "-1", "2"], by kernel_rfl, words_lit _ (by decide +kernel), by kernel_rfl⟩
theorem menu3 : TextOk "cure up 0 1 -" 4 := ⟨[("cure" : Str), "up", "0", "1", "-"], by kernel_rfl, words_lit _ (by decide +kernel), by kernel_rfl⟩
theorem menu4 : TextOk "moved a b -" 3 := ⟨[("moved" : Str), "a", "b", "-"], by kernel_rfl, words_lit _ (by decide +kernel), by kernel_rfl⟩
theorem menu5 : TextOk "days up" 2 := ⟨[("days" : Str), "up"], by kernel_rfl, words_lit _ (by decide +kernel), by kernel_rfl⟩
theorem menu6 : TextOk "days up 0 1 2" 5 := ⟨[("days" : Str), "up", "0", "1", "2"], by kernel_rfl, words_lit _ (by decide +kernel), by kernel_rfl⟩
theorem menu7 : TextOk "falls" 1 := ⟨[("falls" : Str)], by kernel_rfl, words_lit _ (by decide +kernel), by kernel_rfl⟩
theorem menu8 : TextOk "falls up up" 2 := ⟨[("falls" : Str), "up", "up"], by kernel_rfl, words_lit _ (by decide +kernel), by kernel_rfl⟩
theorem menu9 : TextOk "alike up" 2 := ⟨[("alike" : Str), "up"], by kernel_rfl, words_lit _ (by decide +kernel), by kernel_rfl⟩
theorem menu10 : TextOk "falls abcdefghi" 1 := ⟨[("falls" : Str), "abcdefghi"], by kernel_rfl, words_lit _ (by decide +kernel), by kernel_rfl⟩
theorem menu11 : TextOk "falls u1" 1 := ⟨[("falls" : Str), "u1"], by kernel_rfl, words_lit _ (by decide +kernel), by kernel_rfl⟩
theorem menu12 : TextOk "" 0 := ⟨[], by kernel_rfl, words_lit _ (by decide +kernel), by kernel_rfl⟩
theorem menu13 : TextOk "rings up 0 1 " 4 := ⟨[("rings" : Str), "up", "0", "1", ""], by kernel_rfl, words_lit _ (by decide +kernel), by kernel_rfl⟩
theorem menu14 : TextOk "rings  up" 1 := ⟨[("rings" : Str), "", "up"], by kernel_rfl, words_lit _ (by decide +kernel), by kernel_rfl⟩
def bigW : Str := Str.ofString (toString ((10 : Int) ^ (60 : Int).toNat))
theorem menu15 : TextOk ("rings up 0 " ++ bigW) 3 := ⟨[("rings" : Str), "up", "0", bigW], by kernel_rfl, words_lit _ (by decide +kernel), by kernel_rfl⟩
theorem menu16 : TextOk "rings up 00 1" 2 := ⟨[("rings" : Str), "up", "00", "1"], by kernel_rfl, words_lit _ (by decide +kernel), by kernel_rfl⟩
def oddOk (xs : List V) : Prop := flats xs ∧ xs.length ≤ 1000 ∧ (∀ z r, xs = .str z :: r → (shapeOf z).isSome = true ∨ z = "ring") ∧ isAsk xs = false
def oddB (xs : List V) : Bool := xs.all flat && (decide (xs.length ≤ 1000) && ((match xs with
  | .str z :: _ => (shapeOf z).isSome || decide (z = "ring")
  | _ => true) && !isAsk xs))
theorem odd_by {xs : List V} (h : oddB xs = true) : oddOk xs := by
  unfold oddB at h
  obtain ⟨h1, h2⟩ := Bool.and_eq_true_iff.mp h
  obtain ⟨h2, h3⟩ := Bool.and_eq_true_iff.mp h2
  obtain ⟨h3, h4⟩ := Bool.and_eq_true_iff.mp h3
  refine ⟨fun v hv => List.all_eq_true.mp h1 v hv, of_decide_eq_true h2, fun z r e => ?_, by simpa using h4⟩
  subst e
  rcases Bool.or_eq_true_iff.mp h3 with a | a
  · exact .inl a
  · exact .inr (of_decide_eq_true a)
theorem bad_of {H : Hp} {a : Addr} {xs : List V} (h : oddOk xs) (ha : H a = some (.tup xs)) : BadArg H (.ref a) := .inr ⟨xs, ⟨a, rfl, .inr ha, h.1, h.2.1, h.2.2.1⟩, h.2.2.2⟩
theorem odd0 : oddOk ([]) := odd_by (by decide +kernel)
theorem odd1 : oddOk ([V.str "falls"]) := odd_by (by decide +kernel)
theorem odd2 : oddOk ([V.str "falls", V.str "Up"]) := odd_by (by decide +kernel)
theorem odd3 : oddOk ([V.str "ring", V.str "up", V.int 0, V.int 1]) := odd_by (by decide +kernel)
theorem odd4 : oddOk ([V.str "rings", V.str "up", V.int 0]) := odd_by (by decide +kernel)
theorem odd5 : oddOk ([V.str "rings", V.str "up", V.int 0, V.non]) := odd_by (by decide +kernel)
theorem odd6 : oddOk ([V.str "rings", V.str "up", V.bl true, V.int 1]) := odd_by (by decide +kernel)
theorem odd7 : oddOk ([V.str "days", V.str "up"]) := odd_by (by decide +kernel)
theorem odd8 : oddOk ([V.str "days", V.str "up", V.int 0, V.int 1, V.int 2]) := odd_by (by decide +kernel)
theorem odd9 : oddOk ([V.str "moved", V.str "a", V.str "b", V.non]) := odd_by (by decide +kernel)
theorem odd10 : oddOk ([V.str "claim", V.str "up", V.int 0, V.int 1, V.non, V.int 2]) := odd_by (by decide +kernel)
theorem odd11 : oddOk ([V.int 5, V.str "up"]) := odd_by (by decide +kernel)
theorem odd12 : oddOk ([V.str "days", V.str "up"] ++ (List.replicate 13 [V.int 0, .int 1, .int 2, .int 3]).flatten) := odd_by (by decide +kernel)
theorem odd13 : oddOk ([V.str "cure", V.str "up", V.int 0, V.int 1, V.int (-1)]) := odd_by (by decide +kernel)
theorem odd14 : oddOk ([V.str "falls", V.int 5]) := odd_by (by decide +kernel)
theorem nl_split : Txt.split "falls up\n" nl = [("falls up" : Str), ""] := by
  have e := split_join nl_tl (by decide +kernel) (parts := [("falls up" : Str), ""]) (by simp) (fun p hp => by
    simp only [List.mem_cons, List.not_mem_nil, or_false] at hp
    rcases hp with rfl | rfl <;> decide +kernel)
  have e2 : Txt.join nl [("falls up" : Str), ""] = "falls up\n" := by kernel_rfl
  rw [e2] at e
  exact e
theorem fu_split : Txt.split "falls up" spc = [("falls" : Str), "up"] := by
  have e := split_words (ws := [("falls" : Str), "up"]) (words_lit _ (by decide +kernel)) (by simp)
  have e2 : Txt.join spc [("falls" : Str), "up"] = "falls up" := by kernel_rfl
  rw [e2] at e
  exact e
theorem fu_parse : parse [("falls" : Str), "up"] = .ok [V.str "falls", V.str "up"] := by kernel_rfl
theorem read_fu {K : PySem.W.Frag} {H : Hp} {Q : VK} {E : XK} (h : BadTextS K 1 0 H E) : spRead K [.str "falls up\n"] H Q E := by
  refine ⟨_, rfl, .inr ⟨_, _, _, rfl, by decide +kernel, nl_split, by decide +kernel, ?_, fun xs hx => ⟨fun hn => absurd (by decide +kernel) hn, fun _ => h⟩, fun e he => ?_⟩⟩
  · rw [fu_split]
    intro w hw
    simp only [List.mem_cons, List.not_mem_nil, or_false] at hw
    rcases hw with rfl | rfl <;> decide +kernel
  · rw [fu_split, fu_parse] at he
    cases he
end K88
end

section
set_option Elab.async false
set_option linter.all false
set_option maxRecDepth 100000
set_option maxHeartbeats 4000000
/-! The law: the menus picked from (the terms printed by mk_law1.py, the steps by mk_rest.py). -/
namespace K88
open PySem PySem.Spec PyProof.Rows L2 LamX
def tSome : TS := fun D σ H => ∀ l xs H', Same H H' → H' l = some (.lst xs) → xs.length = 17 → (∀ x ∈ xs, ∃ (p : Addr) (z : Str) (e : Nat), x = .ref p ∧ H' p = some (.tup [.str z, .int (e : Int)]) ∧ TextOk z e) → D.nx (σ.set 10 (some (.ref l))) H'
def tOdd : TS := fun D σ H => ∃ p c ns at' rest, σ[1]? = some (some (.ref p)) ∧ Pen H p c ns at' rest ∧ at' ≤ 100000 ∧ ∀ (v : V) (at2 : Nat) rest2 H', BadArg H' v → SB p H H' → Pen H' p c ns at2 rest2 → at2 ≤ at' + 1 → D.nx (σ.set 12 (some v)) H'
theorem lst_ne {H : Hp} {p c : Addr} {r : List V} {ys : List V} (h1 : H p = some (.lst (.ref c :: r))) (h2 : H p = some (.lst (.non :: ys))) : False := by
  rw [h1] at h2
  cases h2
theorem tup_ne {H : Hp} {p : Addr} {xs ys : List V} (h1 : H p = some (.lst xs)) (h2 : H p = some (.tup ys)) : False := by
  rw [h1] at h2
  cases h2
theorem tp_of {H H' : Hp} {p c : Addr} {ns : List Int} {at' : Nat} {rest : Int} (hp : Pen H p c ns at' rest) (sb : SB p H H') {b : Addr} {ys : List V} (h : H b = some (.tup ys)) : H' b = some (.tup ys) :=
  sb b _ (fun e => by rw [e] at h; exact tup_ne hp.1 h) h
section
variable {w : World} {K : PySem.W.Frag} {mg : Str → Option Value} {base : Heap} {c P : Addr}
theorem st_some (T : Tx w K mg) (TB : TabB base mg c P) {A : Around} {outer : List Env} {s : Shared} {H0 : Hp} {E0 : XK} (hr : Room 10 (A.deeper (envOfC "law" (defScope (top 48)) s.heap.objs.size (He.ga K "law") (.ref c)))) :
    PS (cxOf CX0 Pr w K mg base nLaw "law" (defScope (top 48)) (He.ga K "law") (.ref c) A outer s H0 E0).nox ((defBody (top 48)).getD 2 (.Pass ⟨0,0,0,0⟩)) (tSome) := by
  obtain ⟨fdp, Gp, kp, bp⟩ := ok_pen (P := Pr) (base := base) T
  obtain ⟨fda, Ga, ka, ba⟩ := ok_la (P := Pr) (base := base) T
  obtain ⟨fdd, Gd, kd, bd⟩ := ok_draw (P := Pr) (base := base) T
  obtain ⟨fdi, Gi, ki, bi⟩ := ok_pick (P := Pr) (base := base) T
  obtain ⟨fdr, Fr, Gr, kr, br⟩ := ok_readF (base := base) T
  obtain ⟨fdt, Ft, Gt, kt, bt⟩ := ok_textF (base := base) T
  have hu : ∀ p ∈ TT0 P, p.1 = P → p.2 = qLam := fun p hp _ => by rw [List.mem_singleton.mp hp]
  let TT0 := TT0 P
  refine psImp (t' := tSome) (ps_set (i := 10) sc_law.nd rfl (Or.inl rfl) (pe_lst (pa_cons (pe_tup (pa_cons pe_str (pa_cons pe_int pa_nil))) (pa_cons (pe_tup (pa_cons pe_str (pa_cons pe_int pa_nil))) (pa_cons (pe_tup (pa_cons pe_str (pa_cons pe_int pa_nil))) (pa_cons (pe_tup (pa_cons pe_str (pa_cons pe_int pa_nil))) (pa_cons (pe_tup (pa_cons pe_str (pa_cons pe_int pa_nil))) (pa_cons (pe_tup (pa_cons pe_str (pa_cons pe_int pa_nil))) (pa_cons (pe_tup (pa_cons pe_str (pa_cons pe_int pa_nil))) (pa_cons (pe_tup (pa_cons pe_str (pa_cons pe_int pa_nil))) (pa_cons (pe_tup (pa_cons pe_str (pa_cons pe_int pa_nil))) (pa_cons (pe_tup (pa_cons pe_str (pa_cons pe_int pa_nil))) (pa_cons (pe_tup (pa_cons pe_str (pa_cons pe_int pa_nil))) (pa_cons (pe_tup (pa_cons pe_str (pa_cons pe_int pa_nil))) (pa_cons (pe_tup (pa_cons pe_str (pa_cons pe_int pa_nil))) (pa_cons (pe_tup (pa_cons pe_str (pa_cons pe_int pa_nil))) (pa_cons (pe_tup (pa_cons pe_str (pa_cons pe_int pa_nil))) (pa_cons (pe_tup (pa_cons (pe_op op_add_str pe_str (pe_callTy call_str_int rfl T.f_str (by decide +kernel) (pa_cons (pe_op op_pow pe_int pe_int) pa_nil))) (pa_cons pe_int pa_nil))) (pa_cons (pe_tup (pa_cons pe_str (pa_cons pe_int pa_nil))) pa_nil))))))))))))))))))) ?_
  rintro D σ H q
  refine ⟨by show (2 : Nat) ≤ sizeLine; decide, fun p0 n0 => ?_⟩
  have s0 := same_new (o := .tup [V.str "rings up 0 -", V.int ((3 : Nat) : Int)]) n0
  refine ⟨by show (2 : Nat) ≤ sizeLine; decide, fun p1 n1 => ?_⟩
  have s1 := same_new (o := .tup [V.str "claim up 0 1 - 2", V.int ((4 : Nat) : Int)]) n1
  refine ⟨by show (2 : Nat) ≤ sizeLine; decide, fun p2 n2 => ?_⟩
  have s2 := same_new (o := .tup [V.str "claim up 0 1 -1 2", V.int ((4 : Nat) : Int)]) n2
  refine ⟨by show (2 : Nat) ≤ sizeLine; decide, fun p3 n3 => ?_⟩
  have s3 := same_new (o := .tup [V.str "cure up 0 1 -", V.int ((4 : Nat) : Int)]) n3
  refine ⟨by show (2 : Nat) ≤ sizeLine; decide, fun p4 n4 => ?_⟩
  have s4 := same_new (o := .tup [V.str "moved a b -", V.int ((3 : Nat) : Int)]) n4
  refine ⟨by show (2 : Nat) ≤ sizeLine; decide, fun p5 n5 => ?_⟩
  have s5 := same_new (o := .tup [V.str "days up", V.int ((2 : Nat) : Int)]) n5
  refine ⟨by show (2 : Nat) ≤ sizeLine; decide, fun p6 n6 => ?_⟩
  have s6 := same_new (o := .tup [V.str "days up 0 1 2", V.int ((5 : Nat) : Int)]) n6
  refine ⟨by show (2 : Nat) ≤ sizeLine; decide, fun p7 n7 => ?_⟩
  have s7 := same_new (o := .tup [V.str "falls", V.int ((1 : Nat) : Int)]) n7
  refine ⟨by show (2 : Nat) ≤ sizeLine; decide, fun p8 n8 => ?_⟩
  have s8 := same_new (o := .tup [V.str "falls up up", V.int ((2 : Nat) : Int)]) n8
  refine ⟨by show (2 : Nat) ≤ sizeLine; decide, fun p9 n9 => ?_⟩
  have s9 := same_new (o := .tup [V.str "alike up", V.int ((2 : Nat) : Int)]) n9
  refine ⟨by show (2 : Nat) ≤ sizeLine; decide, fun p10 n10 => ?_⟩
  have s10 := same_new (o := .tup [V.str "falls abcdefghi", V.int ((1 : Nat) : Int)]) n10
  refine ⟨by show (2 : Nat) ≤ sizeLine; decide, fun p11 n11 => ?_⟩
  have s11 := same_new (o := .tup [V.str "falls u1", V.int ((1 : Nat) : Int)]) n11
  refine ⟨by show (2 : Nat) ≤ sizeLine; decide, fun p12 n12 => ?_⟩
  have s12 := same_new (o := .tup [V.str "", V.int ((0 : Nat) : Int)]) n12
  refine ⟨by show (2 : Nat) ≤ sizeLine; decide, fun p13 n13 => ?_⟩
  have s13 := same_new (o := .tup [V.str "rings up 0 1 ", V.int ((4 : Nat) : Int)]) n13
  refine ⟨by show (2 : Nat) ≤ sizeLine; decide, fun p14 n14 => ?_⟩
  have s14 := same_new (o := .tup [V.str "rings  up", V.int ((1 : Nat) : Int)]) n14
  refine ⟨_, _, rfl, rfl, ⟨by decide, by decide, by decide⟩, _, rfl, by decide +kernel, _, _, rfl, rfl, by decide +kernel, ?_⟩
  refine ⟨by show (2 : Nat) ≤ sizeLine; decide, fun p15 n15 => ?_⟩
  have s15 := same_new (o := .tup [V.str ("rings up 0 " ++ bigW), V.int ((3 : Nat) : Int)]) n15
  refine ⟨by show (2 : Nat) ≤ sizeLine; decide, fun p16 n16 => ?_⟩
  have s16 := same_new (o := .tup [V.str "rings up 00 1", V.int ((2 : Nat) : Int)]) n16
  refine ⟨by show (17 : Nat) ≤ sizeLine; decide, fun l nl => ?_⟩
  have c16 := same_new (o := .lst [V.ref p0, V.ref p1, V.ref p2, V.ref p3, V.ref p4, V.ref p5, V.ref p6, V.ref p7, V.ref p8, V.ref p9, V.ref p10, V.ref p11, V.ref p12, V.ref p13, V.ref p14, V.ref p15, V.ref p16]) nl
  have c15 := s16.trans c16
  have c14 := s15.trans c15
  have c13 := s14.trans c14
  have c12 := s13.trans c13
  have c11 := s12.trans c12
  have c10 := s11.trans c11
  have c9 := s10.trans c10
  have c8 := s9.trans c9
  have c7 := s8.trans c8
  have c6 := s7.trans c7
  have c5 := s6.trans c6
  have c4 := s5.trans c5
  have c3 := s4.trans c4
  have c2 := s3.trans c3
  have c1 := s2.trans c2
  have c0 := s1.trans c1
  refine q l [V.ref p0, V.ref p1, V.ref p2, V.ref p3, V.ref p4, V.ref p5, V.ref p6, V.ref p7, V.ref p8, V.ref p9, V.ref p10, V.ref p11, V.ref p12, V.ref p13, V.ref p14, V.ref p15, V.ref p16] _ (s0.trans c0) upd_same rfl fun x hx => ?_
  simp only [List.mem_cons, List.not_mem_nil, or_false] at hx
  rcases hx with rfl | rfl | rfl | rfl | rfl | rfl | rfl | rfl | rfl | rfl | rfl | rfl | rfl | rfl | rfl | rfl | rfl
  · exact ⟨p0, _, _, rfl, c0 _ _ upd_same, menu0⟩
  · exact ⟨p1, _, _, rfl, c1 _ _ upd_same, menu1⟩
  · exact ⟨p2, _, _, rfl, c2 _ _ upd_same, menu2⟩
  · exact ⟨p3, _, _, rfl, c3 _ _ upd_same, menu3⟩
  · exact ⟨p4, _, _, rfl, c4 _ _ upd_same, menu4⟩
  · exact ⟨p5, _, _, rfl, c5 _ _ upd_same, menu5⟩
  · exact ⟨p6, _, _, rfl, c6 _ _ upd_same, menu6⟩
  · exact ⟨p7, _, _, rfl, c7 _ _ upd_same, menu7⟩
  · exact ⟨p8, _, _, rfl, c8 _ _ upd_same, menu8⟩
  · exact ⟨p9, _, _, rfl, c9 _ _ upd_same, menu9⟩
  · exact ⟨p10, _, _, rfl, c10 _ _ upd_same, menu10⟩
  · exact ⟨p11, _, _, rfl, c11 _ _ upd_same, menu11⟩
  · exact ⟨p12, _, _, rfl, c12 _ _ upd_same, menu12⟩
  · exact ⟨p13, _, _, rfl, c13 _ _ upd_same, menu13⟩
  · exact ⟨p14, _, _, rfl, c14 _ _ upd_same, menu14⟩
  · exact ⟨p15, _, _, rfl, c15 _ _ upd_same, menu15⟩
  · exact ⟨p16, _, _, rfl, c16 _ _ upd_same, menu16⟩
theorem st_odd (T : Tx w K mg) (TB : TabB base mg c P) {A : Around} {outer : List Env} {s : Shared} {H0 : Hp} {E0 : XK} (hr : Room 10 (A.deeper (envOfC "law" (defScope (top 48)) s.heap.objs.size (He.ga K "law") (.ref c)))) :
    PS (cxOf CX0 Pr w K mg base nLaw "law" (defScope (top 48)) (He.ga K "law") (.ref c) A outer s H0 E0).nox ((defBody (top 48)).getD 4 (.Pass ⟨0,0,0,0⟩)) (tOdd) := by
  obtain ⟨fdp, Gp, kp, bp⟩ := ok_pen (P := Pr) (base := base) T
  obtain ⟨fda, Ga, ka, ba⟩ := ok_la (P := Pr) (base := base) T
  obtain ⟨fdd, Gd, kd, bd⟩ := ok_draw (P := Pr) (base := base) T
  obtain ⟨fdi, Gi, ki, bi⟩ := ok_pick (P := Pr) (base := base) T
  obtain ⟨fdr, Fr, Gr, kr, br⟩ := ok_readF (base := base) T
  obtain ⟨fdt, Ft, Gt, kt, bt⟩ := ok_textF (base := base) T
  have hu : ∀ p ∈ TT0 P, p.1 = P → p.2 = qLam := fun p hp _ => by rw [List.mem_singleton.mp hp]
  let TT0 := TT0 P
  refine psImp (t' := tOdd) (ps_set (i := 12) sc_law.nd rfl (Or.inr rfl) (pe_call Gi (hr.mono (by decide)) rfl T.g__law_pick ki bi .nil pass0 (pa_cons (pv 1) (pa_cons (pe_lst (pa_cons pe_non (pa_cons pe_int (pa_cons pe_str (pa_cons (pe_tup pa_nil) (pa_cons (pe_tup (pa_cons pe_str pa_nil)) (pa_cons (pe_tup (pa_cons pe_str (pa_cons pe_str pa_nil))) (pa_cons (pe_tup (pa_cons pe_str (pa_cons pe_str (pa_cons pe_int (pa_cons pe_int pa_nil))))) (pa_cons (pe_tup (pa_cons pe_str (pa_cons pe_str (pa_cons pe_int pa_nil)))) (pa_cons (pe_tup (pa_cons pe_str (pa_cons pe_str (pa_cons pe_int (pa_cons pe_non pa_nil))))) (pa_cons (pe_tup (pa_cons pe_str (pa_cons pe_str (pa_cons pe_bl (pa_cons pe_int pa_nil))))) (pa_cons (pe_tup (pa_cons pe_str (pa_cons pe_str pa_nil))) (pa_cons (pe_tup (pa_cons pe_str (pa_cons pe_str (pa_cons pe_int (pa_cons pe_int (pa_cons pe_int pa_nil)))))) (pa_cons (pe_tup (pa_cons pe_str (pa_cons pe_str (pa_cons pe_str (pa_cons pe_non pa_nil))))) (pa_cons (pe_tup (pa_cons pe_str (pa_cons pe_str (pa_cons pe_int (pa_cons pe_int (pa_cons pe_non (pa_cons pe_int pa_nil))))))) (pa_cons (pe_tup (pa_cons pe_int (pa_cons pe_str pa_nil))) (pa_cons (pe_op op_catT (pe_tup (pa_cons pe_str (pa_cons pe_str pa_nil))) (pe_op op_repT (pe_tup (pa_cons pe_int (pa_cons pe_int (pa_cons pe_int (pa_cons pe_int pa_nil))))) pe_int)) (pa_cons (pe_tup (pa_cons pe_str (pa_cons pe_str (pa_cons pe_int (pa_cons pe_int (pa_cons (pe_un un_neg pe_int) pa_nil)))))) (pa_cons (pe_tup (pa_cons pe_str (pa_cons pe_int pa_nil))) pa_nil))))))))))))))))))) pa_nil)))) ?_
  rintro D σ H ⟨p, c, ns, at', rest, h1, hp, hat, q⟩
  refine ⟨_, h1, ?_⟩
  refine ⟨by show (0 : Nat) ≤ sizeLine; decide, fun p0 n0 => ?_⟩
  have s0 := same_new (o := .tup []) n0
  refine ⟨by show (1 : Nat) ≤ sizeLine; decide, fun p1 n1 => ?_⟩
  have s1 := same_new (o := .tup [V.str "falls"]) n1
  refine ⟨by show (2 : Nat) ≤ sizeLine; decide, fun p2 n2 => ?_⟩
  have s2 := same_new (o := .tup [V.str "falls", V.str "Up"]) n2
  refine ⟨by show (4 : Nat) ≤ sizeLine; decide, fun p3 n3 => ?_⟩
  have s3 := same_new (o := .tup [V.str "ring", V.str "up", V.int 0, V.int 1]) n3
  refine ⟨by show (3 : Nat) ≤ sizeLine; decide, fun p4 n4 => ?_⟩
  have s4 := same_new (o := .tup [V.str "rings", V.str "up", V.int 0]) n4
  refine ⟨by show (4 : Nat) ≤ sizeLine; decide, fun p5 n5 => ?_⟩
  have s5 := same_new (o := .tup [V.str "rings", V.str "up", V.int 0, V.non]) n5
  refine ⟨by show (4 : Nat) ≤ sizeLine; decide, fun p6 n6 => ?_⟩
  have s6 := same_new (o := .tup [V.str "rings", V.str "up", V.bl true, V.int 1]) n6
  refine ⟨by show (2 : Nat) ≤ sizeLine; decide, fun p7 n7 => ?_⟩
  have s7 := same_new (o := .tup [V.str "days", V.str "up"]) n7
  refine ⟨by show (5 : Nat) ≤ sizeLine; decide, fun p8 n8 => ?_⟩
  have s8 := same_new (o := .tup [V.str "days", V.str "up", V.int 0, V.int 1, V.int 2]) n8
  refine ⟨by show (4 : Nat) ≤ sizeLine; decide, fun p9 n9 => ?_⟩
  have s9 := same_new (o := .tup [V.str "moved", V.str "a", V.str "b", V.non]) n9
  refine ⟨by show (6 : Nat) ≤ sizeLine; decide, fun p10 n10 => ?_⟩
  have s10 := same_new (o := .tup [V.str "claim", V.str "up", V.int 0, V.int 1, V.non, V.int 2]) n10
  refine ⟨by show (2 : Nat) ≤ sizeLine; decide, fun p11 n11 => ?_⟩
  have s11 := same_new (o := .tup [V.int 5, V.str "up"]) n11
  refine ⟨by show (2 : Nat) ≤ sizeLine; decide, fun p12 n12 => ?_⟩
  have s12 := same_new (o := .tup [V.str "days", V.str "up"]) n12
  refine ⟨by show (4 : Nat) ≤ sizeLine; decide, fun p13 n13 => ?_⟩
  have s13 := same_new (o := .tup [V.int 0, V.int 1, V.int 2, V.int 3]) n13
  refine ⟨p13, 13, _, rfl, rfl, SqT.of upd_same, by simp, by decide, by decide, by decide, fun p14 n14 => ?_⟩
  have s14 := same_new (o := .tup (List.replicate (13 : Int).toNat [V.int 0, V.int 1, V.int 2, V.int 3]).flatten) n14
  refine ⟨p12, p14, _, _, rfl, rfl, SqT.of (s14 _ _ (s13 _ _ upd_same)), SqT.of upd_same, by simp, by decide, fun e => absurd e (by decide), fun _ p15 n15 => ?_⟩
  have s15 := same_new (o := .tup ([V.str "days", V.str "up"] ++ (List.replicate (13 : Int).toNat [V.int 0, V.int 1, V.int 2, V.int 3]).flatten)) n15
  refine ⟨_, rfl, by show (5 : Nat) ≤ sizeLine; decide, fun p16 n16 => ?_⟩
  have s16 := same_new (o := .tup [V.str "cure", V.str "up", V.int 0, V.int 1, V.int (-1)]) n16
  refine ⟨by show (2 : Nat) ≤ sizeLine; decide, fun p17 n17 => ?_⟩
  have s17 := same_new (o := .tup [V.str "falls", V.int 5]) n17
  refine ⟨by show (18 : Nat) ≤ sizeLine; decide, fun l nl => ?_⟩
  have c17 := same_new (o := .lst [V.non, V.int 5, V.str "falls up", V.ref p0, V.ref p1, V.ref p2, V.ref p3, V.ref p4, V.ref p5, V.ref p6, V.ref p7, V.ref p8, V.ref p9, V.ref p10, V.ref p11, V.ref p15, V.ref p16, V.ref p17]) nl
  have c16 := s17.trans c17
  have c15 := s16.trans c16
  have c14 := s15.trans c15
  have c13 := s14.trans c14
  have c12 := s13.trans c13
  have c11 := s12.trans c12
  have c10 := s11.trans c11
  have c9 := s10.trans c10
  have c8 := s9.trans c9
  have c7 := s8.trans c8
  have c6 := s7.trans c7
  have c5 := s6.trans c6
  have c4 := s5.trans c5
  have c3 := s4.trans c4
  have c2 := s3.trans c3
  have c1 := s2.trans c2
  have c0 := s1.trans c1
  have cc := s0.trans c0
  refine ⟨p, c, ns, at', rest, l, [V.non, V.int 5, V.str "falls up", V.ref p0, V.ref p1, V.ref p2, V.ref p3, V.ref p4, V.ref p5, V.ref p6, V.ref p7, V.ref p8, V.ref p9, V.ref p10, V.ref p11, V.ref p15, V.ref p16, V.ref p17], rfl, hp.same cc, upd_same, fun e => ?_, by show (1 : Nat) ≤ 18; decide, by show (18 : Nat) ≤ 1000; decide, hat, fun x at2 rest2 H' hx sb hp2 ha => ?_⟩
  · have z1 := (hp.same cc).1
    rw [← e] at z1
    exact lst_ne z1 upd_same
  refine q x at2 rest2 H' ?_ ((SB.of_same cc).trans sb) hp2 ha
  simp only [List.mem_cons, List.not_mem_nil, or_false] at hx
  rcases hx with rfl | rfl | rfl | rfl | rfl | rfl | rfl | rfl | rfl | rfl | rfl | rfl | rfl | rfl | rfl | rfl | rfl | rfl
  · exact .inl (by decide +kernel)
  · exact .inl (by decide +kernel)
  · exact .inl (by decide +kernel)
  · exact bad_of odd0 (tp_of (hp.same cc) sb (c0 _ _ upd_same))
  · exact bad_of odd1 (tp_of (hp.same cc) sb (c1 _ _ upd_same))
  · exact bad_of odd2 (tp_of (hp.same cc) sb (c2 _ _ upd_same))
  · exact bad_of odd3 (tp_of (hp.same cc) sb (c3 _ _ upd_same))
  · exact bad_of odd4 (tp_of (hp.same cc) sb (c4 _ _ upd_same))
  · exact bad_of odd5 (tp_of (hp.same cc) sb (c5 _ _ upd_same))
  · exact bad_of odd6 (tp_of (hp.same cc) sb (c6 _ _ upd_same))
  · exact bad_of odd7 (tp_of (hp.same cc) sb (c7 _ _ upd_same))
  · exact bad_of odd8 (tp_of (hp.same cc) sb (c8 _ _ upd_same))
  · exact bad_of odd9 (tp_of (hp.same cc) sb (c9 _ _ upd_same))
  · exact bad_of odd10 (tp_of (hp.same cc) sb (c10 _ _ upd_same))
  · exact bad_of odd11 (tp_of (hp.same cc) sb (c11 _ _ upd_same))
  · exact bad_of odd12 (tp_of (hp.same cc) sb (c15 _ _ upd_same))
  · exact bad_of odd13 (tp_of (hp.same cc) sb (c16 _ _ upd_same))
  · exact bad_of odd14 (tp_of (hp.same cc) sb (c17 _ _ upd_same))
end
end K88
end

section
set_option Elab.async false
set_option linter.all false
set_option maxRecDepth 100000
set_option maxHeartbeats 4000000
/-! The law: what is picked, what is heard, the answer (the terms printed by mk_law1.py). -/
namespace K88
open PySem PySem.Spec PyProof.Rows L2 LamX
def Menu (H : Hp) (xs : List V) : Prop := xs.length = 17 ∧ ∀ x ∈ xs, ∃ (p : Addr) (z : Str) (e : Nat), x = .ref p ∧ H p = some (.tup [.str z, .int (e : Int)]) ∧ TextOk z e
def tPickT : TS := fun D σ H => ∃ p c ns at' rest l xs, σ[1]? = some (some (.ref p)) ∧ σ[10]? = some (some (.ref l)) ∧ Pen H p c ns at' rest ∧ at' ≤ 100000 ∧ H l = some (.lst xs) ∧ Menu H xs ∧
  ∀ (z : Str) (e at2 : Nat) rest2 H', TextOk z e → SB p H H' → Pen H' p c ns at2 rest2 → at2 ≤ at' + 1 → D.nx ((σ.set 11 (some (.str z))).set 9 (some (.int (e : Int)))) H'
def Heards (H : Hp) (l : Addr) (e : Nat) : Prop := ∃ r1 r2 r3 r4, H l = some (.lst [.ref r1, .ref r2, .ref r3, .ref r4]) ∧ H r1 = some (.tup [.str "text", .int 0, .int (e : Int)]) ∧ H r2 = some (.tup [.str "paper", .str "ask"]) ∧ H r3 = some (.tup [.str "text", .int 0, .int 0]) ∧ H r4 = some (.tup [.str "text", .int 1, .int 0])
def tHeards (P : Addr) : TS := fun D σ H => Tabs (TT0 P) H ∧ ∃ p c ns at' rest z e v, σ[1]? = some (some (.ref p)) ∧ σ[11]? = some (some (.str z)) ∧ σ[12]? = some (some v) ∧ Pen H p c ns at' rest ∧ at' ≤ 100000 ∧ TextOk z e ∧ BadArg H v ∧ ∀ l H', Heards H' l e → D.nx (σ.set 13 (some (.ref l))) H'
def tFin : TS := fun D σ H => ∃ l e, σ[13]? = some (some (.ref l)) ∧ σ[9]? = some (some (.int ((e : Nat) : Int))) ∧ Heards H l e ∧ ∀ H', D.rt (.bl true) H'
theorem bad_ext {H H' : Hp} {v : V} (h : BadArg H v) (s : ExtN H H') : BadArg H' v := by
  rcases h with h | ⟨xs, ⟨a, e, ha, r⟩, hi⟩
  · exact .inl h
  · refine .inr ⟨xs, ⟨a, e, ?_, r⟩, hi⟩
    rcases ha with ha | ha
    · exact .inl (ext_lst s ha)
    · exact .inr (ext_tup s ha)
theorem Same.rfl' {H : Hp} : Same H H := fun _ _ e => e
def four (e : Int) : PyData := .list [.tuple [.str "text", .int 0, .int e], .tuple [.str "paper", .str "ask"], .tuple [.str "text", .int 0, .int 0], .tuple [.str "text", .int 1, .int 0]]
theorem four_lay (e : Int) : (four e).canLay0 = true := by
  have s1 : PyData.strOk "text" = true := by decide +kernel
  have s2 : PyData.strOk "paper" = true := by decide +kernel
  have s3 : PyData.strOk "ask" = true := by decide +kernel
  simp [four, PyData.canLay0, PyData.canLayAll0, s1, s2, s3]
theorem four_shaped (e : Int) : SeqAt.shaped (four e) = true := by
  unfold SeqAt.shaped
  rw [four_lay, Bool.true_and]
  refine decide_eq_true ?_
  simp [four, PyData.depth, PyData.depthAll]
theorem four_dp {K : PySem.W.Frag} {H : Hp} {l : Addr} {e : Nat} (h : Heards H l e) : Dp K H (.ref l) (four e) := by
  obtain ⟨r1, r2, r3, r4, hl, h1, h2, h3, h4⟩ := h
  exact .lst (SqL.of hl) (.cons (.tup (SqT.of h1) (.cons (.str _) (.cons (.int _) (.cons (.int _) .nil)))) (.cons (.tup (SqT.of h2) (.cons (.str _) (.cons (.str _) .nil))) (.cons (.tup (SqT.of h3) (.cons (.str _) (.cons (.int _) (.cons (.int _) .nil)))) (.cons (.tup (SqT.of h4) (.cons (.str _) (.cons (.int _) (.cons (.int _) .nil)))) .nil))))
section
variable {w : World} {K : PySem.W.Frag} {mg : Str → Option Value} {base : Heap} {c P : Addr}
theorem st_pickt (T : Tx w K mg) (TB : TabB base mg c P) {A : Around} {outer : List Env} {s : Shared} {H0 : Hp} {E0 : XK} (hr : Room 10 (A.deeper (envOfC "law" (defScope (top 48)) s.heap.objs.size (He.ga K "law") (.ref c)))) :
    PS (cxOf CX0 Pr w K mg base nLaw "law" (defScope (top 48)) (He.ga K "law") (.ref c) A outer s H0 E0).nox ((defBody (top 48)).getD 3 (.Pass ⟨0,0,0,0⟩)) (tPickT) := by
  obtain ⟨fdp, Gp, kp, bp⟩ := ok_pen (P := Pr) (base := base) T
  obtain ⟨fda, Ga, ka, ba⟩ := ok_la (P := Pr) (base := base) T
  obtain ⟨fdd, Gd, kd, bd⟩ := ok_draw (P := Pr) (base := base) T
  obtain ⟨fdi, Gi, ki, bi⟩ := ok_pick (P := Pr) (base := base) T
  obtain ⟨fdr, Fr, Gr, kr, br⟩ := ok_readF (base := base) T
  obtain ⟨fdt, Ft, Gt, kt, bt⟩ := ok_textF (base := base) T
  have hu : ∀ p ∈ TT0 P, p.1 = P → p.2 = qLam := fun p hp _ => by rw [List.mem_singleton.mp hp]
  let TT0 := TT0 P
  refine psImp (t' := tPickT) (ps_asg (pe_call Gi (hr.mono (by decide)) rfl T.g__law_pick ki bi .nil pass0 (pa_cons (pv 1) (pa_cons (pv 10) pa_nil))) (pg_tup rfl (pgs_cons (pg_name (i := 11) sc_law.nd rfl (Or.inr rfl)) (pgs_cons (pg_name (i := 9) sc_law.nd rfl (Or.inl rfl)) pgs_nil)))) ?_
  rintro D σ H ⟨p, c, ns, at', rest, l, xs, h1, h10, hp, hat, hl, ⟨hlen, hm⟩, q⟩
  refine ⟨_, h1, _, h10, p, c, ns, at', rest, l, xs, rfl, hp, hl, fun e => ?_, by omega, by omega, hat, fun x at2 rest2 H' hx sb hp2 ha => ?_⟩
  · rw [e, hp.1] at hl
    have := HO.lst.inj (Option.some.inj hl)
    rw [← this] at hlen
    exact absurd hlen (by show ¬ (3 : Nat) = 17; decide)
  · obtain ⟨b, z, e, rfl, hb, ok⟩ := hm x hx
    exact ⟨b, _, rfl, SqT.of (tp_of hp sb hb), rfl, _, _, rfl, _, _, rfl, rfl, q z e at2 rest2 H' ok sb hp2 ha⟩
theorem st_fin (T : Tx w K mg) (TB : TabB base mg c P) {A : Around} {outer : List Env} {s : Shared} {H0 : Hp} {E0 : XK} (hr : Room 10 (A.deeper (envOfC "law" (defScope (top 48)) s.heap.objs.size (He.ga K "law") (.ref c)))) :
    PS (cxOf CX0 Pr w K mg base nLaw "law" (defScope (top 48)) (He.ga K "law") (.ref c) A outer s H0 E0).nox ((defBody (top 48)).getD 6 (.Pass ⟨0,0,0,0⟩)) (tFin) := by
  obtain ⟨fdp, Gp, kp, bp⟩ := ok_pen (P := Pr) (base := base) T
  obtain ⟨fda, Ga, ka, ba⟩ := ok_la (P := Pr) (base := base) T
  obtain ⟨fdd, Gd, kd, bd⟩ := ok_draw (P := Pr) (base := base) T
  obtain ⟨fdi, Gi, ki, bi⟩ := ok_pick (P := Pr) (base := base) T
  obtain ⟨fdr, Fr, Gr, kr, br⟩ := ok_readF (base := base) T
  obtain ⟨fdt, Ft, Gt, kt, bt⟩ := ok_textF (base := base) T
  have hu : ∀ p ∈ TT0 P, p.1 = P → p.2 = qLam := fun p hp _ => by rw [List.mem_singleton.mp hp]
  let TT0 := TT0 P
  refine psImp (t' := tFin) (ps_ret (pe_cmpR (op_eqD hr.units) (pv 13) (pe_lst (pa_cons (pe_tup (pa_cons pe_str (pa_cons pe_int (pa_cons (pv 9) pa_nil)))) (pa_cons (pe_tup (pa_cons pe_str (pa_cons pe_str pa_nil))) (pa_cons (pe_tup (pa_cons pe_str (pa_cons pe_int (pa_cons pe_int pa_nil)))) (pa_cons (pe_tup (pa_cons pe_str (pa_cons pe_int (pa_cons pe_int pa_nil)))) pa_nil))))) (nomark _))) ?_
  rintro D σ H ⟨l, e, h13, h9, hh, q⟩
  refine ⟨_, h13, _, h9, by show (3 : Nat) ≤ sizeLine; decide, fun a1 n1 => ?_⟩
  have s1 := same_new (o := .tup [.str "text", .int 0, .int (e : Int)]) n1
  refine ⟨by show (2 : Nat) ≤ sizeLine; decide, fun a2 n2 => ?_⟩
  have s2 := same_new (o := .tup [.str "paper", .str "ask"]) n2
  refine ⟨by show (3 : Nat) ≤ sizeLine; decide, fun a3 n3 => ?_⟩
  have s3 := same_new (o := .tup [.str "text", .int 0, .int 0]) n3
  refine ⟨by show (3 : Nat) ≤ sizeLine; decide, fun a4 n4 => ?_⟩
  have s4 := same_new (o := .tup [.str "text", .int 1, .int 0]) n4
  refine ⟨by show (4 : Nat) ≤ sizeLine; decide, fun m nm => ?_⟩
  have s5 := same_new (o := .lst [.ref a1, .ref a2, .ref a3, .ref a4]) nm
  have c4 := s5
  have c3 := s4.trans c4
  have c2 := s3.trans c3
  have c1 := s2.trans c2
  have cc := s1.trans c1
  refine ⟨four e, four e, ?_, ?_, four_shaped e, four_shaped e, ?_⟩
  · obtain ⟨r1, r2, r3, r4, hl, g1, g2, g3, g4⟩ := hh
    exact four_dp ⟨r1, r2, r3, r4, cc _ _ hl, cc _ _ g1, cc _ _ g2, cc _ _ g3, cc _ _ g4⟩
  · exact four_dp ⟨a1, a2, a3, a4, upd_same, c1 _ _ upd_same, c2 _ _ upd_same, c3 _ _ upd_same, c4 _ _ upd_same⟩
  rw [SeqAt.eqv_refl (four e) (four_lay e)]
  exact q _
theorem st_heards (T : Tx w K mg) (TB : TabB base mg c P) {A : Around} {outer : List Env} {s : Shared} {H0 : Hp} {E0 : XK} (hr : Room 10 (A.deeper (envOfC "law" (defScope (top 48)) s.heap.objs.size (He.ga K "law") (.ref c)))) :
    PS (cxOf CX0 Pr w K mg base nLaw "law" (defScope (top 48)) (He.ga K "law") (.ref c) A outer s H0 E0).nox ((defBody (top 48)).getD 5 (.Pass ⟨0,0,0,0⟩)) (tHeards P) := by
  obtain ⟨fdp, Gp, kp, bp⟩ := ok_pen (P := Pr) (base := base) T
  obtain ⟨fda, Ga, ka, ba⟩ := ok_la (P := Pr) (base := base) T
  obtain ⟨fdd, Gd, kd, bd⟩ := ok_draw (P := Pr) (base := base) T
  obtain ⟨fdi, Gi, ki, bi⟩ := ok_pick (P := Pr) (base := base) T
  obtain ⟨fdr, Fr, Gr, kr, br⟩ := ok_readF (base := base) T
  obtain ⟨fdt, Ft, Gt, kt, bt⟩ := ok_textF (base := base) T
  have hu : ∀ p ∈ TT0 P, p.1 = P → p.2 = qLam := fun p hp _ => by rw [List.mem_singleton.mp hp]
  let TT0 := TT0 P
  refine psImp (t' := tHeards P) (ps_set (i := 13) sc_law.nd rfl (Or.inl rfl) (pe_lst (pa_cons (heard_call T (T' := TT0) rfl TB rfl (List.mem_singleton.mpr rfl) hu hr (lamS_by (sc := defScope (top 48)) (by decide +kernel)) rfl (fun _ _ _ _ _ => rfl) (fun A outer s H E f c' hr2 => (pe_call Gr hr2 rfl T.g_read_ask kr br .nil (passes_call (takes_of rfl rfl rfl rfl) fun _ _ _ _ h => h) (pa_cons (pv 11) pa_nil)))) (pa_cons (heard_call3 T (T' := TT0) rfl TB rfl (List.mem_singleton.mpr rfl) hu hr (lamD_by (N := nLaw) (sc := defScope (top 48)) (by decide +kernel)) rfl (fun _ _ _ _ _ _ _ => ⟨_, rfl, fun _ => rfl⟩) (fun A outer s H E f c' hr2 => by exact (pe_call Gt (hr2.mono (by decide)) rfl T.g_ask_text kt bt .nil (passes_call (takes_of rfl rfl rfl rfl) fun _ _ _ _ h => h) (pa_cons (pv 12) pa_nil)))) (pa_cons (heard_call3 T (T' := TT0) rfl TB rfl (List.mem_singleton.mpr rfl) hu hr (lamD_by (N := nLaw) (sc := defScope (top 48)) (by decide +kernel)) rfl (fun _ _ _ _ _ _ _ => ⟨_, rfl, fun _ => rfl⟩) (fun A outer s H E f c' hr2 => by exact (pe_call Gr hr2 rfl T.g_read_ask kr br .nil (passes_call (takes_of rfl rfl rfl rfl) fun _ _ _ _ h => h) (pa_cons (pe_call Gi (hr2.mono (by decide)) rfl T.g__law_pick ki bi .nil pass0 (pa_cons (pv 1) (pa_cons (pe_lst (pa_cons pe_non (pa_cons pe_int (pa_cons (pe_tup (pa_cons pe_str (pa_cons pe_str pa_nil))) pa_nil)))) pa_nil))) pa_nil)))) (pa_cons (heard_call3 T (T' := TT0) rfl TB rfl (List.mem_singleton.mpr rfl) hu hr (lamD_by (N := nLaw) (sc := defScope (top 48)) (by decide +kernel)) rfl (fun _ _ _ _ _ _ _ => ⟨_, rfl, fun _ => rfl⟩) (fun A outer s H E f c' hr2 => by exact (pe_call Gr hr2 rfl T.g_read_ask kr br .nil (passes_call (takes_of rfl rfl rfl rfl) fun _ _ _ _ h => h) (pa_cons pe_str pa_nil)))) pa_nil)))))) ?_
  rintro D σ H ⟨hT, p, c, ns, at', rest, z, e, v, h1, h11, h12, hp, hat, ⟨ws, rfl, hok, hpar⟩, hv, q⟩
  refine ⟨hT, fun H1 e1 T1 => ?_⟩
  refine ⟨_, h11, ?_⟩
  dsimp only [tNil, List.nil_append]
  refine read_words hok (fun xs hx => by rw [hpar] at hx; cases hx) (fun e' hx => ?_)
  rw [hpar] at hx
  cases hx
  refine heard_text (fun H2 r1 s2 hr1 => ?_) _ Same.rfl'
  refine ⟨Tabs.same T1 s2, fun H3 e3 T3 => ?_⟩
  have e13 := e1.trans ((LamX.ExtN.of s2).trans e3)
  refine ⟨_, h12, v, rfl, .inl ⟨bad_ext hv e13, fun d H4 s4 hd => .inr ⟨d, rfl, rfl, hd, fun H5 r2 s5 n5 hr2 => ?_⟩⟩⟩
  have g1 : H5 r1 = _ := s5 _ _ (s4 _ _ (ext_tup e3 hr1))
  have s45 := s4.trans s5
  have hp5 := (hp.extN e13).same s45
  refine ⟨Tabs.same T3 s45, fun H6 e6 T6 => ?_⟩
  have hp6 := hp5.extN e6
  refine ⟨_, h1, by show (2 : Nat) ≤ sizeLine; decide, fun a na => ?_⟩
  have s6 := same_new (o := .tup [.str "falls", .str "up"]) na
  refine ⟨by show (3 : Nat) ≤ sizeLine; decide, fun l3 nl3 => ?_⟩
  have s7 := same_new (o := .lst [.non, .int 5, .ref a]) nl3
  have s67 := s6.trans s7
  refine ⟨p, c, ns, at', rest, l3, [.non, .int 5, .ref a], rfl, hp6.same s67, upd_same, fun e => ?_, by show (1 : Nat) ≤ 3; decide, by show (3 : Nat) ≤ 1000; decide, hat, fun x at2 rest2 H7 hx sb hp7 ha => ?_⟩
  · have z1 := (hp6.same s67).1
    rw [← e] at z1
    exact lst_ne z1 upd_same
  have up7 : ∀ {b : Addr} {ys : List V}, H5 b = some (.tup ys) → H7 b = some (.tup ys) := fun h => tp_of (hp6.same s67) sb (s67 _ _ (ext_tup e6 h))
  have T7 := Tabs.sb (Tabs.same T6 s67) (hp6.same s67).1 sb
  refine ⟨x, rfl, .inl ⟨?_, heard_text (fun H8 r3 s8 hr3 => ?_) _ Same.rfl'⟩⟩
  · simp only [List.mem_cons, List.not_mem_nil, or_false] at hx
    rcases hx with rfl | rfl | rfl
    · exact .inl rfl
    · exact .inr (.inl ⟨_, rfl⟩)
    · exact .inr (.inr ⟨a, _, rfl, tp_of (hp6.same s67) sb (s7 _ _ upd_same)⟩)
  refine ⟨Tabs.same T7 s8, fun H9 e9 T9 => ?_⟩
  unfold TTheard
  dsimp only [tCall, tCons, tC, tNil, List.nil_append]
  refine read_fu fun d H10 s10 hd => .inl ⟨d, 1, 0, rfl, rfl, hd, fun H11 r4 s11 n11 hr4 => ?_⟩
  have s1011 := s10.trans s11
  refine ⟨by show (4 : Nat) ≤ sizeLine; decide, fun l nl => ?_⟩
  have s12 := same_new (o := .lst [.ref r1, .ref r2, .ref r3, .ref r4]) nl
  have up12 : ∀ {b : Addr} {ys : List V}, H8 b = some (.tup ys) → _ = some (HO.tup ys) := fun {b ys} h => s12 _ _ (s1011 b _ (ext_tup e9 h))
  exact q l _ ⟨r1, r2, r3, r4, upd_same, up12 (s8 _ _ (up7 g1)), up12 (s8 _ _ (up7 hr2)), up12 hr3, s12 _ _ hr4⟩
end
end K88
end

section
set_option Elab.async false
set_option linter.all false
set_option maxRecDepth 100000
set_option maxHeartbeats 4000000
/-! The law, whole. -/
namespace K88
open PySem PySem.Spec PyProof.Rows L2 LamX
def spLaw (P : Addr) (K : PySem.W.Frag) : Sp := fun vs H Q _ => ∃ (a : Addr) (ns : List Int), vs = [.ref a] ∧ SqL K H a (ns.map V.int) ∧ ns.length ≤ 63 ∧ Tabs (TT0 P) H ∧ ∀ H', Q (.bl true) H'
section
variable {w : World} {K : PySem.W.Frag} {mg : Str → Option Value} {base : Heap}
theorem ok_law (T : Tx w K mg) {fd : FuncData} (F : FnP K "law" "law" (top 48) (He.ga K "law") fd) (TB : TabB base mg (He.cT K ("law", none)).1 (He.cT K ("law", none)).2) : FnOk Pr w K mg base CX0 11 (He.ga K "law") fd ["script"] (spLaw (He.cT K ("law", none)).2 K) := by
  obtain ⟨oc, od, dV, kV, doc, pm, an, cdv, ct, osl, rfl, lk, hcd, hD, hK⟩ := F.ex
  obtain ⟨c, rfl⟩ := He.codeIn_ref hcd
  have ec : (He.cT K ("law", none)).1 = c := He.codeOf_eq lk rfl
  rw [ec] at TB
  generalize (He.cT K ("law", none)).2 = P at TB ⊢
  refine fn_of lk hcd sc_law (fun vs H Q E h => ?_) (fun A outer s H vs Q E hr h => ?_)
  · obtain ⟨a, ns, rfl, _⟩ := h
    rfl
  obtain ⟨fdp, Gp, kp, bp⟩ := ok_pen (P := Pr) (base := base) T
  refine ⟨_, PSs.nox (pss_cons (ps_set (i := 1) sc_law.nd rfl (Or.inr rfl) (pe_call Gp (hr.mono (by decide)) rfl T.g__law_pen kp bp .nil pass0 (pa_cons (pv 0) pa_nil)))
    (pss_cons (ps_for PassesOwn.never rfl (pi_range1 rfl T.f_range (pa_cons pe_int pa_nil)) (pg_name (i := 2) sc_law.nd rfl (Or.inl rfl)) (ok_turn T TB hr))
    (pss_cons (st_some T TB hr) (pss_cons (st_pickt T TB hr) (pss_cons (st_odd T TB hr) (pss_cons (st_heards T TB hr) (pss_one (st_fin T TB hr)))))))), ?_⟩
  obtain ⟨a, ns, rfl, hs, hl, hT, q⟩ := h
  refine ⟨_, rfl, a, ns, rfl, hs, hl, fun H1 p c1 s1 hpn hp => ?_⟩
  have T1 := Tabs.same hT s1
  refine ⟨10, rfl, by decide, by decide, ?_⟩
  refine for_range (lo := 0) (n := 10) (fun i σ' H' => LawSt P p c1 ns (101 * i) σ' H') ⟨_, _, _, _, _, _, _, _, _, _, _, _, _, _, 0, 0, rfl, hp, by omega, T1⟩ ?_ ?_
  · rintro i σ' H' hi ⟨x0, x2, x3, x4, x5, x6, x7, x8, x9, x10, x11, x12, x13, x14, at', rest, rfl, hp', hat, hT'⟩
    exact ⟨p, c1, ns, 101 * i, ⟨_, _, _, _, _, _, _, _, _, _, _, _, _, _, at', rest, rfl, hp', hat, hT'⟩, by omega, fun σ2 H2 h2 => by rw [show 101 * (i + 1) = 101 * i + 101 from by omega]; exact h2⟩
  · rintro σ' H' ⟨x0, x2, x3, x4, x5, x6, x7, x8, x9, x10, x11, x12, x13, x14, at', rest, rfl, hp', hat, hT'⟩
    intro l xs H2 s2 hl2 hlen hm
    have hp2 := hp'.same s2
    have T2 := Tabs.same hT' s2
    refine ⟨p, c1, ns, at', rest, l, xs, rfl, rfl, hp2, by omega, hl2, ⟨hlen, hm⟩, fun z e at3 rest3 H3 hz sb3 hp3 ha3 => ?_⟩
    have T3 := Tabs.sb T2 hp2.1 sb3
    refine ⟨p, c1, ns, at3, rest3, rfl, hp3, by omega, fun v at4 rest4 H4 hv sb4 hp4 ha4 => ?_⟩
    have T4 := Tabs.sb T3 hp3.1 sb4
    refine ⟨T4, p, c1, ns, at4, rest4, z, e, v, rfl, rfl, rfl, hp4, by omega, hz, hv, fun l5 H5 hh => ?_⟩
    exact ⟨l5, e, rfl, rfl, hh, q⟩
end
end K88
end

section
set_option Elab.async false
set_option linter.all false
set_option maxRecDepth 100000
set_option maxHeartbeats 0
/-! The end. -/
namespace K88
open PySem PySem.Spec PyProof.Rows L2 LamX
theorem law_at {w : World} {K : PySem.W.Frag} {h : Heap} {mg : Str → Option Value} {f : Addr} (X : K.In h) (G : h.Ns mainGlobals mg) (hfa : mg ("law" : Str) = some (.ref f)) (c : He.SaysY Pr fa fn ts tf er ex w h K) :
    LawAtS PySem.Challenge.rw_opencuts_k88_asks_as_texts w K CX0 11 63 "script" mg f h := by
  have T := tx_of X G c
  have e := hfa.symm.trans T.g_law
  cases e
  obtain ⟨fd, F⟩ := T.fd 29 _ rfl
  have F : FnP K "law" "law" (top 48) (He.ga K "law") fd := F
  have b := FunD.bindsA (ps := ["script"]) F fun _ _ _ _ _ _ us hl => match us, hl with | [_], _ => rfl
  have mem : (("law", none) : He.Defn) ∈ tf := List.mem_cons_self
  refine ⟨fd, [He.cT K ("law", none)], spLaw (He.cT K ("law", none)).2 K, fun p hp => ?_, fun p hp => ?_, fun p hp => ?_, fun s u => b s [u] rfl, fun H a ns hl hb hH hS => ?_, fun base KX Gb hTB => ?_⟩
  · rw [List.mem_singleton.mp hp]
    exact c.empty _ mem
  · rw [List.mem_singleton.mp hp]
    exact c.out _ mem
  · rw [List.mem_singleton.mp hp]
    exact PySem.W.codeHd_of_K X (c.hd _ mem)
  · refine ⟨a, ns, rfl, hS, hl, fun p hp => ?_, fun _ => rfl⟩
    rw [List.mem_singleton.mp hp]
    exact TabS.nil (hH _ (List.mem_singleton.mpr rfl))
  · exact ok_law T F (hTB _ (List.mem_singleton.mpr rfl))
end K88
open PySem PySem.W PySem.Calls PyProof.Rows
theorem PySem.Challenge.cw_opencuts_k88_asks_as_texts_holds : PySem.Challenge.rw_opencuts_k88_asks_as_texts.Holds := by
  w_on; o_law
  refine HandSHeadRun.head_any (r := OpenLaw.row PySem.Challenge.rw_opencuts_k88_asks_as_texts) (q := view (OpenLaw.row PySem.Challenge.rw_opencuts_k88_asks_as_texts).prog [48]) (H := K88.hk) (ob := K88.ob) (M := 5000) (loose := K88.names) (d := HandSHeadRun.topDef (OpenLaw.row PySem.Challenge.rw_opencuts_k88_asks_as_texts).prog 48) (kwd := []) K88.ob_eq
    (by kernel_rfl) (fun s => by kernel_rfl) K88.run (by kernel_rfl) (by kernel_rfl) (by kernel_rfl) (by rfl) (by first | assumption | decide +kernel) (by decide +kernel) ⟨rfl, rfl, rfl, rfl, rfl, by decide +kernel⟩ ?hw ?hc
  case hw => w_witness2
  case hc =>
    refine LamX.walk_ofTsE (l := PySem.Challenge.rw_opencuts_k88_asks_as_texts) (n := 63) (k := 11) (x := "script") (CX := fun _ => L2.CX0) rfl (by decide) (by kernel_rfl) ⟨rfl, by decide, by decide⟩ ?F (fun _ _ _ _ _ z => z)
    intro w mg fa h Y G hmg0
    obtain ⟨K, KX, c⟩ := Y
    have hmg : mg ("law" : PySem.Str) = some (.ref fa) := by
      have e : (HandSHeadRun.topDef (OpenLaw.row PySem.Challenge.rw_opencuts_k88_asks_as_texts).prog 48).name = ("law" : PySem.Str) := by kernel_rfl
      rw [← e]
      exact hmg0
    exact ⟨K, KX, K88.law_at KX G hmg c⟩
end
