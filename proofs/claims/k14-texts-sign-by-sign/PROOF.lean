import PyProof.Rows.All
import Wide.All
import OpenK.AllK
import Wide.FinOn
import KE.KExcSuper
import HandS.ForMost
import HandS.Exc
import HandS.TryOnly
import HandS.ExcOwn
import HandS.WordsExc
import HandS.ExcInit
import HandS.RaiseMore
import HandS.More
import HandS.Defaults
import HandS.HeadHook1
import HandS.HeadHook2
import HandS.ExcField
import KE.KIsAll
import KE.KExcIs
import HandS.Base
import HandS.Call
import HandS.TupAny
import KE.KStateDown
import HandS.StrMore
import KE.IntTextLaws
import PyProof.StrOps2
import HandS.CallLocal
import KE.KIntText
import PyProof.EqLayable
import PyProof.P3Eq
import HandS.Text
import HandS.Head0
import HandS.Head1
import HandS.Head2
import HandS.HeadEnd
import PySem.Challenge.RW_outlives_k14_texts_sign_by_sign
set_option Elab.async false
set_option linter.all false
set_option maxRecDepth 100000
set_option maxHeartbeats 4000000
/-! own exceptions whose __init__ says super().__init__(str(x)); self.f = x -/
namespace PySem
namespace SXE
open PySem.W PySem.Calls PyProof.Rows PySem.HandSPX
def sxA (fld : Str) (a1 a2 : Pos) : Arguments := { posonlyargs := [], args := [{ arg := "self", annotation := none, pos := a1 }, { arg := fld, annotation := none, pos := a2 }], vararg := none, kwonlyargs := [], kw_defaults := [], kwarg := none, defaults := [] }
def sxE (fld : Str) (p0 p1 p2 p3 p4 p5 p6 : Pos) : Expr := .Call (.Attribute (.Call (.Name "super" p0) [] [] p1) "__init__" p2) [.Call (.Name "str" p3) [.Name fld p4] [] p5] [] p6
def sxB (fld : Str) (p0 p1 p2 p3 p4 p5 p6 p7 q1 q2 q3 q4 : Pos) : List Stmt := [.Expr (sxE fld p0 p1 p2 p3 p4 p5 p6) p7, .Assign [.Attribute (.Name "self" q1) fld q2] (.Name fld q3) q4]
def sxS (fld : Str) : Scope := { kind := .function, names := [(PySem.Str.ofString "self", .local), (fld, .local), (PySem.Str.ofString "__class__", .free), (PySem.Str.ofString "super", .globalImplicit), (PySem.Str.ofString "str", .globalImplicit)], isGenerator := false, isCoroutine := false, more := [] }
/-- the field's name is a plain one -/
structure SxN (fld : Str) : Prop where
  l0 : (sxS fld).names.lookup ("self" : Str) = some .local
  l1 : (sxS fld).names.lookup fld = some .local
  l2 : (sxS fld).names.lookup ("__class__" : Str) = some .free
  l3 : (sxS fld).names.lookup ("super" : Str) = some .globalImplicit
  l4 : (sxS fld).names.lookup ("str" : Str) = some .globalImplicit
  ns : (("self" : Str) == fld) = false
  nd : (fld == ("__debug__" : Str)) = false
  bd : ∀ (a1 a2 : Pos) (nm q : Str) (body : List Stmt) (kV doc pm cdv ct : Value) (an : Option Addr) (cc x : Addr) (v : Value), bindArgs (ksFn nm q (sxA fld a1 a2) body (sxS fld) .none kV doc pm an cdv ct cc) ⟨[.ref x, v], []⟩ = pure [(("self" : Str), Value.ref x), (fld, v)]
/-- where the super call stands -/
def SxP (fld : Str) (p0 p1 p2 p3 p4 p5 p6 : Pos) : Prop := ∀ env : Env, ∃ pl : Sem Bool, eval (sxE fld p0 p1 p2 p3 p4 p5 p6) env = (do
      let ov ← attributeBase (.Call (.Name "super" p0) [] [] p1) "__init__" env (eval (.Call (.Name "super" p0) [] [] p1) env)
      standAt p2.atName
      let (f, first) ← holding [ov] (getMethod ov "__init__" pl)
      callWith p6 f first (backTo p6 (starEach [.Call (.Name "str" p3) [.Name fld p4] [] p5] env)) [])
/-- what the written part says of the class at C, its __init__ at fI -/
structure SxTxt (P : Program) (K : Frag) (C fI : Addr) (qual fld : Str) : Prop where
  oex : L2.OexC K C
  iC : findIn K (.ref C) "__init__" = some (some (.ref fI))
  tI : typeIn K (.ref fI) = some (.type "function")
  noN : findIn K (.ref C) fld = some none
  opq : nsIn K cStatics "thirdparty.any" = some none
  sup : ks_superIn K C C "__init__" = some (some (.builtin "ValueError.__init__"))
  sVE : subIn K (.ref C) (.type "ValueError") = some true
  mro : mroIn K C (.ref C) = some true
  nsup : nsIn K mainGlobals "super" = some none
  nstr : nsIn K mainGlobals "str" = some none
  top : (P.main.scope.names.lookup ("super" : Str)).isSome = false
  nm : SxN fld
  fn : ∃ (a1 a2 p0 p1 p2 p3 p4 p5 p6 p7 q1 q2 q3 q4 : Pos) (oc : Value) (od : Option Addr) (kV doc pm ct : Value) (an : Option Addr) (osl : Array (Option Value)) (cc cda : Addr) (ccl cl : Value) (cdd cld : Option Addr) (vs : Array Value) (ccs csl : Array (Option Value)) (file : Str) (tf : Tok),
    SxP fld p0 p1 p2 p3 p4 p5 p6 ∧ K.lookup fI = some ⟨oc, od, .func (ksFn "__init__" qual (sxA fld a1 a2) (sxB fld p0 p1 p2 p3 p4 p5 p6 p7 q1 q2 q3 q4) (sxS fld) .none kV doc pm an (.ref cda) ct cc), osl⟩ ∧ codeIn K (.ref cda) qual = true ∧
    K.lookup cda = some ⟨ccl, cdd, .fields vs, ccs⟩ ∧ vs[2]? = some (.str file tf) ∧ ((P.main.file : Str) == file) = true ∧ K.lookup cc = some ⟨cl, cld, .cell (some (.ref C)), csl⟩
/-- str(v) gives some text, the objects kept -/
def StrOk (P : Program) (w : World) (h₀ : Heap) (v : Value) : Prop := ∀ (A : Around) (s : Shared) (Q : Value → Shared → Prop) (E : Value → Shared → Prop), A.units + 200 < cLine → (∀ b o, h₀.get? b = some o → s.heap.get? b = some o) →
  (∀ (z : Str) (t : Tok) (k : Nat), Q (.str z t) { s with toks := k }) → wpAny (model P w) A (call (.type "str") [v]) Q E s
theorem strOk_int {P : Program} {w : World} {h₀ : Heap} {i : Int} {t : Tok} (h : i.natAbs.log2 < 1920) : StrOk P w h₀ (.int i t) := fun A s Q E _ _ q => PySem.P.str_of_int h (q _ _ _)
theorem strOk_str {P : Program} {w : World} {h₀ : Heap} {z : Str} {t : Tok} : StrOk P w h₀ (.str z t) := fun A s Q E _ _ q => PySem.P.str_of_str (q z t s.toks)
/-- what __init__ leaves of a fresh exception at x -/
structure InitEnd (h h' : Heap) (x C dx t1 : Addr) (fld : Str) (v : Value) : Prop where
  keep : ∀ b o, b ≠ x → h.get? b = some o → h'.get? b = some o
  obj : h'.get? x = some { cls := .ref C, dict := some dx, data := .fields #[.ref t1, .none, .none, .none, .bool false, .none] }
  dbig : h.objs.size ≤ dx
  dne : dx ≠ x
  ns : h'.Ns1 dx (fun y => if y = fld then some v else none)
theorem sx_ld {M : Model} {A : Around} {E : Value → Shared → Prop} {s : Shared} {env : Env} {m : Str → Option Value} {x : Str} {pos : Pos} {v : Value} {Q : Value → Shared → Prop} (hn : s.heap.Ns env.locals m) (hv : m x = some v) (hk : env.scope.kind = .function) (hl : env.kindOf x = some .local) (h : Q v s)
    (hd : (x == ("__debug__" : Str)) = false) : wpAny M A (eval (.Name x pos) env) Q E s := wpAny_Name (wpAny_loadName_local hk hl hn hv h) hd
section
variable {P : Program} {w : World} {A : Around} {E : Value → Shared → Prop} {R : Result → Shared → Prop} {s : Shared} {K : Frag} {mg mb : Str → Option Value} {C fI : Addr} {qual fld : Str}
theorem sx_call {nm q : Str} {N : Addr} {bs bm : List Value} {hdct : Bool} {sn : List Str} {sub : List Value} {ab : Bool} {col : Option Bool} {dd : Option Addr} {k0 k1 k2 k3 k5 : Option Value} {h : Heap} {g : Array GenState} {d : Drawn} {t : Nat} {os : OsState} {u x t0 : Addr} {rest : List Value} {Q : Value → Shared → Prop} (hbm : refsVE bm = true)
    (hC : h.get? C = some (excClassObj nm q C N bs bm hdct sn sub ab col dd k0 k1 k2 k3 k5 "ValueError.__new__")) (he : h.get? x = some (excO C t0)) (hu : h.get? u = some (kxs_mw "ValueError.__init__" x)) (hz : rest.length ≤ sizeLine)
    (hq : ∀ h' t', (∀ b o, b ≠ x → h.get? b = some o → h'.get? b = some o) → h'.get? x = some (excO C t') → Q .none ⟨h', g, d, t, os⟩) : wpAny (model P w) A (call (.ref u) rest) Q E ⟨h, g, d, t, os⟩ := by
  refine wpAny_call (codeAny_of_tree ?_)
  show wpAny _ A.in1 (callAny (.ref u) ⟨rest, []⟩) _ _ _
  simp only [callAny]
  refine wpAny_bind (wpAny_load hu ?_)
  simp only [kxs_mw, show (Value.type "method-wrapper" == Value.type "method" || Value.type "method-wrapper" == Value.type "builtin_function_or_method" || Value.type "method-wrapper" == Value.type "method-wrapper") = true by decide, if_true]
  refine KFB.if_so (by decide) ?_
  refine wpAny_bind (check_bound_init F.excBase_ValueError.toExcCallFacts hC he rfl ?_)
  refine wpAny_bind (wpAny_pure (wpAny_pure ?_))
  refine ⟨plainId_quiet F.excBase_ValueError.init.plain _, codeAny_builtin F.excBase_ValueError.initEntry ?_⟩
  exact exc_init_tree (cls := .ref C) (t0 := t0) (dv := none) (c2 := .none) (c3 := .none) (b4 := .bool false) he hz fun h' k e _ => hq h' _ k e
theorem sx_init (T : SxTxt P K C fI qual fld) {x t0 : Addr} {v : Value} (X : K.In s.heap) (G : s.heap.Ns mainGlobals mg) (B : s.heap.Ns builtinsNs mb) (hB : ∀ y : Str, y ≠ "__name__" → mb y = bootBuiltins y) (hlim : s.heap.NoLimit)
    (hx : s.heap.get? x = some (excO C t0)) (hnx : K.lookup x = none) (hroom : A.depth < recursionLimit) (hun : A.units + 208 < cLine) (hstr : StrOk P w s.heap v)
    (hq : ∀ h' tk dx t1, InitEnd s.heap h' x C dx t1 fld v → R (.ok (.ret .none)) { s with heap := h', toks := tk }) :
    codeAny (model P w) A (.call (.ref fI) ⟨[.ref x, v], []⟩) R s := by
  obtain ⟨a1, a2, p0, p1, p2, p3, p4, p5, p6, p7, q1, q2, q3, q4, oc, od, kV, doc, pm, ct, an, osl, cc, cda, ccl, cl, cdd, cld, vs, ccs, csl, file, tf, hP, hf, hcd, hcode, hvs, hfile, hcell⟩ := T.fn
  obtain ⟨nm, q, N, bs, bm, sn, sub, ab, col, dd, k0, k1, k2, k3, k5, hC, hbm⟩ := T.oex.cls
  have hcl : clsIn K C = some { name := nm, bases := bs, mro := .ref C :: bm, ns := N, qualname := q, hasDict := true, slotNames := sn, subclasses := sub, abstract := ab, collection := col, hasDel := false } := by unfold clsIn; rw [hC] <;> rfl
  have mgs : mg "super" = none := mg_none_of X G T.nsup
  have mgt : mg "str" = none := mg_none_of X G T.nstr
  refine ks_codeAny_call_defAt (fd := ksFn "__init__" qual (sxA fld a1 a2) (sxB fld p0 p1 p2 p3 p4 p5 p6 p7 q1 q2 q3 q4) (sxS fld) .none kV doc pm an (.ref cda) ct cc) (body := sxB fld p0 p1 p2 p3 p4 p5 p6 p7 q1 q2 q3 q4) (binds := [(("self" : Str), Value.ref x), (fld, v)]) hroom (X _ _ hf) rfl hlim (codeRec_of X hcd) rfl
    (BindsTo.of_eq (T.nm.bd _ _ _ _ _ _ _ _ _ _ _ _ _ _)) ?hcell ?hloc (fun h₀ hns k => ?body)
  case hcell =>
    intro y hy
    have hy' : y ∈ [(PySem.Str.ofString "self", NameKind.local), (fld, .local), (PySem.Str.ofString "__class__", .free), (PySem.Str.ofString "super", .globalImplicit), (PySem.Str.ofString "str", .globalImplicit)] := hy
    simp only [List.mem_cons, List.not_mem_nil, or_false] at hy'
    rcases hy' with rfl | rfl | rfl | rfl | rfl <;> (intro z; cases z)
  case hloc =>
    intro y hy
    simp only [List.mem_cons, List.not_mem_nil, or_false] at hy
    rcases hy with rfl | rfl
    · exact T.nm.l0
    · exact T.nm.l1
  case body =>
    have X₁ : K.In h₀ := X.keeps k
    have hx₁ := k _ _ hx
    have hmS : ([(("self" : Str), Value.ref x), (fld, v)].reverse.lookup ("self" : Str)) = some (.ref x) := by
      show (match ("self" : Str) == fld with | true => some v | false => List.lookup ("self" : Str) [(("self" : Str), Value.ref x)]) = _
      rw [T.nm.ns]
      rfl
    have hmF : ([(("self" : Str), Value.ref x), (fld, v)].reverse.lookup fld) = some v := by
      show (match fld == fld with | true => some v | false => List.lookup fld [(("self" : Str), Value.ref x)]) = _
      rw [beq_self_eq_true]
    have hL : s.heap.objs.size ≠ x := Nat.ne_of_gt (Heap.lt_size hx)
    obtain ⟨pl, hEv⟩ := hP (callEnv (ksFn "__init__" qual (sxA fld a1 a2) (sxB fld p0 p1 p2 p3 p4 p5 p6 p7 q1 q2 q3 q4) (sxS fld) .none kV doc pm an (.ref cda) ct cc) s.heap.objs.size fI)
    refine ks_wpAt_execs_cons (ks_wpAt_Expr_any (ks_wpAt_MethodCall (pl := pl) ?_ hEv))
    have I₁ : InstAt h₀ x (excO C t0) C none := ⟨hx₁, rfl, rfl, trivial⟩
    obtain ⟨oD, hD1, hD2⟩ : ∃ oD, h₀.get? C = some oD ∧ oD.data = .cls { name := nm, bases := bs, mro := .ref C :: bm, ns := N, qualname := q, hasDict := true, slotNames := sn, subclasses := sub, abstract := ab, collection := col, hasDel := false } := ⟨_, X₁ _ _ hC, rfl⟩
    refine ks_wpAt_super_base (env := ksEnv qual (sxS fld) s.heap.objs.size fI (.ref cda) cc) T.nm.l3 T.nm.l2 rfl rfl (X₁ _ _ hf) rfl rfl rfl (X₁ _ _ hcode) rfl hvs hfile T.top ?_
    refine ks_loadName_global rfl T.nm.l3 (loadGlobal_builtin (env := ksEnv qual (sxS fld) s.heap.objs.size fI (.ref cda) cc) (G.keeps k) mgs (B.keeps k) ((hB _ (by decide +kernel)).trans (by first | boot_by_name | rfl | kernel_rfl)) ⟨rfl, ?_⟩)
    refine wpAny_loadName_free rfl T.nm.l2 rfl ⟨_, X₁ _ _ hcell, rfl⟩ ?_
    refine wpAny_loadName_local rfl T.nm.l0 hns hmS ?_
    refine ks_wpAny_isType_cls hD1 hD2 ⟨rfl, ?_⟩
    refine ks_wpAny_call_super hD1 hD2 hx₁ rfl (fun c e => by cases e) (looks_mroIn X₁ T.mro) (fun h₂ e2 k2 => ?_)
    have kk2 : ∀ b o, s.heap.get? b = some o → h₂.get? b = some o := fun b o z => k2 b o (k b o z)
    have X₂ : K.In h₂ := X.keeps kk2
    have I₂ : InstAt h₂ x (excO C t0) C none := ⟨kk2 _ _ hx, rfl, rfl, trivial⟩
    have hxC : x ≠ C := fun z => by
      rw [z, hC] at hnx
      cases hnx
    have hal : alongIn K "__init__" (((Value.ref C :: bm).dropWhile (· != .ref C)).drop 1) = some (some (.builtin "ValueError.__init__")) := by
      have q := T.sup
      unfold ks_superIn at q
      rw [hcl] at q
      exact q
    refine kxs_getMethod kxs_ValueError e2 (looks_opaque X₂ T.opq) (l₀ := .ref C :: bm) (fun A Q E s k q => wpAny_bind ((looks_clsIn X₂ hcl) A _ E s k (wpAny_pure q))) rfl X₂ hal (I₂.type.andThen (looks_subIn X₂ T.sVE)) hxC rfl ?_
    have k3 : ∀ b o, s.heap.get? b = some o → (h₂.push (kxs_mw "ValueError.__init__" x)).get? b = some o := fun b o z => Heap.get?_push_of_some _ (kk2 b o z)
    have hu : (h₂.push (kxs_mw "ValueError.__init__" x)).get? h₂.objs.size = some (kxs_mw "ValueError.__init__" x) := Heap.get?_push_at rfl rfl
    have ns3 : (h₂.push (kxs_mw "ValueError.__init__" x)).Ns s.heap.objs.size (fun y => [(("self" : Str), Value.ref x), (fld, v)].reverse.lookup y) := hns.keeps fun b o z => Heap.get?_push_of_some _ (k2 b o z)
    refine kxs_callWith (i := "ValueError.__init__") (x := x) (by rfl) ?_
    refine evalArgs_plain (x := eval (.Call (.Name "str" p3) [.Name fld p4] [] p5) (ksEnv qual (sxS fld) s.heap.objs.size fI (.ref cda) cc)) (rest := []) ?_
    refine Calls.spliced_cons (wpAny_Call_Name_kw ?_)
    refine Calls.Name_function_global (env := ksEnv qual (sxS fld) s.heap.objs.size fI (.ref cda) cc) rfl T.nm.l4 (loadGlobal_builtin (env := ksEnv qual (sxS fld) s.heap.objs.size fI (.ref cda) cc) (G.keeps k3) mgt (B.keeps k3) ((hB _ (by decide +kernel)).trans (by first | boot_by_name | rfl | kernel_rfl)) ?_) (by decide)
    refine PyProof.Rows.callWith_type1 (e := .Name fld p4) (rest := []) ?_ (by rfl) (by rfl)
    refine Calls.spliced_cons (x := eval (.Name fld p4) (ksEnv qual (sxS fld) s.heap.objs.size fI (.ref cda) cc)) (rest := []) (sx_ld (m := fun y => [(("self" : Str), Value.ref x), (fld, v)].reverse.lookup y) ns3 hmF rfl T.nm.l1 ?_ T.nm.nd)
    refine Calls.spliced_nil ?_
    refine hstr _ _ _ _ ?_ k3 (fun z tz kz => ?_)
    · show A.units + 3 + 200 < cLine
      omega
    refine Calls.spliced_nil ⟨hu, ?_⟩
    have hx3 := k3 _ _ hx
    refine sx_call (hbm := hbm) (k3 _ _ (X _ _ hC)) hx3 hu (by show 1 ≤ sizeLine; rw [sizeLine_eq]; omega) (fun h₄ t4 k4 hx4 => ?_)
    have k5 : ∀ b o, b ≠ x → s.heap.get? b = some o → h₄.get? b = some o := fun b o hb z => k4 b o hb (k3 b o z)
    have X₄ : K.In h₄ := fun b o e => k5 b o (fun z => by rw [z, hnx] at e; cases e) (X b o e)
    have ns4 : h₄.Ns s.heap.objs.size (fun y => [(("self" : Str), Value.ref x), (fld, v)].reverse.lookup y) := by
      obtain ⟨o', es, ep, e1, e2⟩ := ns3
      exact ⟨o', es, ep, k4 _ _ hL e1, e2⟩
    refine ks_wpAt_execs_cons (ks_wpAt_Assign_Attr (wpAt_of_wpAny ?_))
    refine sx_ld (m := fun y => [(("self" : Str), Value.ref x), (fld, v)].reverse.lookup y) ns4 hmF rfl T.nm.l1 ?_ T.nm.nd
    refine sx_ld (m := fun y => [(("self" : Str), Value.ref x), (fld, v)].reverse.lookup y) ns4 hmS rfl T.nm.l0 ?_ (by decide)
    refine set_plain X₄ (ox := excO C t4) (od := none) ⟨hx4, rfl, rfl, trivial⟩ T.oex.sa ?_
    refine exc_osa X₄ hx4 hcl (show refsVE (.ref C :: bm) = true from hbm) rfl T.noN (fun h₆ tk₆ dx k6 dn dne hx6 hn6 => ?_)
    refine wpAt_of_wpAny (wpAny_execs_nil (hq h₆ tk₆ dx t4 ⟨fun b o hb e => k6 b o hb (k5 b o hb e), hx6, ?_, dne, hn6⟩))
    · exact Nat.le_of_lt (Nat.lt_of_lt_of_le ns4.lt dn)
/-- a made exception -/
structure OwnMade (h h' : Heap) (e C d : Addr) (fld : Str) (v : Value) : Prop where
  keep : ∀ b o, h.get? b = some o → h'.get? b = some o
  new : h.objs.size ≤ e
  obj : ∃ oe vs, h'.get? e = some oe ∧ oe.cls = .ref C ∧ oe.dict = some d ∧ oe.data = .fields vs ∧ vs[1]? = some .none
  dbig : h.objs.size ≤ d
  dne : d ≠ e
  ns : h'.Ns1 d (fun y => if y = fld then some v else none)
theorem sx_made (T : SxTxt P K C fI qual fld) {v : Value} (X : K.In s.heap) (G : s.heap.Ns mainGlobals mg) (B : s.heap.Ns builtinsNs mb) (hB : ∀ y : Str, y ≠ "__name__" → mb y = bootBuiltins y) (hlim : s.heap.NoLimit)
    (hroom : A.depth + 1 < recursionLimit) (hun : A.units + 209 < cLine) (hstr : StrOk P w s.heap v)
    (hq : ∀ h' tk e d, OwnMade s.heap h' e C d fld v → R (.ok (.ret (.ref e))) { s with heap := h', toks := tk }) :
    codeAny (model P w) A (.call (.ref C) ⟨[v], []⟩) R s := by
  obtain ⟨nm, q, N, bs, bm, sn, sub, ab, col, dd, k0, k1, k2, k3, k5, hC, hbm⟩ := T.oex.cls
  obtain ⟨hp, g, dr, tk, os⟩ := s
  have k : ∀ b o, hp.get? b = some o → ((hp.push (kdv_tup [v])).push (excO C hp.objs.size)).get? b = some o := fun b o e => Heap.get?_push_of_some _ (Heap.get?_push_of_some _ e)
  have hget : ((hp.push (kdv_tup [v])).push (excO C hp.objs.size)).get? (hp.objs.size + 1) = some (excO C hp.objs.size) := by heap_get
  have hnx : K.lookup (hp.objs.size + 1) = none := by
    cases e : K.lookup (hp.objs.size + 1) with
    | none => rfl
    | some o =>
      have z : hp.get? (hp.objs.size + 1) = some o := X _ _ e
      exact absurd (Nat.lt_of_succ_lt (Heap.lt_size z)) (Nat.lt_irrefl _)
  refine call_own F.excBase_ValueError (fun X => refsVE_contains X bm hbm) (X _ _ hC) (looks_findIn X T.iC) (fun self => bind_fn X self T.tI) (by show 1 ≤ sizeLine; rw [sizeLine_eq]; omega) ?_
  refine sx_init (s := ⟨(hp.push (kdv_tup [v])).push (excO C hp.objs.size), g, dr, tk, os⟩) T (X.keeps k) (G.keeps k) (B.keeps k) hB (hlim.keeps k) hget hnx ?_ ?_ (fun A s Q E hu kk => hstr A s Q E hu fun b o e => kk b o (k b o e)) fun h' tk' dx t1 ⟨k', hx, dn, dne, hns⟩ => ?_
  · rw [L2.make_depth]
    exact hroom
  · rw [L2.make_units]
    omega
  · have old : ∀ b o, hp.get? b = some o → h'.get? b = some o := fun b o e => k' b o (Nat.ne_of_lt (Nat.lt_succ_of_lt (Heap.lt_size e))) (k b o e)
    have z : hp.objs.size + 1 + 1 ≤ dx := by
      first
        | (simpa only [Heap.size_push] using dn)
        | exact dn
        | (have q := dn; rw [Heap.size_push, Heap.size_push] at q; exact q)
    exact ⟨rfl, hq h' tk' (hp.objs.size + 1) dx ⟨old, Nat.le_succ _, ⟨_, _, hx, rfl, rfl, rfl, rfl⟩, Nat.le_trans (Nat.le_trans (Nat.le_succ _) (Nat.le_succ _)) z, dne, hns⟩⟩
end
end SXE
end PySem
namespace L2
open PySem PySem.Spec PyProof.Rows PySem.SXE
theorem relO_fld {v : V} {v' : Value} {fld : Str} (r : RelV v v') (f : Str) : RelO (List.lookup f [(fld, v)]) (if f = fld then some v' else none) := by
  by_cases hw : f = fld
  · subst hw
    rw [if_pos rfl]
    have q : List.lookup f [(f, v)] = some v := by simp [List.lookup]
    rw [q]
    exact r
  · rw [if_neg hw]
    have qw : (f == fld) = false := by simpa using hw
    have q2 : List.lookup f [(fld, v)] = none := by simp [List.lookup, qw]
    rw [q2]
    trivial
section
variable {X : Cx} {C fI : Addr} {qual fld cn : Str}
/-- C(e): SO tells that str(e) runs -/
def tMkSx (C : Addr) (fld : Str) (SO : V → Hp → Prop) (ta : TA) : St → Hp → XK → Prop := fun σ H Q => ta σ H fun vs H1 => ∃ v, vs = [v] ∧ SO v H1 ∧ ∀ d, H1 d = none → Q (.ref C) (some d) (upd H1 d (.xd [(fld, v)]))
/-- str of such values runs -/
def StrR (X : Cx) (SO : V → Hp → Prop) : Prop := ∀ (pins : List (Addr × Obj)) (s : Shared) (σ : St) (H : Hp) (v : V) (u : Value), Inv X pins σ H s → RelV v u → SO v H → StrOk X.prog X.w s.heap u
def soScal : V → Hp → Prop := fun v _ => match v with
  | .int i => i.natAbs.log2 < 1920
  | .str _ => True
  | _ => False
theorem strR_scal : StrR X soScal := fun pins s σ H v u I r h => by
  cases v with
  | int i =>
    obtain ⟨t, rfl⟩ := r
    exact strOk_int h
  | str z =>
    obtain ⟨t, rfl⟩ := r
    exact strOk_str
  | _ => exact h.elim
theorem pmk_sx {SO : V → Hp → Prop} {a : Expr} {ta : TA} {p pos : Pos} {k : Nat} (gC : X.mg cn = some (.ref C)) (T : SxTxt X.prog X.K C fI qual fld) (hr : Room k X.A) (hk : 1 ≤ k) (hso : StrR X SO) (ha : PA X [a] ta) (hg : Gl X cn := by rfl)
    (hdb : (cn == ("__debug__" : Str)) = false := by decide)
    (he : starEach (a :: []) X.env = (false, eval a X.env) :: starEach [] X.env := by rfl) (hpl : (backTo pos (starEach [] X.env)).any (·.1) = false := by rfl) :
    PMk X (.Call (.Name cn p) [a] [] pos) (tMkSx C fld SO ta) := by
  intro pins s σ H Q I h
  refine wpAny_Call_Name_kw (ld_glob I hg gC ?_ hdb)
  refine PySem.W.callWith_K (h₀ := X.base) I.ok.mod.kin T.oex.kC (thn (ha.run pos pins s σ H _ I h) fun us s1 hh => ?_) he hpl
  obtain ⟨vs, H1, I1, r1, v, ev, so, q1⟩ := hh
  subst ev
  refine ⟨I1.kIn, ?_⟩
  cases r1 with
  | cons rv rn =>
    rename_i v' us'
    cases rn
    show wpAny _ _ (call (.ref C) [v']) _ _ _
    have hlim := I1.nolimit
    obtain ⟨mb, h1, h2⟩ := I1.mod.blt
    have hso1 := hso _ _ _ _ _ _ I1 rv so
    have hG := I1.mod.glob.keeps I1.bk
    have hBk := h1.keeps I1.bk
    obtain ⟨hp, g, dr, tk, os⟩ := s1
    have r1' := hr.dp
    have r2' := hr.un
    refine wpAny_call (sx_made T I1.kIn hG hBk h2 hlim (by omega) (by omega) hso1 fun h' tk' e d M => ?_)
    show MkP X pins σ Q (.ref e) ⟨h', g, dr, tk', os⟩
    obtain ⟨oe, fv, hoe, hc, hd, hdat, h1⟩ := M.obj
    have hns := M.ns
    obtain ⟨G', g1, g2⟩ := restrict h' fun b => decide (b ≠ e)
    have gk : ∀ b, b ≠ e → G'.get? b = h'.get? b := fun b hb => g1 b (decide_eq_true hb)
    have ge : G'.get? e = none := g2 e (by simp)
    have old : ∀ b o, hp.get? b = some o → G'.get? b = some o := fun b o q => (gk b (Nat.ne_of_lt (Nat.lt_of_lt_of_le (Heap.lt_size q) M.new))).trans (M.keep b o q)
    have ob : ObjOk X.prog X.w (upd H1 d (.xd [(fld, v)])) G' d (.xd [(fld, v)]) :=
      ⟨_, hns.at (fun o q => (gk d M.dne).trans q), fun f => relO_fld rv f⟩
    have J : Inv X pins σ (upd H1 d (.xd [(fld, v)])) ⟨G', g, dr, tk', os⟩ := I1.laid (t' := tk') old M.dbig ob
    refine ⟨e, oe, fv, ⟨G', g, dr, tk', os⟩, _, .ref C, some d, rfl, J, fun b o q => ?_, ge, hoe, ⟨hc, hd⟩, hdat, h1, ?_, rfl, I1.bare, raises_own T.oex.exC T.oex.tyC, q1 d (I1.hok.fresh M.dbig)⟩
    · by_cases hb : b = e
      · have q' : G'.get? b = some o := q
        rw [hb, ge] at q'; cases q'
      · exact (gk b hb).symm.trans q
    · rw [upd_ne (Ne.symm M.dne)]
      exact I1.hok.fresh M.new
/-- raise C(e) -/
def tRaiseSx (C : Addr) (fld : Str) (SO : V → Hp → Prop) (W : WX) (ta : TA) : TS := fun _ σ H => tMkSx C fld SO ta σ H fun cls d H' => W cls d σ H'
theorem ps_raiseSx {SO : V → Hp → Prop} {a : Expr} {ta : TA} {W : WX} {p pos pos2 : Pos} {k : Nat} (hc : X.calm = true) (gC : X.mg cn = some (.ref C)) (T : SxTxt X.prog X.K C fI qual fld) (hr : Room k X.A) (hk : 1 ≤ k) (hso : StrR X SO) (tk : Takes X W) (ha : PA X [a] ta) (hg : Gl X cn := by rfl)
    (hdb : (cn == ("__debug__" : Str)) = false := by decide)
    (he : starEach (a :: []) X.env = (false, eval a X.env) :: starEach [] X.env := by rfl) (hpl : (backTo pos (starEach [] X.env)).any (·.1) = false := by rfl) :
    PS X (.Raise (some (.Call (.Name cn p) [a] [] pos)) none pos2) (tRaiseSx C fld SO W ta) := ps_raise hc tk (pmk_sx gC T hr hk hso ha hg hdb he hpl)
end
end L2


set_option Elab.async false
set_option linter.all false
set_option maxRecDepth 100000
set_option maxHeartbeats 4000000
/-! the head's facts: defs, own exceptions with super().__init__, one more Bool -/
namespace Hz
open PySem PySem.Spec PyProof.Rows L2 He PySem.SXE
structure XcD where
  cn : Str
  fld : Str
  qual : Str
  a1 : Pos
  a2 : Pos
  p0 : Pos
  p1 : Pos
  p2 : Pos
  p3 : Pos
  p4 : Pos
  p5 : Pos
  p6 : Pos
  p7 : Pos
  q1 : Pos
  q2 : Pos
  q3 : Pos
  q4 : Pos
abbrev FnZ : Type := Option (Str × Str × Arguments × FuncBody × Scope × Addr × List Str × Addr)
def XcD.body (d : XcD) : List Stmt := sxB d.fld d.p0 d.p1 d.p2 d.p3 d.p4 d.p5 d.p6 d.p7 d.q1 d.q2 d.q3 d.q4
def XcD.val (d : XcD) : FnZ := some (("__init__" : Str), d.qual, sxA d.fld d.a1 d.a2, FuncBody.stmts d.body, sxS d.fld, mainGlobals, [("__class__" : Str)], builtinsNs)
def XcD.C (K : PySem.W.Frag) (d : XcD) : Addr := ga K d.cn
def XcD.I (K : PySem.W.Frag) (d : XcD) : Addr := ma K (ga K d.cn) "__init__"
def xcObs (K : PySem.W.Frag) (d : XcD) : FnZ := match K.lookup (d.I K) with
  | some ⟨_, _, .func fd, _⟩ => some (fd.name, fd.qualname, fd.params, fd.body, fd.scope, fd.globals, fd.closure.map (·.1), fd.builtins)
  | _ => none
def excVE (K : PySem.W.Frag) (C : Addr) : Bool := match K.lookup C with
  | some ⟨.type "type", _, .cls cd, sl⟩ => (match cd.mro, sl.toList with
    | .ref C' :: bm, [_, _, _, _, some (.builtin n), _] => C' == C && (n == "ValueError.__new__" && (!cd.hasDel && (cd.hasDict && PySem.HandSPX.refsVE bm)))
    | _, _ => false)
  | _ => false
theorem excVE_ok {K : PySem.W.Frag} {C : Addr} (q : excVE K C = true) : ∃ nm q N bs bm sn sub ab col dd k0 k1 k2 k3 k5, K.lookup C = some (excClassObj nm q C N bs bm true sn sub ab col dd k0 k1 k2 k3 k5 "ValueError.__new__") ∧ PySem.HandSPX.refsVE bm = true := by
  unfold excVE at q
  split at q
  · rename_i dd cd sl ho
    split at q
    · rename_i C' bm k0 k1 k2 k3 n k5 hm hs
      simp only [Bool.and_eq_true, beq_iff_eq, Bool.not_eq_true'] at q
      obtain ⟨rfl, rfl, hdel, hd, ht⟩ := q
      obtain ⟨nm, bs, mro, ns, qn, hd', sn, sub, ab, col, del⟩ := cd
      dsimp only at hm hdel hd
      subst hm hdel hd
      have hsl : sl = #[k0, k1, k2, k3, some (.builtin "ValueError.__new__"), k5] := by
        obtain ⟨l⟩ := sl
        simp only at hs
        rw [hs]
      subst hsl
      exact ⟨nm, qn, ns, bs, bm, sn, sub, ab, col, dd, k0, k1, k2, k3, k5, ho, ht⟩
    · cases q
  · cases q
def celB (C : Addr) : Option Obj → Bool
  | some ⟨_, _, .cell (some (.ref D)), _⟩ => D == C
  | _ => false
theorem celB_ok {C : Addr} {o : Option Obj} (h : celB C o = true) : ∃ cl cld csl, o = some ⟨cl, cld, .cell (some (.ref C)), csl⟩ := by
  unfold celB at h
  split at h
  · rename_i D sl
    rw [beq_iff_eq.mp h]
    exact ⟨_, _, _, rfl⟩
  · cases h
def filB (file : Str) : Option Value → Bool
  | some (.str f _) => file == f
  | _ => false
theorem filB_ok {file : Str} {o : Option Value} (h : filB file o = true) : ∃ f t, o = some (.str f t) ∧ (file == f) = true := by
  unfold filB at h
  split at h
  · exact ⟨_, _, rfl, h⟩
  · cases h
def recB (file : Str) : Option Obj → Bool
  | some ⟨_, _, .fields vs, _⟩ => filB file (vs[2]? : Option Value)
  | _ => false
theorem recB_ok {file : Str} {o : Option Obj} (h : recB file o = true) : ∃ c d vs sl f t, o = some ⟨c, d, .fields vs, sl⟩ ∧ vs[2]? = some (Value.str f t) ∧ (file == f) = true := by
  unfold recB at h
  split at h
  · obtain ⟨f, t, h1, h2⟩ := filB_ok h
    exact ⟨_, _, _, _, f, t, rfl, h1, h2⟩
  · cases h
def clB (K : PySem.W.Frag) (C : Addr) : List (Str × Addr) → Bool
  | [(_, cc)] => celB C (K.lookup cc)
  | _ => false
def cdB (file : Str) (K : PySem.W.Frag) (qual : Str) : Value → Bool
  | .ref cda => PySem.W.codeIn K (.ref cda) qual && recB file (K.lookup cda)
  | _ => false
def dfB : Value → Bool
  | .none => true
  | _ => false
def fnB (file : Str) (K : PySem.W.Frag) (d : XcD) : Bool := match K.lookup (d.I K) with
  | some ⟨_, _, .func fd, _⟩ => dfB fd.defaults && (clB K (d.C K) fd.closure && cdB file K d.qual fd.code)
  | _ => false
def xcB (file : Str) (K : PySem.W.Frag) (d : XcD) : Bool :=
  eqO (PySem.W.nsIn K mainGlobals d.cn) (some (some (.ref (d.C K)))) && (excVE K (d.C K) && (eqO (PySem.W.findIn K (.ref (d.C K)) "__setattr__") (some (some (.builtin "object.__setattr__"))) &&
  (decide (PySem.W.subIn K (.ref (d.C K)) (.type "BaseException") = some true) && (decide (PySem.W.typeIn K (.ref (d.C K)) = some (.type "type")) && (PySem.W.keepIn K (.ref (d.C K)) &&
  (eqO (PySem.W.findIn K (.ref (d.C K)) "__init__") (some (some (.ref (d.I K)))) && (decide (PySem.W.typeIn K (.ref (d.I K)) = some (.type "function")) && (eqO (PySem.W.findIn K (.ref (d.C K)) d.fld) (some none) &&
  (eqO (PySem.W.nsIn K cStatics "thirdparty.any") (some none) && (eqO (PySem.W.ks_superIn K (d.C K) (d.C K) "__init__") (some (some (.builtin "ValueError.__init__"))) && (decide (PySem.W.subIn K (.ref (d.C K)) (.type "ValueError") = some true) &&
  (decide (PySem.W.mroIn K (d.C K) (.ref (d.C K)) = some true) && (eqO (PySem.W.nsIn K mainGlobals "super") (some none) && (eqO (PySem.W.nsIn K mainGlobals "str") (some none) && fnB file K d))))))))))))))
/-- the text of d is in form -/
structure XcOk (P : Program) (d : XcD) : Prop where
  nm : SxN d.fld
  at_ : SxP d.fld d.p0 d.p1 d.p2 d.p3 d.p4 d.p5 d.p6
  top : (P.main.scope.names.lookup ("super" : Str)).isSome = false
theorem xc_ok {P : Program} {K : PySem.W.Frag} {d : XcD} (ok : XcOk P d) (e : xcObs K d = d.val) (c : xcB P.main.file K d = true) : SxTxt P K (d.C K) (d.I K) d.qual d.fld := by
  obtain ⟨c0, c⟩ := ba c
  obtain ⟨c1, c⟩ := ba c
  obtain ⟨c2, c⟩ := ba c
  obtain ⟨c3, c⟩ := ba c
  obtain ⟨c4, c⟩ := ba c
  obtain ⟨c5, c⟩ := ba c
  obtain ⟨c6, c⟩ := ba c
  obtain ⟨c7, c⟩ := ba c
  obtain ⟨c8, c⟩ := ba c
  obtain ⟨c9, c⟩ := ba c
  obtain ⟨c10, c⟩ := ba c
  obtain ⟨c11, c⟩ := ba c
  obtain ⟨c12, c⟩ := ba c
  obtain ⟨c13, c⟩ := ba c
  obtain ⟨c14, c15⟩ := ba c
  refine { oex := ⟨excVE_ok c1, eqO_ok c2, of_decide_eq_true c3, of_decide_eq_true c4, c5⟩, iC := eqO_ok c6, tI := of_decide_eq_true c7, noN := eqO_ok c8, opq := eqO_ok c9, sup := eqO_ok c10, sVE := of_decide_eq_true c11, mro := of_decide_eq_true c12, nsup := eqO_ok c13, nstr := eqO_ok c14, top := ok.top, nm := ok.nm, fn := ?_ }
  unfold fnB at c15
  unfold xcObs at e
  cases q : K.lookup (d.I K) with
  | none =>
    rw [q] at c15
    cases c15
  | some o =>
    obtain ⟨oc, od, dt, osl⟩ := o
    rw [q] at c15 e
    cases dt with
    | func fd =>
      obtain ⟨n1, n2, n3, n4, n5, n6, n7, n8, n9, n10, n11, n12, n13, n14, n15⟩ := fd
      have e2 : (some (n1, n2, n3, n4, n5, n6, n7.map (·.1), n15) : FnZ) = some (("__init__" : Str), d.qual, sxA d.fld d.a1 d.a2, FuncBody.stmts d.body, sxS d.fld, mainGlobals, [("__class__" : Str)], builtinsNs) := e
      simp only [Option.some.injEq, Prod.mk.injEq] at e2
      obtain ⟨h1, h2, h3, h4, h5, h6, h7, h8⟩ := e2
      subst h1 h2 h3 h4 h5 h6 h8
      have c16 : (dfB n8 && (clB K (d.C K) n7 && cdB P.main.file K d.qual n13)) = true := c15
      obtain ⟨k1, k2⟩ := ba c16
      obtain ⟨k3, k4⟩ := ba k2
      obtain rfl : n8 = Value.none := by
        cases n8 <;> first | rfl | cases k1
      match n7, h7, k3 with
      | [(nmc, cc)], h7, k3 =>
        have en : nmc = ("__class__" : Str) := by
          have z : [nmc] = [("__class__" : Str)] := h7
          exact (List.cons.inj z).1
        subst en
        obtain ⟨cl, cld, csl, q2⟩ := celB_ok (show celB (d.C K) (K.lookup cc) = true from k3)
        cases n13 with
        | ref cda =>
          obtain ⟨k5, k6⟩ := ba k4
          obtain ⟨ccl, cdd, vs, ccs, f, t, q3, q4, q5⟩ := recB_ok k6
          exact ⟨_, _, _, _, _, _, _, _, _, _, _, _, _, _, _, _, _, _, _, _, _, _, cc, cda, _, _, _, _, vs, _, _, f, t, ok.at_, rfl, k5, q3, q4, q5, q2⟩
        | _ => cases k4
    | _ => cases c15
/-! ### the Hook -/
def asZ (g : Addr → Option Obj) : Nat → List Addr
  | 0 => [mainGlobals, cStatics]
  | n + 1 => growD g (asZ g n)
abbrev AlZ : Type := AlD × List FnZ × Bool
def obsZ (file : Str) (fa : List Fa) (fn : List DefD) (xs : List XcD) (ex : PySem.W.Frag → Bool) (K : PySem.W.Frag) : AlZ := (obsD fa fn K, xs.map (xcObs K), (xs.all (xcB file K)) && ex K)
def valZ (fn : List DefD) (xs : List XcD) : AlZ := (valD fn, xs.map XcD.val, true)
def SaysZ (file : Str) (fa : List Fa) (fn : List DefD) (xs : List XcD) (ex : PySem.W.Frag → Bool) (K : PySem.W.Frag) : Prop := obsZ file fa fn xs ex K = valZ fn xs
def obsZG (n : Nat) (file : Str) (fa : List Fa) (fn : List DefD) (xs : List XcD) (ex : PySem.W.Frag → Bool) (g : Addr → Option Obj) : AlZ := obsZ file fa fn xs ex (frG g (asZ g n))
def hookZ (n : Nat) (file : Str) (fa : List Fa) (fn : List DefD) (xs : List XcD) (ex : PySem.W.Frag → Bool) : PySem.W.Hook where
  α := AlZ
  obs := fun s => obsZG n file fa fn xs ex s.heap.get?
  val := fun _ => valZ fn xs
  says := fun _ h => ∃ K : PySem.W.Frag, K.In h ∧ SaysZ file fa fn xs ex K
  of := fun _ _ e => ⟨_, frG_in, e⟩
  keeps := fun _ _ _ ⟨K, hK, c⟩ k => ⟨K, PySem.W.Frag.In.keeps hK k, c⟩
theorem obsZG_eq {n : Nat} {file : Str} {fa : List Fa} {fn : List DefD} {xs : List XcD} {ex : PySem.W.Frag → Bool} {g : Addr → Option Obj} {s : Shared} (h : ∀ a, g a = s.heap.get? a) : obsZG n file fa fn xs ex g = (hookZ n file fa fn xs ex).obs s := by
  have e : g = s.heap.get? := funext h
  rw [e] <;> rfl
section
variable {file : Str} {fa : List Fa} {fn : List DefD} {xs : List XcD} {ex : PySem.W.Frag → Bool} {K : PySem.W.Frag}
theorem SaysZ.d (c : SaysZ file fa fn xs ex K) : SaysD fa fn K := congrArg (fun z : AlZ => z.1) c
theorem SaysZ.more (c : SaysZ file fa fn xs ex K) : ex K = true := (ba (show ((xs.all (xcB file K)) && ex K) = true from congrArg (fun z : AlZ => z.2.2) c)).2
theorem SaysZ.xc {P : Program} (c : SaysZ P.main.file fa fn xs ex K) {d : XcD} (h : d ∈ xs) (ok : XcOk P d) : SxTxt P K (d.C K) (d.I K) d.qual d.fld := by
  have c1 := (ba (show ((xs.all (xcB P.main.file K)) && ex K) = true from congrArg (fun z : AlZ => z.2.2) c)).1
  have e : xs.map (xcObs K) = xs.map XcD.val := congrArg (fun z : AlZ => z.2.1) c
  obtain ⟨i, hi, rfl⟩ := List.mem_iff_getElem.mp h
  have e2 : (xs.map (xcObs K))[i]? = (xs.map XcD.val)[i]? := by rw [e]
  rw [List.getElem?_map, List.getElem?_map, List.getElem?_eq_getElem hi] at e2
  exact xc_ok ok (Option.some.inj e2) (List.all_eq_true.mp c1 _ (List.getElem_mem hi))
theorem SaysZ.fact (c : SaysZ file fa fn xs ex K) {f : Fa} (h : f ∈ fa) : f.ok K = true := by
  obtain ⟨i, hi, e⟩ := List.mem_iff_getElem.mp h
  exact c.d.fact i (f := f) (by rw [List.getElem?_eq_getElem hi, e])
theorem SaysZ.fn_ (c : SaysZ file fa fn xs ex K) {d : DefD} (h : d ∈ fn) : ∃ fd, FunD K d.name d.qual d.params d.body d.scope (d.dvs K) (d.kws K) (fAd K d.at_) fd := by
  obtain ⟨i, hi, e⟩ := List.mem_iff_getElem.mp h
  exact c.d.def_ i (d := d) (by rw [List.getElem?_eq_getElem hi, e])
theorem SaysZ.xcg (c : SaysZ file fa fn xs ex K) {h : Heap} {mg : Str → Option Value} (X : K.In h) (G : h.Ns mainGlobals mg) {d : XcD} (m : d ∈ xs) : mg d.cn = some (.ref (d.C K)) := by
  have c1 := (ba (show ((xs.all (xcB file K)) && ex K) = true from congrArg (fun z : AlZ => z.2.2) c)).1
  exact PySem.W.mg_of X G (eqO_ok (ba (List.all_eq_true.mp c1 _ m)).1)
end
end Hz


set_option Elab.async false
set_option linter.all false
set_option maxRecDepth 100000
set_option maxHeartbeats 4000000
/-! isinstance of a caught exception that has a dict -/
namespace Iz
open PySem PySem.Spec PyProof.Rows L2
structure IsC (K : PySem.W.Frag) (C : Addr) : Prop where
  cl : (PySem.W.clsIn K C).isSome = true
  ga : PySem.W.findIn K (.ref C) "__getattribute__" = some (some (.builtin "BaseException.__getattribute__"))
  gg : PySem.W.findIn K (.ref C) "__getattr__" = some none
  sb : PySem.W.subIn K (.ref C) (.type "BaseException") = some true
  ca : PySem.W.findIn K (.ref C) "__class__" = some (some (.builtin "object.__class__"))
  sp : PySem.W.specialIn K (.builtin "object.__class__") "__get__" = some (some (.builtin "getset_descriptor.__get__"))
  tk : PySem.W.takesIn K (.builtin "object.__class__") = some true
  mr : PySem.W.mroIn K C (.type "object") = some true
def icB (K : PySem.W.Frag) (C : Addr) : Bool := (PySem.W.clsIn K C).isSome && (decide (PySem.W.findIn K (.ref C) "__getattribute__" = some (some (.builtin "BaseException.__getattribute__"))) && (decide (PySem.W.findIn K (.ref C) "__getattr__" = some none) && (decide (PySem.W.subIn K (.ref C) (.type "BaseException") = some true) &&
  (decide (PySem.W.findIn K (.ref C) "__class__" = some (some (.builtin "object.__class__"))) && (decide (PySem.W.specialIn K (.builtin "object.__class__") "__get__" = some (some (.builtin "getset_descriptor.__get__"))) && (decide (PySem.W.takesIn K (.builtin "object.__class__") = some true) && decide (PySem.W.mroIn K C (.type "object") = some true)))))))
theorem icB_ok {K : PySem.W.Frag} {C : Addr} (h : icB K C = true) : IsC K C := by
  unfold icB at h
  simp only [Bool.and_eq_true, decide_eq_true_eq] at h
  obtain ⟨h1, h2, h3, h4, h5, h6, h7, h8⟩ := h
  exact ⟨h1, h2, h3, h4, h5, h6, h7, h8⟩
def isB (K : PySem.W.Frag) (C : Addr) (cv : Value) (b : Bool) : Bool := decide (PySem.W.kitOne K (.ref C) cv = some b)
theorem isB_ok {K : PySem.W.Frag} {C : Addr} {cv : Value} {b : Bool} (h : isB K C cv b = true) : PySem.W.kitOne K (.ref C) cv = some b := of_decide_eq_true h
/-- isinstance(e, c), e the exception that the suite holds, with its dict -/
def rIsD (K : PySem.W.Frag) (a : Addr) (cls : Value) (d : Option Addr) : List V → Hp → VK → Prop := fun xs H Q => ∃ (C : Addr) (c : V) (cv : Value) (b : Bool) (dd : Addr) (fs : List (Str × V)), xs = [.ref a, c] ∧ cls = .ref C ∧ IsC K C ∧ (∀ u, RelV c u → u = cv) ∧ PySem.W.kitOne K (.ref C) cv = some b ∧ d = some dd ∧ H dd = some (.xd fs) ∧ Q (.bl b) H
theorem call_isD {X : Cx} {a : Addr} {oe : Obj} {cls : Value} {d : Option Addr} {pn : List (Addr × Obj)} (hz : Zc cls d oe) (hf : ∃ vs, oe.data = .fields vs) : CallR (X.suite a ((a, oe) :: pn)) (.builtin "isinstance") (rIsD X.K a cls d) := by
  intro pins s σ H xs us Q I r h
  obtain ⟨C, c, cv, b, dd, fs, rfl, rfl, T, hcv, e, rfl, ea, q⟩ := h
  cases r with
  | cons rx rr =>
    cases rr with
    | cons rt rr =>
      cases rr
      cases rx
      have ec := hcv _ rt
      subst ec
      obtain ⟨hget, _⟩ := I.pin (a, oe) (List.mem_append.mpr (.inl List.mem_cons_self))
      obtain ⟨vs, hd⟩ := hf
      have hx : ObjOk X.prog X.w H s.heap dd (.xd fs) := I.hok dd _ ea
      obtain ⟨mA, hns, hr⟩ := hx
      obtain ⟨od, ho, hl⟩ := lookIn_ns hns
      have J : PySem.W.InstAt s.heap a oe C (some od) := ⟨hget, hz.1, by unfold PySem.W.notCls; rw [hd] <;> rfl, by rw [hz.2]; exact ho⟩
      exact PySem.W.kia_one (PySem.W.kitx_exc T.cl T.ga T.gg T.sb T.ca T.sp T.tk T.mr) I.kIn J e (fun z => nomatch z) fun tk => ⟨.bl b, H, I.kept (t' := tk) fun _ _ z => z, rfl, q⟩
end Iz


set_option Elab.async false
set_option linter.all false
set_option maxRecDepth 100000
set_option maxHeartbeats 4000000
/-! common lemmas: what stays of a heap, data, small rules -/
namespace Cm
open PySem PySem.Spec PyProof.Rows L2
theorem pe_gint {X : Cx} {x : Str} {i : Int} {pos : Pos} (h : ∃ t, X.mg x = some (.int i t)) (hg : Gl X x := by rfl) (hd : (x == ("__debug__" : Str)) = false := by decide) : PE X (.Name x pos) (tC (.int i)) := by
  obtain ⟨t, e⟩ := h
  exact pe_glob hg e ⟨_, rfl⟩ hd
theorem pe_gref {X : Cx} {x : Str} {a : Addr} {pos : Pos} (h : X.mg x = some (.ref a)) (hg : Gl X x := by rfl) (hd : (x == ("__debug__" : Str)) = false := by decide) : PE X (.Name x pos) (tC (.ref a)) := pe_glob hg h rfl hd
theorem pe_bty {X : Cx} {x : Str} {n : String} {pos : Pos} (hm : X.mg x = none) (hv : bootBuiltins x = some (.type n)) (hg : Gl X x := by rfl) (hn : x ≠ "__name__" := by decide) (hd : (x == ("__debug__" : Str)) = false := by decide) : PE X (.Name x pos) (tC (.ty n)) := pe_bltn hg hm hv rfl hn hd
/-- all but what stands at M stays, and every tuple -/
structure Kp (M : List Addr) (H H' : Hp) : Prop where
  keep : ∀ b o, b ∉ M → H b = some o → H' b = some o
  tup : ∀ b xs, Rd H b (.tup xs) → Rd H' b (.tup xs)
section
variable {M : List Addr} {H H1 H2 H' : Hp} {a p : Addr} {o : HO} {K : PySem.W.Frag}
theorem Kp.refl : Kp M H H := ⟨fun _ _ _ h => h, fun _ _ h => h⟩
theorem Kp.trans (x : Kp M H H1) (y : Kp M H1 H2) : Kp M H H2 := ⟨fun b o n h => y.keep b o n (x.keep b o n h), fun b xs h => y.tup b xs (x.tup b xs h)⟩
theorem Kp.mono {N : List Addr} (x : Kp M H H') (s : ∀ b ∈ M, b ∈ N) : Kp N H H' := ⟨fun b o n h => x.keep b o (fun m => n (s b m)) h, x.tup⟩
theorem Kp.nil (x : Kp [] H H') : Kp M H H' := x.mono fun b m => absurd m List.not_mem_nil
theorem Kp.new (h : H p = none) : Kp M H (upd H p o) := by
  have k : ∀ b u, H b = some u → upd H p o b = some u := fun b u e => by rw [upd_ne (ne_of_none e h)]; exact e
  exact ⟨fun b u _ e => k b u e, fun b xs r => by
    rcases r with r | ⟨q, r⟩
    · exact .inl (k _ _ r)
    · exact .inr ⟨q, k _ _ r⟩⟩
/-- an object that is one's own is written -/
theorem Kp.mine (k1 : Kp M H H') (hD : H p = none) : Kp M H (upd H' p o) := ⟨fun b u nb e => by rw [upd_ne (ne_of_none e hD)]; exact k1.keep b u nb e, fun b xs r => by
  have z := k1.tup b xs r
  have nd : b ≠ p := fun q => by
    subst q
    rcases r with r | ⟨q, r⟩ <;> (rw [hD] at r; cases r)
  rcases z with z | ⟨q, z⟩
  · exact .inl (by rw [upd_ne nd]; exact z)
  · exact .inr ⟨q, by rw [upd_ne nd]; exact z⟩⟩
/-- what is no tuple is changed -/
def NT (o : HO) : Prop := (∀ xs, o ≠ .tup xs) ∧ ∀ q u, o ≠ .frz q u
theorem Kp.put {u : HO} (h : H a = some u) (n : NT u) (m : a ∈ M) : Kp M H (upd H a o) := by
  have ne : ∀ b xs, Rd H b (.tup xs) → b ≠ a := fun b xs r z => by
    subst z
    rcases r with r | ⟨q, r⟩
    · rw [h] at r
      exact n.1 xs (Option.some.inj r)
    · rw [h] at r
      exact n.2 _ _ (Option.some.inj r)
  exact ⟨fun b v nb e => (upd_ne (fun z => nb (by rw [z]; exact m))).trans e, fun b xs r => by
    have z := ne b xs r
    rcases r with r | ⟨q, r⟩
    · exact .inl (by rw [upd_ne z]; exact r)
    · exact .inr ⟨q, by rw [upd_ne z]; exact r⟩⟩
theorem nt_lst {xs : List V} : NT (.lst xs) := ⟨fun _ z => (by cases z), fun _ _ z => (by cases z)⟩
theorem nt_ins {C dx : Addr} {fs : List (Str × V)} : NT (.ins C dx fs) := ⟨fun _ z => (by cases z), fun _ _ z => (by cases z)⟩
theorem nt_dK {kvs : List (Key × V)} : NT (.dK kvs) := ⟨fun _ z => (by cases z), fun _ _ z => (by cases z)⟩
theorem Kp.sqt {xs : List V} (x : Kp M H H') (h : SqT K H a xs) : SqT K H' a xs := by
  rcases h with h | h
  · exact .inl (x.tup _ _ h)
  · exact .inr h
theorem Kp.sql {xs : List V} (x : Kp M H H') (n : a ∉ M) (h : SqL K H a xs) : SqL K H' a xs := by
  rcases h with (h | ⟨o, h⟩) | h
  · exact .inl (.inl (x.keep _ _ n h))
  · exact .inl (.inr ⟨o, x.keep _ _ n h⟩)
  · exact .inr h
theorem Kp.fresh {l : Addr} (x : Kp M H H') (n : l ∉ M) (h : H' l = none) : H l = none := by
  cases q : H l with
  | none => rfl
  | some o =>
    rw [x.keep l o n q] at h
    cases h
/-! ### data without lists and dicts -/
mutual
def noL : PyData → Bool
  | .list _ => false
  | .dict _ => false
  | .tuple ds => noLs ds
  | _ => true
def noLs : List PyData → Bool
  | [] => true
  | d :: ds => noL d && noLs ds
end
mutual
theorem Dp.kp (x : Kp M H H') : ∀ (d : PyData) (v : V), noL d = true → Dp K H v d → Dp K H' v d
  | .none, _, _, h => by cases h; exact .non
  | .bool _, _, _, h => by cases h; exact .bl _
  | .int _, _, _, h => by cases h; exact .int _
  | .str _, _, _, h => by cases h; exact .str _
  | .list _, _, n, _ => by cases n
  | .dict _, _, n, _ => by cases n
  | .tuple ds, _, n, h => by
    cases h with
    | tup hs ha => exact .tup (x.sqt hs) (Dp.kps x ds _ n ha)
theorem Dp.kps (x : Kp M H H') : ∀ (ds : List PyData) (vs : List V), noLs ds = true → DpAll K H vs ds → DpAll K H' vs ds
  | [], _, _, h => by cases h; exact .nil
  | d :: ds, _, n, h => by
    obtain ⟨n1, n2⟩ := Bool.and_eq_true_iff.mp (show (noL d && noLs ds) = true from n)
    cases h with
    | cons h1 h2 => exact .cons (Dp.kp x d _ n1 h1) (Dp.kps x ds _ n2 h2)
end
theorem DpAll.length {vs : List V} {ds : List PyData} (h : DpAll K H vs ds) : vs.length = ds.length := by
  induction ds generalizing vs with
  | nil => cases h; rfl
  | cons d ds ih =>
    cases h with
    | cons h1 h2 => simp [ih h2]
theorem DpAll.get {vs : List V} {ds : List PyData} (h : DpAll K H vs ds) {i : Nat} {d : PyData} (e : ds[i]? = some d) : ∃ v, vs[i]? = some v ∧ Dp K H v d := by
  induction ds generalizing vs i with
  | nil => simp at e
  | cons d' ds ih =>
    cases h with
    | cons h1 h2 =>
      cases i with
      | zero =>
        simp at e
        subst e
        exact ⟨_, rfl, h1⟩
      | succ i =>
        simp at e
        exact ih h2 e
theorem DpAll.snoc {vs : List V} {ds : List PyData} {v : V} {d : PyData} (h : DpAll K H vs ds) (x : Dp K H v d) : DpAll K H (vs ++ [v]) (ds ++ [d]) := by
  induction ds generalizing vs with
  | nil => cases h; exact .cons x .nil
  | cons d' ds ih =>
    cases h with
    | cons h1 h2 => exact .cons h1 (ih h2)
theorem DpAll.app {vs ws : List V} {ds es : List PyData} (h : DpAll K H vs ds) (x : DpAll K H ws es) : DpAll K H (vs ++ ws) (ds ++ es) := by
  induction ds generalizing vs with
  | nil => cases h; exact x
  | cons d' ds ih =>
    cases h with
    | cons h1 h2 => exact .cons h1 (ih h2)
theorem DpAll.take {vs : List V} {ds : List PyData} (h : DpAll K H vs ds) (n : Nat) : DpAll K H (vs.take n) (ds.take n) := by
  induction ds generalizing vs n with
  | nil => cases h; simpa using DpAll.nil
  | cons d' ds ih =>
    cases h with
    | cons h1 h2 =>
      cases n with
      | zero => exact .nil
      | succ n => exact .cons h1 (ih h2 n)
theorem DpAll.drop {vs : List V} {ds : List PyData} (h : DpAll K H vs ds) (n : Nat) : DpAll K H (vs.drop n) (ds.drop n) := by
  induction ds generalizing vs n with
  | nil => cases h; simpa using DpAll.nil
  | cons d' ds ih =>
    cases h with
    | cons h1 h2 =>
      cases n with
      | zero => exact .cons h1 h2
      | succ n => exact ih h2 n
/-- a new tuple of data -/
theorem Dp.new {vs : List V} {ds : List PyData} (h : DpAll K H vs ds) (n : noLs ds = true) (hp : H p = none) : Dp K (upd H p (.tup vs)) (.ref p) (.tuple ds) :=
  .tup (SqT.of upd_same) (Dp.kps (M := []) (Kp.new hp) ds vs n h)
theorem Dp.strOf {v : V} {z : Str} (h : Dp K H v (.str z)) : v = .str z := by cases h; rfl
theorem Dp.intOf {v : V} {z : Int} (h : Dp K H v (.int z)) : v = .int z := by cases h; rfl
theorem Dp.nonOf {v : V} (h : Dp K H v .none) : v = .non := by cases h; rfl
theorem Dp.tupOf {v : V} {ds : List PyData} (h : Dp K H v (.tuple ds)) : ∃ q vs, v = .ref q ∧ SqT K H q vs ∧ DpAll K H vs ds := by
  cases h with
  | tup hs ha => exact ⟨_, _, rfl, hs, ha⟩
end
theorem hu65_of {A : Around} {k : Nat} (hr : Room k A) : A.units + 65 < cLine := by have := hr.un; omega
/-! ### tests whose answer is known -/
theorem iteT' {c : Bool} {A B : Prop} (hc : c = true) (h : A) : if c = true then A else B := by rw [if_pos hc]; exact h
theorem iteF' {c : Bool} {A B : Prop} (hc : c = false) (h : B) : if c = true then A else B := by rw [hc, if_neg Bool.false_ne_true]; exact h
theorem iteB {c : Bool} {A B : Prop} (h1 : c = true → A) (h2 : c = false → B) : if c = true then A else B := by
  cases c with
  | true => exact iteT (h1 rfl)
  | false => exact iteF (h2 rfl)
/-- a comprehension over the signs of a text -/
theorem lc_str {x : Str} {g : TG} {tt : TT} {te : TE} {vs : List Nat} {σ : L2.St} {H1 : Hp} {D : Addr} {Qd : Hp → Prop} (Pv : Nat → Hp → Prop) (h0 : Pv 0 (upd H1 D (.lst [])))
    (hs : ∀ i c H, x.cps.toList[i]? = some c → Pv i H → g (.str ⟨#[c]⟩) (wipe σ vs) H fun σ2 H2 => wipe σ2 vs = wipe σ vs ∧ tt σ2 H2 fun b H3 =>
      if b = true then te σ2 H3 fun y H4 => ∃ acc, H4 D = some (.lst acc) ∧ acc.length < sizeLine ∧ Pv (i + 1) (upd H4 D (.lst (acc ++ [y]))) else Pv (i + 1) H3) (hd : ∀ H, Pv x.length H → Qd H) :
    ∃ W : Nat → Nat → Hp → Prop, (∃ m, W 0 m (upd H1 D (.lst []))) ∧ ∀ i m H, W i m H →
      ((Its x).stop i H ∧ Qd H) ∨ ((Its x).go i H ∧ ∃ Nx : Hp → Prop, (∀ H', Nx H' → ∃ m', m' < m ∧ W (i + 1) m' H') ∧ ∀ y H', (Its x).yld i H y H' → g y (wipe σ vs) H' fun σ2 H2 => wipe σ2 vs = wipe σ vs ∧ tt σ2 H2 fun b H3 =>
        if b = true then te σ2 H3 fun y H4 => ∃ acc, H4 D = some (.lst acc) ∧ acc.length < sizeLine ∧ Nx (upd H4 D (.lst (acc ++ [y]))) else Nx H3) := by
  refine ⟨fun i m H => m = x.length - i ∧ i ≤ x.length ∧ Pv i H, ⟨x.length, by simp, Nat.zero_le _, h0⟩, ?_⟩
  rintro i m H ⟨rfl, hi, p⟩
  by_cases hlt : i < x.length
  · refine .inr ⟨hlt, Pv (i + 1), fun H' p' => ⟨x.length - (i + 1), by omega, rfl, hlt, p'⟩, fun y H' q => ?_⟩
    obtain ⟨e, c, hc, ey⟩ := q
    subst e ey
    exact hs i c _ (by rw [Array.getElem?_toList]; exact hc) p
  · have e : i = x.length := by omega
    subst e
    exact .inl ⟨Nat.le_refl _, hd H p⟩
theorem fld_use {K : PySem.W.Frag} {H : Hp} {r C dx : Addr} {fs : List (Str × V)} {f : Str} {v : V} {Q : V → Hp → Prop} (h : H r = some (.ins C dx fs)) (c : Cls K C) (n : NoAttr K C f) (l : fs.lookup f = some v) (q : Q v H) :
    ∃ a C dx fs v, V.ref r = .ref a ∧ H a = some (.ins C dx fs) ∧ Cls K C ∧ NoAttr K C f ∧ fs.lookup f = some v ∧ Q v H := ⟨_, _, _, _, _, rfl, h, c, n, l, q⟩
theorem szl {n : Nat} (h : n ≤ 100000) : n ≤ sizeLine := by rw [sizeLine_eq]; omega
theorem szt {n : Nat} (h : n < 100000) : n < sizeLine := by rw [sizeLine_eq]; omega
theorem atI_at {α : Type} {l : List α} {n : Nat} (h : n < l.length) : atI l (n : Int) = some l[n] := atI_nat (List.getElem?_eq_getElem h)
end Cm


set_option Elab.async false
set_option linter.all false
set_option maxRecDepth 100000
set_option maxHeartbeats 4000000
/-! the lexer in plain Lean -/
namespace Lx
open PySem
def isLet (c : Nat) : Bool := decide (97 ≤ c) && decide (c ≤ 122)
def isDig (c : Nat) : Bool := decide (48 ≤ c) && decide (c ≤ 57)
def inW (c : Nat) : Bool := isLet c || (isDig c || decide (c = 95))
/-- a token: kind, value (a text or a number), place -/
structure Tk where
  kind : Str
  val : PyData
  at_ : Nat
def Tk.enc (t : Tk) : PyData := .tuple [.str t.kind, t.val, .int t.at_]
def wordOf (r : List Nat) : Str := ⟨(r.takeWhile inW).toArray⟩
def reserved : List Str := ["else", "fn", "global", "if", "new", "nil", "out", "return", "while"]
def sgns : List Str := ["==", "=", "+", "-", ".", ",", ";", "(", ")", "{", "}"]
def wLen (r : List Nat) : Nat := (r.takeWhile inW).length
def tkWord (r : List Nat) (n : Nat) : Option Tk :=
  if wordOf r ∈ reserved then some ⟨"reserved", .str (wordOf r), n⟩ else if 10 < wLen r then none else some ⟨"name", .str (wordOf r), n⟩
def decs (l : List Nat) : Nat := l.foldl (fun a c => a * 10 + (c - 48)) 0
def tkNum (r : List Nat) (n : Nat) : Option Tk :=
  if 5 < wLen r ∨ (r.takeWhile inW).all isDig = false then none
  else if 65535 < decs (r.takeWhile inW) ∨ (r.head? = some 48 ∧ 1 < wLen r) then none else some ⟨"number", .int (decs (r.takeWhile inW) : Nat), n⟩
def sgn (r : List Nat) : Option Str := sgns.find? fun s => r.take s.length == s.cps.toList
def tkSign (r : List Nat) (n : Nat) : Option Tk := (sgn r).map fun s => ⟨"sign", .str s, n⟩
/-- the token at the head of r, and how many sgns it takes -/
def tok1 (r : List Nat) (n : Nat) : Option (Tk × Nat) := match r with
  | [] => none
  | c :: _ => if isLet c then (tkWord r n).map fun t => (t, wLen r) else if isDig c then (tkNum r n).map fun t => (t, wLen r) else
    (sgn r).map fun s => (⟨"sign", .str s, n⟩, s.length)
/-- all tokens, or the place of the first that is none -/
def lexF : Nat → List Nat → Nat → Except Nat (List Tk)
  | 0, _, _ => .ok []
  | _ + 1, [], _ => .ok []
  | m + 1, c :: r, n => if c = 32 ∨ c = 10 then lexF m r (n + 1) else match tok1 (c :: r) n with
    | none => .error n
    | some (t, k) => match lexF m ((c :: r).drop k) (n + k) with
      | .error e => .error e
      | .ok ts => .ok (t :: ts)
inductive Er where
  | mal (n : Nat) | big (s : Str) | unk (s : Str) | cla (s : Str) | mis (s : Str)
def lex (l : List Nat) : Except Er (List Tk) := if 6000 < l.length then .error (.big "text") else match lexF l.length l 0 with
  | .error n => .error (.mal n)
  | .ok ts => .ok ts
theorem wLen_le (r : List Nat) : wLen r ≤ r.length := by
  unfold wLen
  exact (List.takeWhile_prefix _).length_le
theorem wordOf_len (r : List Nat) : (wordOf r).length = wLen r := by
  unfold wordOf wLen
  show (List.toArray _).size = _
  simp
theorem takeWhile_take {p : Nat → Bool} : ∀ (r : List Nat), r.take (r.takeWhile p).length = r.takeWhile p
  | [] => rfl
  | c :: r => by
    by_cases h : p c = true
    · simp [List.takeWhile_cons, h, takeWhile_take r]
    · simp [List.takeWhile_cons, h]
theorem decs_append (l : List Nat) (c : Nat) : decs (l ++ [c]) = decs l * 10 + (c - 48) := by
  unfold decs
  rw [List.foldl_append]
  rfl
/-! ### how errors and tokens lie in the heap -/
open L2 Cm He
def Er.cls : Er → Str
  | .mal _ => "Malformed"
  | .big _ => "Oversized"
  | .unk _ => "Unknown"
  | .cla _ => "Clashing"
  | .mis _ => "Misused"
def Er.fld : Er → List (Str × V)
  | .mal n => [("at", .int (n : Nat))]
  | .big s => [("limit", .str s)]
  | .unk s => [("name", .str s)]
  | .cla s => [("name", .str s)]
  | .mis s => [("why", .str s)]
/-- the error e goes out: all but M stays -/
def XEr (K : PySem.W.Frag) (M : List Addr) (H : Hp) (E : XK) (e : Er) : Prop := ∀ d H', Kp M H H' → H' d = some (.xd e.fld) → E (.ref (ga K e.cls)) (some d) H'
theorem XEr.back {K : PySem.W.Frag} {M : List Addr} {H H1 : Hp} {E : XK} {e : Er} (x : XEr K M H E e) (k : Kp M H H1) : XEr K M H1 E e := fun d H' k2 hd => x d H' (k.trans k2) hd
theorem XEr.new {K : PySem.W.Frag} {M : List Addr} {H : Hp} {E : XK} {e : Er} (x : XEr K M H E e) {d : Addr} (hd : H d = none) : E (.ref (ga K e.cls)) (some d) (upd H d (.xd e.fld)) := x d _ (Kp.new hd) upd_same
def DOut (K : PySem.W.Frag) (M : List Addr) (H : Hp) (Q : VK) (d : PyData) : Prop := ∀ v H', Kp M H H' → Dp K H' v d → Q v H'
def TkOut (K : PySem.W.Frag) (H : Hp) (Q : VK) (E : XK) (n : Nat) : Option Tk → Prop
  | some t => DOut K [] H Q t.enc
  | none => XEr K [] H E (.mal n)
theorem soInt {n : Nat} {H : Hp} (h : n ≤ 200000) : soScal (.int (n : Int)) H := by
  show ((n : Int).natAbs).log2 < 1920
  have e : (n : Int).natAbs = n := rfl
  rw [e]
  by_cases h0 : n = 0
  · subst h0
    decide
  · exact (Nat.log2_lt h0).mpr (Nat.lt_of_le_of_lt h (Nat.lt_of_lt_of_le (by decide : 200000 < 2 ^ 18) (Nat.pow_le_pow_right (by decide) (by decide))))
theorem inV_strs (z : Str) (l : List Str) : inV (.str z) (l.map V.str) = decide (z ∈ l) := by
  unfold inV
  rw [List.any_map]
  induction l with
  | nil => simp
  | cons a l ih =>
    rw [List.any_cons, ih]
    have e : ((fun y => eqV y (V.str z)) ∘ V.str) a = (a == z) := rfl
    rw [e]
    by_cases h : a = z
    · subst h
      simp
    · have h2 : ¬ z = a := fun q => h q.symm
      have e3 : (a == z) = false := beq_eq_false_iff_ne.mpr h
      rw [e3, Bool.false_or]
      exact decide_eq_decide.mpr ⟨fun m => List.mem_cons_of_mem _ m, fun m => (List.mem_cons.mp m).resolve_left h2⟩
theorem flat_strs (l : List Str) : (l.map V.str).all flatV = true := by
  rw [List.all_map]
  exact List.all_eq_true.mpr fun _ _ => rfl
end Lx


set_option Elab.async false
set_option linter.all false
set_option maxRecDepth 100000
set_option maxHeartbeats 4000000
/-! the parser in plain Lean -/
namespace Px
open PySem Lx
inductive Vl where
  | nm (x : Str) | num (n : Int) | nil
  deriving DecidableEq
inductive Ts where
  | tru (x : Str) | same (x : Str) (v : Vl)
  deriving DecidableEq
inductive Sm where
  | new (x : Str) (k : Nat) | set (x : Str) (v : Vl) (k : Nat) | load (x y f : Str) (k : Nat) | add (x y : Str) (n : Int) (k : Nat) | call (x g : Str) (vs : List Vl) (k : Nat)
  | store (x f : Str) (v : Vl) (k : Nat) | out (x : Str) (k : Nat) | ret (v : Vl) (k : Nat) | ite (t : Ts) (a b : List Sm) (k : Nat) | whl (t : Ts) (a : List Sm) (k : Nat)
structure Fd where
  name : Str
  ps : List Str
  body : List Sm
def Vl.enc : Vl → PyData
  | .nm x => .tuple [.str "name", .str x]
  | .num n => .tuple [.str "number", .int n]
  | .nil => .tuple [.str "nil"]
def Ts.enc : Ts → PyData
  | .tru x => .tuple [.str "true", .str x]
  | .same x v => .tuple [.str "same", .str x, v.enc]
mutual
def Sm.enc : Sm → PyData
  | .new x k => .tuple [.str "new", .str x, .int k]
  | .set x v k => .tuple [.str "set", .str x, v.enc, .int k]
  | .load x y f k => .tuple [.str "load", .str x, .str y, .str f, .int k]
  | .add x y n k => .tuple [.str "add", .str x, .str y, .int n, .int k]
  | .call x g vs k => .tuple [.str "call", .str x, .str g, .tuple (vs.map Vl.enc), .int k]
  | .store x f v k => .tuple [.str "store", .str x, .str f, v.enc, .int k]
  | .out x k => .tuple [.str "out", .str x, .int k]
  | .ret v k => .tuple [.str "return", v.enc, .int k]
  | .ite t a b k => .tuple [.str "if", t.enc, .tuple (encs a), .tuple (encs b), .int k]
  | .whl t a k => .tuple [.str "while", t.enc, .tuple (encs a), .int k]
def encs : List Sm → List PyData
  | [] => []
  | s :: r => s.enc :: encs r
end
def Fd.enc (f : Fd) : PyData := .tuple [.str f.name, .tuple (f.ps.map .str), .tuple (encs f.body)]
theorem encs_map : ∀ l : List Sm, encs l = l.map Sm.enc
  | [] => rfl
  | s :: r => by rw [encs, encs_map r]; rfl
/-! ### the reader -/
abbrev Pr (α : Type) := Option (Except Er α)
def peekK : List Tk → Str
  | t :: _ => t.kind
  | [] => ""
def peekV : List Tk → PyData
  | t :: _ => t.val
  | [] => .str ""
def plc (e : Nat) : List Tk → Nat
  | t :: _ => t.at_
  | [] => e
def isTk (k v : Str) : List Tk → Bool
  | t :: _ => decide (t.kind = k) && (match t.val with | .str x => decide (x = v) | _ => false)
  | [] => false
def acc (k v : Str) (rem : List Tk) : Option (List Tk) := if isTk k v rem then some rem.tail else none
def rdTok (e : Nat) (k : Str) (rem : List Tk) : Except Er (PyData × List Tk) := if peekK rem = k then .ok (peekV rem, rem.tail) else .error (.mal (plc e rem))
def strOf : PyData → Str
  | .str x => x
  | _ => ""
def intOf : PyData → Int
  | .int x => x
  | _ => 0
def rdName (e : Nat) (rem : List Tk) : Except Er (Str × List Tk) := match rdTok e "name" rem with
  | .error x => .error x
  | .ok (d, r) => .ok (strOf d, r)
def rdNum (e : Nat) (rem : List Tk) : Except Er (Int × List Tk) := match rdTok e "number" rem with
  | .error x => .error x
  | .ok (d, r) => .ok (intOf d, r)
def expct (e : Nat) (s : Str) (rem : List Tk) : Except Er (List Tk) := match acc "sign" s rem with
  | some r => .ok r
  | none => .error (.mal (plc e rem))
def rdVal (e : Nat) (rem : List Tk) : Except Er (Vl × List Tk) := match acc "reserved" "nil" rem with
  | some r => .ok (.nil, r)
  | none => if peekK rem = "number" then (match rdNum e rem with
      | .error x => .error x
      | .ok (n, r) => .ok (.num n, r))
    else match rdName e rem with
      | .error x => .error x
      | .ok (n, r) => .ok (.nm n, r)
def rdFld (e : Nat) (rem : List Tk) : Except Er (Str × List Tk) := match rdName e rem with
  | .error x => .error x
  | .ok (f, r) => if f = "a" ∨ f = "b" then .ok (f, r) else .error (.mal (plc e rem))
def rdMore (e : Nat) : Nat → List Tk → Pr (List Vl × List Tk)
  | 0, _ => none
  | f + 1, rem => match acc "sign" "," rem with
    | none => some (.ok ([], rem))
    | some r => match rdVal e r with
      | .error x => some (.error x)
      | .ok (v, r2) => match rdMore e f r2 with
        | none => none
        | some (.error x) => some (.error x)
        | some (.ok (vs, r3)) => some (.ok (v :: vs, r3))
def rdVals (e f : Nat) (rem : List Tk) : Pr (List Vl × List Tk) := match acc "sign" ")" rem with
  | some r => some (.ok ([], r))
  | none => match rdVal e rem with
    | .error x => some (.error x)
    | .ok (v, r) => match rdMore e f r with
      | none => none
      | some (.error x) => some (.error x)
      | some (.ok (vs, r2)) => match expct e ")" r2 with
        | .error x => some (.error x)
        | .ok r3 => some (.ok (v :: vs, r3))
def rdRight (e f : Nat) (x : Str) (k : Nat) (rem : List Tk) : Pr (Sm × List Tk) := match acc "reserved" "new" rem with
  | some r => some (.ok (.new x k, r))
  | none => if peekK rem ≠ "name" then (match rdVal e rem with
      | .error x => some (.error x)
      | .ok (v, r) => some (.ok (.set x v k, r)))
    else match rdName e rem with
      | .error x => some (.error x)
      | .ok (y, r) => match acc "sign" "." r with
        | some r2 => (match rdFld e r2 with
          | .error x => some (.error x)
          | .ok (g, r3) => some (.ok (.load x y g k, r3)))
        | none => match acc "sign" "(" r with
          | some r2 => (match rdVals e f r2 with
            | none => none
            | some (.error x) => some (.error x)
            | some (.ok (vs, r3)) => some (.ok (.call x y vs k, r3)))
          | none => match acc "sign" "+" r with
            | some r2 => (match rdNum e r2 with
              | .error x => some (.error x)
              | .ok (n, r3) => some (.ok (.add x y n k, r3)))
            | none => match acc "sign" "-" r with
              | some r2 => (match rdNum e r2 with
                | .error x => some (.error x)
                | .ok (n, r3) => some (.ok (.add x y (-n % 65536) k, r3)))
              | none => some (.ok (.set x (.nm y) k, r))
def rdAsg (e f : Nat) (k : Nat) (rem : List Tk) : Pr (Sm × List Tk) := match rdName e rem with
  | .error x => some (.error x)
  | .ok (x, r) => match acc "sign" "." r with
    | some r2 => (match rdFld e r2 with
      | .error x => some (.error x)
      | .ok (g, r3) => match expct e "=" r3 with
        | .error x => some (.error x)
        | .ok r4 => match rdVal e r4 with
          | .error x => some (.error x)
          | .ok (v, r5) => some (.ok (.store x g v k, r5)))
    | none => match expct e "=" r with
      | .error x => some (.error x)
      | .ok r2 => rdRight e f x k r2
def rdTest (e : Nat) (rem : List Tk) : Except Er (Ts × List Tk) := match rdName e rem with
  | .error x => .error x
  | .ok (x, r) => match acc "sign" "==" r with
    | some r2 => (match rdVal e r2 with
      | .error x => .error x
      | .ok (v, r3) => .ok (.same x v, r3))
    | none => .ok (.tru x, r)
/-- a plain statement, up to its semicolon -/
def rdPlain (e f k : Nat) (rem : List Tk) : Pr (Sm × List Tk) := match acc "reserved" "out" rem with
  | some r => (match rdName e r with
    | .error x => some (.error x)
    | .ok (x, r2) => some (.ok (.out x k, r2)))
  | none => match acc "reserved" "return" rem with
    | some r => (match rdVal e r with
      | .error x => some (.error x)
      | .ok (v, r2) => some (.ok (.ret v k, r2)))
    | none => rdAsg e f k rem
mutual
def rdStm (e : Nat) : Nat → Nat → List Tk → Nat → Pr (Sm × List Tk × Nat)
  | 0, _, _, _ => none
  | f + 1, lv, rem, k => match acc "reserved" "if" rem with
    | some r => (match rdTest e r with
      | .error x => some (.error x)
      | .ok (t, r2) => match rdBlk e f (lv + 1) r2 (k + 1) with
        | none => none
        | some (.error x) => some (.error x)
        | some (.ok (a, r3, k2)) => match acc "reserved" "else" r3 with
          | none => some (.ok (.ite t a [] k, r3, k2))
          | some r4 => match rdBlk e f (lv + 1) r4 k2 with
            | none => none
            | some (.error x) => some (.error x)
            | some (.ok (b, r5, k3)) => some (.ok (.ite t a b k, r5, k3)))
    | none => match acc "reserved" "while" rem with
      | some r => (match rdTest e r with
        | .error x => some (.error x)
        | .ok (t, r2) => match rdBlk e f (lv + 1) r2 (k + 1) with
          | none => none
          | some (.error x) => some (.error x)
          | some (.ok (a, r3, k2)) => some (.ok (.whl t a k, r3, k2)))
      | none => match rdPlain e f k rem with
        | none => none
        | some (.error x) => some (.error x)
        | some (.ok (s, r)) => match expct e ";" r with
          | .error x => some (.error x)
          | .ok r2 => some (.ok (s, r2, k + 1))
def rdBlk (e : Nat) : Nat → Nat → List Tk → Nat → Pr (List Sm × List Tk × Nat)
  | 0, _, _, _ => none
  | f + 1, lv, rem, k => if 12 < lv ∧ isTk "sign" "{" rem = true then some (.error (.big "depth")) else match expct e "{" rem with
    | .error x => some (.error x)
    | .ok r => rdStms e f lv r k
def rdStms (e : Nat) : Nat → Nat → List Tk → Nat → Pr (List Sm × List Tk × Nat)
  | 0, _, _, _ => none
  | f + 1, lv, rem, k => match acc "sign" "}" rem with
    | some r => some (.ok ([], r, k))
    | none => match rdStm e f lv rem k with
      | none => none
      | some (.error x) => some (.error x)
      | some (.ok (s, r, k2)) => match rdStms e f lv r k2 with
        | none => none
        | some (.error x) => some (.error x)
        | some (.ok (ss, r2, k3)) => some (.ok (s :: ss, r2, k3))
end
def rdNms (e : Nat) : Nat → List Tk → Pr (List Str × List Tk)
  | 0, _ => none
  | f + 1, rem => match acc "sign" "," rem with
    | none => some (.ok ([], rem))
    | some r => match rdName e r with
      | .error x => some (.error x)
      | .ok (v, r2) => match rdNms e f r2 with
        | none => none
        | some (.error x) => some (.error x)
        | some (.ok (vs, r3)) => some (.ok (v :: vs, r3))
def rdPs (e f : Nat) (rem : List Tk) : Pr (List Str × List Tk) := match acc "sign" ")" rem with
  | some r => some (.ok ([], r))
  | none => match rdName e rem with
    | .error x => some (.error x)
    | .ok (v, r) => match rdNms e f r with
      | none => none
      | some (.error x) => some (.error x)
      | some (.ok (vs, r2)) => match expct e ")" r2 with
        | .error x => some (.error x)
        | .ok r3 => some (.ok (v :: vs, r3))
def rdFn (e f : Nat) (rem : List Tk) : Pr (Fd × List Tk × Nat) := match rdName e rem with
  | .error x => some (.error x)
  | .ok (n, r) => match expct e "(" r with
    | .error x => some (.error x)
    | .ok r2 => match rdPs e f r2 with
      | none => none
      | some (.error x) => some (.error x)
      | some (.ok (ps, r3)) => match rdBlk e f 1 r3 0 with
        | none => none
        | some (.error x) => some (.error x)
        | some (.ok (b, r4, k)) => some (.ok (⟨n, ps, b⟩, r4, k))
inductive Itm where
  | glo (x : Str) | fn (f : Fd)
def Itm.enc : Itm → PyData
  | .glo x => .tuple [.str "global", .str x]
  | .fn f => .tuple [.str "fn", f.enc]
def wrd (e : Nat) (s : Str) (rem : List Tk) : Except Er (List Tk) := match acc "reserved" s rem with
  | some r => .ok r
  | none => .error (.mal (plc e rem))
def rdItms (e : Nat) : Nat → List Tk → Pr (List Itm)
  | 0, _ => none
  | f + 1, rem => if rem = [] then some (.ok []) else match acc "reserved" "global" rem with
    | some r => (match rdName e r with
      | .error x => some (.error x)
      | .ok (x, r2) => match expct e ";" r2 with
        | .error x => some (.error x)
        | .ok r3 => match rdItms e f r3 with
          | none => none
          | some (.error x) => some (.error x)
          | some (.ok l) => some (.ok (.glo x :: l)))
    | none => match wrd e "fn" rem with
      | .error x => some (.error x)
      | .ok r => match rdFn e f r with
        | none => none
        | some (.error x) => some (.error x)
        | some (.ok (g, r2, _)) => match rdItms e f r2 with
          | none => none
          | some (.error x) => some (.error x)
          | some (.ok l) => some (.ok (.fn g :: l))
end Px


set_option Elab.async false
set_option linter.all false
set_option maxRecDepth 100000
set_option maxHeartbeats 4000000
/-! the text by places, what its top has written (printed by a program) -/
namespace K14
open PySem PySem.Spec PyProof.Rows L2 He Hz
def top (i : Nat) : Stmt := PySem.Challenge.pw_outlives_k14_texts_sign_by_sign.main.body.getD i (.Pass ⟨0, 0, 0, 0⟩)
abbrev s_is_letter : Stmt := top 14
abbrev s_is_digit : Stmt := top 15
abbrev s_in_word : Stmt := top 16
abbrev s_word_end : Stmt := top 17
abbrev s_read_word : Stmt := top 18
abbrev s_read_number : Stmt := top 19
abbrev s_read_sign : Stmt := top 20
abbrev s_tokens : Stmt := top 21
abbrev s_Reader___init__ : Stmt := inClass (top 25) 0
abbrev s_Reader_place : Stmt := inClass (top 25) 1
abbrev s_Reader_peek : Stmt := inClass (top 25) 2
abbrev s_Reader_accept : Stmt := inClass (top 25) 3
abbrev s_Reader_expect : Stmt := inClass (top 25) 4
abbrev s_Reader_read : Stmt := inClass (top 25) 5
abbrev s_Reader_at_end : Stmt := inClass (top 25) 6
abbrev s_Reader_start_function : Stmt := inClass (top 25) 7
abbrev s_Reader_take_number : Stmt := inClass (top 25) 8
abbrev s_read_value : Stmt := top 26
abbrev s_read_field : Stmt := top 27
abbrev s_read_values : Stmt := top 28
abbrev s_read_right : Stmt := top 29
abbrev s_read_assignment : Stmt := top 30
abbrev s_read_test : Stmt := top 31
abbrev s_read_statement : Stmt := top 32
abbrev s_read_block : Stmt := top 33
abbrev s_read_function : Stmt := top 34
abbrev s_expect_word : Stmt := top 35
abbrev s_parse : Stmt := top 36
abbrev s_parse_function : Stmt := top 37
abbrev s_statements : Stmt := top 40
abbrev s_locals_of : Stmt := top 41
abbrev s_value_names : Stmt := top 42
abbrev s_test_names : Stmt := top 43
abbrev s_used_names : Stmt := top 44
abbrev s_Program___init__ : Stmt := inClass (top 45) 0
abbrev s_Program_add_global : Stmt := inClass (top 45) 1
abbrev s_Program_add_function : Stmt := inClass (top 45) 2
abbrev s_Program_replaced : Stmt := inClass (top 45) 3
abbrev s_Program_function : Stmt := inClass (top 45) 4
abbrev s_Program_has_global : Stmt := inClass (top 45) 5
abbrev s_Program_globals_list : Stmt := inClass (top 45) 6
abbrev s_Program_functions : Stmt := inClass (top 45) 7
abbrev s_Program_check : Stmt := inClass (top 45) 8
abbrev s_check_call : Stmt := top 46
abbrev s_check_function : Stmt := top 47
abbrev s_program_of : Stmt := top 48
abbrev s__law_wide : Stmt := top 50
abbrev s__law_take : Stmt := top 51
abbrev s__law_odd : Stmt := top 52
abbrev s__law_piece : Stmt := top 53
abbrev s__law_in_word : Stmt := top 54
abbrev s__law_run : Stmt := top 55
abbrev s__law_token : Stmt := top 56
abbrev s__law_due : Stmt := top 57
abbrev s__law_told : Stmt := top 58
abbrev s__law_text_right : Stmt := top 59
abbrev s__law_nested : Stmt := top 60
abbrev s__law_levels_right : Stmt := top 61
abbrev s__law_sums_right : Stmt := top 62
abbrev s_law : Stmt := top 63
def d_is_letter : He.DefD := ⟨("is_letter", none), "is_letter", "is_letter", defArgs s_is_letter, defBody s_is_letter, defScope s_is_letter, [], []⟩
def d_is_digit : He.DefD := ⟨("is_digit", none), "is_digit", "is_digit", defArgs s_is_digit, defBody s_is_digit, defScope s_is_digit, [], []⟩
def d_in_word : He.DefD := ⟨("in_word", none), "in_word", "in_word", defArgs s_in_word, defBody s_in_word, defScope s_in_word, [], []⟩
def d_word_end : He.DefD := ⟨("word_end", none), "word_end", "word_end", defArgs s_word_end, defBody s_word_end, defScope s_word_end, [], []⟩
def d_read_word : He.DefD := ⟨("read_word", none), "read_word", "read_word", defArgs s_read_word, defBody s_read_word, defScope s_read_word, [], []⟩
def d_read_number : He.DefD := ⟨("read_number", none), "read_number", "read_number", defArgs s_read_number, defBody s_read_number, defScope s_read_number, [], []⟩
def d_read_sign : He.DefD := ⟨("read_sign", none), "read_sign", "read_sign", defArgs s_read_sign, defBody s_read_sign, defScope s_read_sign, [], []⟩
def d_tokens : He.DefD := ⟨("tokens", none), "tokens", "tokens", defArgs s_tokens, defBody s_tokens, defScope s_tokens, [], []⟩
def d_Reader___init__ : He.DefD := ⟨("Reader", some "__init__"), "__init__", "Reader.__init__", defArgs s_Reader___init__, defBody s_Reader___init__, defScope s_Reader___init__, [], []⟩
def d_Reader_place : He.DefD := ⟨("Reader", some "place"), "place", "Reader.place", defArgs s_Reader_place, defBody s_Reader_place, defScope s_Reader_place, [], []⟩
def d_Reader_peek : He.DefD := ⟨("Reader", some "peek"), "peek", "Reader.peek", defArgs s_Reader_peek, defBody s_Reader_peek, defScope s_Reader_peek, [], []⟩
def d_Reader_accept : He.DefD := ⟨("Reader", some "accept"), "accept", "Reader.accept", defArgs s_Reader_accept, defBody s_Reader_accept, defScope s_Reader_accept, [], []⟩
def d_Reader_expect : He.DefD := ⟨("Reader", some "expect"), "expect", "Reader.expect", defArgs s_Reader_expect, defBody s_Reader_expect, defScope s_Reader_expect, [], []⟩
def d_Reader_read : He.DefD := ⟨("Reader", some "read"), "read", "Reader.read", defArgs s_Reader_read, defBody s_Reader_read, defScope s_Reader_read, [], []⟩
def d_Reader_at_end : He.DefD := ⟨("Reader", some "at_end"), "at_end", "Reader.at_end", defArgs s_Reader_at_end, defBody s_Reader_at_end, defScope s_Reader_at_end, [], []⟩
def d_Reader_start_function : He.DefD := ⟨("Reader", some "start_function"), "start_function", "Reader.start_function", defArgs s_Reader_start_function, defBody s_Reader_start_function, defScope s_Reader_start_function, [], []⟩
def d_Reader_take_number : He.DefD := ⟨("Reader", some "take_number"), "take_number", "Reader.take_number", defArgs s_Reader_take_number, defBody s_Reader_take_number, defScope s_Reader_take_number, [], []⟩
def d_read_value : He.DefD := ⟨("read_value", none), "read_value", "read_value", defArgs s_read_value, defBody s_read_value, defScope s_read_value, [], []⟩
def d_read_field : He.DefD := ⟨("read_field", none), "read_field", "read_field", defArgs s_read_field, defBody s_read_field, defScope s_read_field, [], []⟩
def d_read_values : He.DefD := ⟨("read_values", none), "read_values", "read_values", defArgs s_read_values, defBody s_read_values, defScope s_read_values, [], []⟩
def d_read_right : He.DefD := ⟨("read_right", none), "read_right", "read_right", defArgs s_read_right, defBody s_read_right, defScope s_read_right, [], []⟩
def d_read_assignment : He.DefD := ⟨("read_assignment", none), "read_assignment", "read_assignment", defArgs s_read_assignment, defBody s_read_assignment, defScope s_read_assignment, [], []⟩
def d_read_test : He.DefD := ⟨("read_test", none), "read_test", "read_test", defArgs s_read_test, defBody s_read_test, defScope s_read_test, [], []⟩
def d_read_statement : He.DefD := ⟨("read_statement", none), "read_statement", "read_statement", defArgs s_read_statement, defBody s_read_statement, defScope s_read_statement, [], []⟩
def d_read_block : He.DefD := ⟨("read_block", none), "read_block", "read_block", defArgs s_read_block, defBody s_read_block, defScope s_read_block, [], []⟩
def d_read_function : He.DefD := ⟨("read_function", none), "read_function", "read_function", defArgs s_read_function, defBody s_read_function, defScope s_read_function, [], []⟩
def d_expect_word : He.DefD := ⟨("expect_word", none), "expect_word", "expect_word", defArgs s_expect_word, defBody s_expect_word, defScope s_expect_word, [], []⟩
def d_parse : He.DefD := ⟨("parse", none), "parse", "parse", defArgs s_parse, defBody s_parse, defScope s_parse, [], []⟩
def d_parse_function : He.DefD := ⟨("parse_function", none), "parse_function", "parse_function", defArgs s_parse_function, defBody s_parse_function, defScope s_parse_function, [], []⟩
def d_statements : He.DefD := ⟨("statements", none), "statements", "statements", defArgs s_statements, defBody s_statements, defScope s_statements, [], []⟩
def d_locals_of : He.DefD := ⟨("locals_of", none), "locals_of", "locals_of", defArgs s_locals_of, defBody s_locals_of, defScope s_locals_of, [], []⟩
def d_value_names : He.DefD := ⟨("value_names", none), "value_names", "value_names", defArgs s_value_names, defBody s_value_names, defScope s_value_names, [], []⟩
def d_test_names : He.DefD := ⟨("test_names", none), "test_names", "test_names", defArgs s_test_names, defBody s_test_names, defScope s_test_names, [], []⟩
def d_used_names : He.DefD := ⟨("used_names", none), "used_names", "used_names", defArgs s_used_names, defBody s_used_names, defScope s_used_names, [], []⟩
def d_Program___init__ : He.DefD := ⟨("Program", some "__init__"), "__init__", "Program.__init__", defArgs s_Program___init__, defBody s_Program___init__, defScope s_Program___init__, [], []⟩
def d_Program_add_global : He.DefD := ⟨("Program", some "add_global"), "add_global", "Program.add_global", defArgs s_Program_add_global, defBody s_Program_add_global, defScope s_Program_add_global, [], []⟩
def d_Program_add_function : He.DefD := ⟨("Program", some "add_function"), "add_function", "Program.add_function", defArgs s_Program_add_function, defBody s_Program_add_function, defScope s_Program_add_function, [], []⟩
def d_Program_replaced : He.DefD := ⟨("Program", some "replaced"), "replaced", "Program.replaced", defArgs s_Program_replaced, defBody s_Program_replaced, defScope s_Program_replaced, [], []⟩
def d_Program_function : He.DefD := ⟨("Program", some "function"), "function", "Program.function", defArgs s_Program_function, defBody s_Program_function, defScope s_Program_function, [], []⟩
def d_Program_has_global : He.DefD := ⟨("Program", some "has_global"), "has_global", "Program.has_global", defArgs s_Program_has_global, defBody s_Program_has_global, defScope s_Program_has_global, [], []⟩
def d_Program_globals_list : He.DefD := ⟨("Program", some "globals_list"), "globals_list", "Program.globals_list", defArgs s_Program_globals_list, defBody s_Program_globals_list, defScope s_Program_globals_list, [], []⟩
def d_Program_functions : He.DefD := ⟨("Program", some "functions"), "functions", "Program.functions", defArgs s_Program_functions, defBody s_Program_functions, defScope s_Program_functions, [], []⟩
def d_Program_check : He.DefD := ⟨("Program", some "check"), "check", "Program.check", defArgs s_Program_check, defBody s_Program_check, defScope s_Program_check, [], []⟩
def d_check_call : He.DefD := ⟨("check_call", none), "check_call", "check_call", defArgs s_check_call, defBody s_check_call, defScope s_check_call, [], []⟩
def d_check_function : He.DefD := ⟨("check_function", none), "check_function", "check_function", defArgs s_check_function, defBody s_check_function, defScope s_check_function, [], []⟩
def d_program_of : He.DefD := ⟨("program_of", none), "program_of", "program_of", defArgs s_program_of, defBody s_program_of, defScope s_program_of, [], []⟩
def d__law_wide : He.DefD := ⟨("_law_wide", none), "_law_wide", "_law_wide", defArgs s__law_wide, defBody s__law_wide, defScope s__law_wide, [], []⟩
def d__law_take : He.DefD := ⟨("_law_take", none), "_law_take", "_law_take", defArgs s__law_take, defBody s__law_take, defScope s__law_take, [], []⟩
def d__law_odd : He.DefD := ⟨("_law_odd", none), "_law_odd", "_law_odd", defArgs s__law_odd, defBody s__law_odd, defScope s__law_odd, [], []⟩
def d__law_piece : He.DefD := ⟨("_law_piece", none), "_law_piece", "_law_piece", defArgs s__law_piece, defBody s__law_piece, defScope s__law_piece, [], []⟩
def d__law_in_word : He.DefD := ⟨("_law_in_word", none), "_law_in_word", "_law_in_word", defArgs s__law_in_word, defBody s__law_in_word, defScope s__law_in_word, [], []⟩
def d__law_run : He.DefD := ⟨("_law_run", none), "_law_run", "_law_run", defArgs s__law_run, defBody s__law_run, defScope s__law_run, [], []⟩
def d__law_token : He.DefD := ⟨("_law_token", none), "_law_token", "_law_token", defArgs s__law_token, defBody s__law_token, defScope s__law_token, [], []⟩
def d__law_due : He.DefD := ⟨("_law_due", none), "_law_due", "_law_due", defArgs s__law_due, defBody s__law_due, defScope s__law_due, [], []⟩
def d__law_told : He.DefD := ⟨("_law_told", none), "_law_told", "_law_told", defArgs s__law_told, defBody s__law_told, defScope s__law_told, [], []⟩
def d__law_text_right : He.DefD := ⟨("_law_text_right", none), "_law_text_right", "_law_text_right", defArgs s__law_text_right, defBody s__law_text_right, defScope s__law_text_right, [], []⟩
def d__law_nested : He.DefD := ⟨("_law_nested", none), "_law_nested", "_law_nested", defArgs s__law_nested, defBody s__law_nested, defScope s__law_nested, [], []⟩
def d__law_levels_right : He.DefD := ⟨("_law_levels_right", none), "_law_levels_right", "_law_levels_right", defArgs s__law_levels_right, defBody s__law_levels_right, defScope s__law_levels_right, [], []⟩
def d__law_sums_right : He.DefD := ⟨("_law_sums_right", none), "_law_sums_right", "_law_sums_right", defArgs s__law_sums_right, defBody s__law_sums_right, defScope s__law_sums_right, [], []⟩
def d_law : He.DefD := ⟨("law", none), "law", "law", defArgs s_law, defBody s_law, defScope s_law, [], []⟩
def fn : List He.DefD := [d_is_letter, d_is_digit, d_in_word, d_word_end, d_read_word, d_read_number, d_read_sign, d_tokens, d_Reader___init__, d_Reader_place, d_Reader_peek, d_Reader_accept, d_Reader_expect, d_Reader_read, d_Reader_at_end, d_Reader_start_function, d_Reader_take_number, d_read_value, d_read_field, d_read_values, d_read_right, d_read_assignment, d_read_test, d_read_statement, d_read_block, d_read_function, d_expect_word, d_parse, d_parse_function, d_statements, d_locals_of, d_value_names, d_test_names, d_used_names, d_Program___init__, d_Program_add_global, d_Program_add_function, d_Program_replaced, d_Program_function, d_Program_has_global, d_Program_globals_list, d_Program_functions, d_Program_check, d_check_call, d_check_function, d_program_of, d__law_wide, d__law_take, d__law_odd, d__law_piece, d__law_in_word, d__law_run, d__law_token, d__law_due, d__law_told, d__law_text_right, d__law_nested, d__law_levels_right, d__law_sums_right, d_law]
def xd_Malformed : XcD := ⟨"Malformed", "at", "Malformed.__init__", ⟨9, 17, 9, 21⟩, ⟨9, 23, 9, 25⟩, ⟨10, 8, 10, 13⟩, ⟨10, 8, 10, 15⟩, ⟨10, 8, 10, 24⟩, ⟨10, 25, 10, 28⟩, ⟨10, 29, 10, 31⟩, ⟨10, 25, 10, 32⟩, ⟨10, 8, 10, 33⟩, ⟨10, 8, 10, 33⟩, ⟨11, 8, 11, 12⟩, ⟨11, 8, 11, 15⟩, ⟨11, 18, 11, 20⟩, ⟨11, 8, 11, 20⟩⟩
def xd_Unknown : XcD := ⟨"Unknown", "name", "Unknown.__init__", ⟨14, 17, 14, 21⟩, ⟨14, 23, 14, 27⟩, ⟨15, 8, 15, 13⟩, ⟨15, 8, 15, 15⟩, ⟨15, 8, 15, 24⟩, ⟨15, 25, 15, 28⟩, ⟨15, 29, 15, 33⟩, ⟨15, 25, 15, 34⟩, ⟨15, 8, 15, 35⟩, ⟨15, 8, 15, 35⟩, ⟨16, 8, 16, 12⟩, ⟨16, 8, 16, 17⟩, ⟨16, 20, 16, 24⟩, ⟨16, 8, 16, 24⟩⟩
def xd_Clashing : XcD := ⟨"Clashing", "name", "Clashing.__init__", ⟨19, 17, 19, 21⟩, ⟨19, 23, 19, 27⟩, ⟨20, 8, 20, 13⟩, ⟨20, 8, 20, 15⟩, ⟨20, 8, 20, 24⟩, ⟨20, 25, 20, 28⟩, ⟨20, 29, 20, 33⟩, ⟨20, 25, 20, 34⟩, ⟨20, 8, 20, 35⟩, ⟨20, 8, 20, 35⟩, ⟨21, 8, 21, 12⟩, ⟨21, 8, 21, 17⟩, ⟨21, 20, 21, 24⟩, ⟨21, 8, 21, 24⟩⟩
def xd_Oversized : XcD := ⟨"Oversized", "limit", "Oversized.__init__", ⟨24, 17, 24, 21⟩, ⟨24, 23, 24, 28⟩, ⟨25, 8, 25, 13⟩, ⟨25, 8, 25, 15⟩, ⟨25, 8, 25, 24⟩, ⟨25, 25, 25, 28⟩, ⟨25, 29, 25, 34⟩, ⟨25, 25, 25, 35⟩, ⟨25, 8, 25, 36⟩, ⟨25, 8, 25, 36⟩, ⟨26, 8, 26, 12⟩, ⟨26, 8, 26, 18⟩, ⟨26, 21, 26, 26⟩, ⟨26, 8, 26, 26⟩⟩
def xd_Misused : XcD := ⟨"Misused", "why", "Misused.__init__", ⟨29, 17, 29, 21⟩, ⟨29, 23, 29, 26⟩, ⟨30, 8, 30, 13⟩, ⟨30, 8, 30, 15⟩, ⟨30, 8, 30, 24⟩, ⟨30, 25, 30, 28⟩, ⟨30, 29, 30, 32⟩, ⟨30, 25, 30, 33⟩, ⟨30, 8, 30, 34⟩, ⟨30, 8, 30, 34⟩, ⟨31, 8, 31, 12⟩, ⟨31, 8, 31, 16⟩, ⟨31, 19, 31, 22⟩, ⟨31, 8, 31, 22⟩⟩
def xs : List XcD := [xd_Malformed, xd_Unknown, xd_Clashing, xd_Oversized, xd_Misused]
def fa : List He.Fa :=
  ([(He.Fa.glo "is_letter"), (He.Fa.glo "is_digit"), (He.Fa.glo "in_word"), (He.Fa.glo "word_end"), (He.Fa.glo "read_word"), (He.Fa.glo "read_number"), (He.Fa.glo "read_sign"), (He.Fa.glo "tokens"), (He.Fa.glo "read_value"), (He.Fa.glo "read_field"), (He.Fa.glo "read_values"), (He.Fa.glo "read_right"), (He.Fa.glo "read_assignment"), (He.Fa.glo "read_test"), (He.Fa.glo "read_statement"), (He.Fa.glo "read_block"), (He.Fa.glo "read_function"), (He.Fa.glo "expect_word"), (He.Fa.glo "parse"), (He.Fa.glo "parse_function")] : List He.Fa) ++ ([(He.Fa.glo "statements"), (He.Fa.glo "locals_of"), (He.Fa.glo "value_names"), (He.Fa.glo "test_names"), (He.Fa.glo "used_names"), (He.Fa.glo "check_call"), (He.Fa.glo "check_function"), (He.Fa.glo "program_of"), (He.Fa.glo "_law_wide"), (He.Fa.glo "_law_take"), (He.Fa.glo "_law_odd"), (He.Fa.glo "_law_piece"), (He.Fa.glo "_law_in_word"), (He.Fa.glo "_law_run"), (He.Fa.glo "_law_token"), (He.Fa.glo "_law_due"), (He.Fa.glo "_law_told"), (He.Fa.glo "_law_text_right"), (He.Fa.glo "_law_nested"), (He.Fa.glo "_law_levels_right")] : List He.Fa) ++ ([(He.Fa.glo "_law_sums_right"), (He.Fa.glo "law"), (He.Fa.glo "Refused"), (He.Fa.glo "Malformed"), (He.Fa.glo "Unknown"), (He.Fa.glo "Clashing"), (He.Fa.glo "Oversized"), (He.Fa.glo "Misused"), (He.Fa.glo "Reader"), (He.Fa.glo "Program"), (He.Fa.glo "RESERVED"), (He.Fa.glo "SIGNS"), (He.Fa.glo "FIELDS"), (He.Fa.glo "ASSIGNING"), (He.Fa.free "len"), (He.Fa.free "range"), (He.Fa.free "list"), (He.Fa.free "tuple"), (He.Fa.free "int"), (He.Fa.free "all")] : List He.Fa) ++ ([(He.Fa.free "abs"), (He.Fa.free "str"), (He.Fa.int "MAX_TEXT" 6000), (He.Fa.int "MAX_NAME" 10), (He.Fa.int "MAX_NUMBER" 65535), (He.Fa.int "MAX_LEVELS" 12), (He.Fa.cls "Reader"), (He.Fa.mkr "Reader"), (He.Fa.meth "Reader" "place"), (He.Fa.meth "Reader" "peek"), (He.Fa.meth "Reader" "accept"), (He.Fa.meth "Reader" "expect"), (He.Fa.meth "Reader" "read"), (He.Fa.meth "Reader" "at_end"), (He.Fa.meth "Reader" "start_function"), (He.Fa.meth "Reader" "take_number"), (He.Fa.noat "Reader" "_tokens"), (He.Fa.noat "Reader" "_next"), (He.Fa.noat "Reader" "_end"), (He.Fa.noat "Reader" "_number")] : List He.Fa) ++ ([(He.Fa.cls "Program"), (He.Fa.mkr "Program"), (He.Fa.meth "Program" "add_global"), (He.Fa.meth "Program" "add_function"), (He.Fa.meth "Program" "replaced"), (He.Fa.meth "Program" "function"), (He.Fa.meth "Program" "has_global"), (He.Fa.meth "Program" "globals_list"), (He.Fa.meth "Program" "functions"), (He.Fa.meth "Program" "check"), (He.Fa.noat "Program" "_globals"), (He.Fa.noat "Program" "_functions"), (He.Fa.exm "Malformed" "Oversized" false), (He.Fa.exm "Oversized" "Oversized" true), (He.Fa.exm "Malformed" "Malformed" true)] : List He.Fa)
def tl_RESERVED : List He.Dv := [.str "else", .str "fn", .str "global", .str "if", .str "new", .str "nil", .str "out", .str "return", .str "while"]
def tl_SIGNS : List He.Dv := [.str "==", .str "=", .str "+", .str "-", .str ".", .str ",", .str ";", .str "(", .str ")", .str "{", .str "}"]
def tl_FIELDS : List He.Dv := [.str "a", .str "b"]
def tl_ASSIGNING : List He.Dv := [.str "new", .str "set", .str "load", .str "add", .str "call"]
def ex (K : PySem.W.Frag) : Bool := (He.tupB K "RESERVED" tl_RESERVED && (He.tupB K "SIGNS" tl_SIGNS && (He.tupB K "FIELDS" tl_FIELDS && (He.tupB K "ASSIGNING" tl_ASSIGNING && (xfB K (ga K "Malformed") && (xfB K (ga K "Unknown") && (xfB K (ga K "Clashing") && (xfB K (ga K "Oversized") && (xfB K (ga K "Misused") && true)))))))))
def names : List PySem.Str := ([("_wall" : PySem.Str), ("Refused" : PySem.Str), ("Malformed" : PySem.Str), ("Unknown" : PySem.Str), ("Clashing" : PySem.Str), ("Oversized" : PySem.Str), ("Misused" : PySem.Str), ("MAX_TEXT" : PySem.Str), ("MAX_NAME" : PySem.Str), ("MAX_NUMBER" : PySem.Str), ("RESERVED" : PySem.Str), ("SIGNS" : PySem.Str), ("is_letter" : PySem.Str), ("is_digit" : PySem.Str), ("in_word" : PySem.Str), ("word_end" : PySem.Str), ("read_word" : PySem.Str), ("read_number" : PySem.Str), ("read_sign" : PySem.Str), ("tokens" : PySem.Str)] : List PySem.Str) ++ ([("MAX_LEVELS" : PySem.Str), ("FIELDS" : PySem.Str), ("Reader" : PySem.Str), ("read_value" : PySem.Str), ("read_field" : PySem.Str), ("read_values" : PySem.Str), ("read_right" : PySem.Str), ("read_assignment" : PySem.Str), ("read_test" : PySem.Str), ("read_statement" : PySem.Str), ("read_block" : PySem.Str), ("read_function" : PySem.Str), ("expect_word" : PySem.Str), ("parse" : PySem.Str), ("parse_function" : PySem.Str), ("ASSIGNING" : PySem.Str), ("statements" : PySem.Str), ("locals_of" : PySem.Str), ("value_names" : PySem.Str), ("test_names" : PySem.Str)] : List PySem.Str) ++ ([("used_names" : PySem.Str), ("Program" : PySem.Str), ("check_call" : PySem.Str), ("check_function" : PySem.Str), ("program_of" : PySem.Str), ("_law_wide" : PySem.Str), ("_law_take" : PySem.Str), ("_law_odd" : PySem.Str), ("_law_piece" : PySem.Str), ("_law_in_word" : PySem.Str), ("_law_run" : PySem.Str), ("_law_token" : PySem.Str), ("_law_due" : PySem.Str), ("_law_told" : PySem.Str), ("_law_text_right" : PySem.Str), ("_law_nested" : PySem.Str), ("_law_levels_right" : PySem.Str), ("_law_sums_right" : PySem.Str)] : List PySem.Str)
def lawAt : Nat := 63
structure Tx (P : Program) (K : PySem.W.Frag) (mg : Str → Option Value) : Prop where
  c : SaysZ P.main.file fa fn xs ex K
  g : ∀ x, He.Fa.glo x ∈ fa → mg x = some (.ref (ga K x))
  n : ∀ x, He.Fa.free x ∈ fa → mg x = none
  i : ∀ x j, He.Fa.int x j ∈ fa → ∃ t, mg x = some (.int j t)
  xg : ∀ d, d ∈ xs → mg d.cn = some (.ref (d.C K))
  ok : ∀ d, d ∈ xs → XcOk P d
def fdOf (K : PySem.W.Frag) (a : Addr) : FuncData := match K.lookup a with
  | some ⟨_, _, .func fd, _⟩ => fd
  | _ => default
theorem fd_eq {K : PySem.W.Frag} {x qual : Str} {params : Arguments} {body : List Stmt} {scope : Scope} {dvs : List V} {kws : List (Str × V)} {f : Addr} {fd : FuncData} (F : FunD K x qual params body scope dvs kws f fd) : FunD K x qual params body scope dvs kws f (fdOf K f) := by
  obtain ⟨oc, od, dV, kV, doc, pm, an, cdv, ct, osl, e, lk, _⟩ := F.ex
  have q : fdOf K f = fd := by
    unfold fdOf
    rw [lk]
  rw [q]
  exact F
abbrev OkF (P : Program) (w : World) (K : PySem.W.Frag) (mg : Str → Option Value) (base : Heap) (CX : CXT) (k : Nat) (p : Str × Option Str) (ps : List Str) (sp : Sp) : Prop := FnOk P w K mg base CX k (fAd K p) (fdOf K (fAd K p)) ps sp
section
variable {P : Program} {K : PySem.W.Frag} {mg : Str → Option Value}
theorem Tx.g_is_letter (T : Tx P K mg) : mg "is_letter" = some (.ref (ga K "is_letter")) := T.g _ (List.mem_of_getElem? (i := 0) rfl)
theorem Tx.g_is_digit (T : Tx P K mg) : mg "is_digit" = some (.ref (ga K "is_digit")) := T.g _ (List.mem_of_getElem? (i := 1) rfl)
theorem Tx.g_in_word (T : Tx P K mg) : mg "in_word" = some (.ref (ga K "in_word")) := T.g _ (List.mem_of_getElem? (i := 2) rfl)
theorem Tx.g_word_end (T : Tx P K mg) : mg "word_end" = some (.ref (ga K "word_end")) := T.g _ (List.mem_of_getElem? (i := 3) rfl)
theorem Tx.g_read_word (T : Tx P K mg) : mg "read_word" = some (.ref (ga K "read_word")) := T.g _ (List.mem_of_getElem? (i := 4) rfl)
theorem Tx.g_read_number (T : Tx P K mg) : mg "read_number" = some (.ref (ga K "read_number")) := T.g _ (List.mem_of_getElem? (i := 5) rfl)
theorem Tx.g_read_sign (T : Tx P K mg) : mg "read_sign" = some (.ref (ga K "read_sign")) := T.g _ (List.mem_of_getElem? (i := 6) rfl)
theorem Tx.g_tokens (T : Tx P K mg) : mg "tokens" = some (.ref (ga K "tokens")) := T.g _ (List.mem_of_getElem? (i := 7) rfl)
theorem Tx.g_read_value (T : Tx P K mg) : mg "read_value" = some (.ref (ga K "read_value")) := T.g _ (List.mem_of_getElem? (i := 8) rfl)
theorem Tx.g_read_field (T : Tx P K mg) : mg "read_field" = some (.ref (ga K "read_field")) := T.g _ (List.mem_of_getElem? (i := 9) rfl)
theorem Tx.g_read_values (T : Tx P K mg) : mg "read_values" = some (.ref (ga K "read_values")) := T.g _ (List.mem_of_getElem? (i := 10) rfl)
theorem Tx.g_read_right (T : Tx P K mg) : mg "read_right" = some (.ref (ga K "read_right")) := T.g _ (List.mem_of_getElem? (i := 11) rfl)
theorem Tx.g_read_assignment (T : Tx P K mg) : mg "read_assignment" = some (.ref (ga K "read_assignment")) := T.g _ (List.mem_of_getElem? (i := 12) rfl)
theorem Tx.g_read_test (T : Tx P K mg) : mg "read_test" = some (.ref (ga K "read_test")) := T.g _ (List.mem_of_getElem? (i := 13) rfl)
theorem Tx.g_read_statement (T : Tx P K mg) : mg "read_statement" = some (.ref (ga K "read_statement")) := T.g _ (List.mem_of_getElem? (i := 14) rfl)
theorem Tx.g_read_block (T : Tx P K mg) : mg "read_block" = some (.ref (ga K "read_block")) := T.g _ (List.mem_of_getElem? (i := 15) rfl)
theorem Tx.g_read_function (T : Tx P K mg) : mg "read_function" = some (.ref (ga K "read_function")) := T.g _ (List.mem_of_getElem? (i := 16) rfl)
theorem Tx.g_expect_word (T : Tx P K mg) : mg "expect_word" = some (.ref (ga K "expect_word")) := T.g _ (List.mem_of_getElem? (i := 17) rfl)
theorem Tx.g_parse (T : Tx P K mg) : mg "parse" = some (.ref (ga K "parse")) := T.g _ (List.mem_of_getElem? (i := 18) rfl)
theorem Tx.g_parse_function (T : Tx P K mg) : mg "parse_function" = some (.ref (ga K "parse_function")) := T.g _ (List.mem_of_getElem? (i := 19) rfl)
theorem Tx.g_statements (T : Tx P K mg) : mg "statements" = some (.ref (ga K "statements")) := T.g _ (List.mem_of_getElem? (i := 20) rfl)
theorem Tx.g_locals_of (T : Tx P K mg) : mg "locals_of" = some (.ref (ga K "locals_of")) := T.g _ (List.mem_of_getElem? (i := 21) rfl)
theorem Tx.g_value_names (T : Tx P K mg) : mg "value_names" = some (.ref (ga K "value_names")) := T.g _ (List.mem_of_getElem? (i := 22) rfl)
theorem Tx.g_test_names (T : Tx P K mg) : mg "test_names" = some (.ref (ga K "test_names")) := T.g _ (List.mem_of_getElem? (i := 23) rfl)
theorem Tx.g_used_names (T : Tx P K mg) : mg "used_names" = some (.ref (ga K "used_names")) := T.g _ (List.mem_of_getElem? (i := 24) rfl)
theorem Tx.g_check_call (T : Tx P K mg) : mg "check_call" = some (.ref (ga K "check_call")) := T.g _ (List.mem_of_getElem? (i := 25) rfl)
theorem Tx.g_check_function (T : Tx P K mg) : mg "check_function" = some (.ref (ga K "check_function")) := T.g _ (List.mem_of_getElem? (i := 26) rfl)
theorem Tx.g_program_of (T : Tx P K mg) : mg "program_of" = some (.ref (ga K "program_of")) := T.g _ (List.mem_of_getElem? (i := 27) rfl)
theorem Tx.g__law_wide (T : Tx P K mg) : mg "_law_wide" = some (.ref (ga K "_law_wide")) := T.g _ (List.mem_of_getElem? (i := 28) rfl)
theorem Tx.g__law_take (T : Tx P K mg) : mg "_law_take" = some (.ref (ga K "_law_take")) := T.g _ (List.mem_of_getElem? (i := 29) rfl)
theorem Tx.g__law_odd (T : Tx P K mg) : mg "_law_odd" = some (.ref (ga K "_law_odd")) := T.g _ (List.mem_of_getElem? (i := 30) rfl)
theorem Tx.g__law_piece (T : Tx P K mg) : mg "_law_piece" = some (.ref (ga K "_law_piece")) := T.g _ (List.mem_of_getElem? (i := 31) rfl)
theorem Tx.g__law_in_word (T : Tx P K mg) : mg "_law_in_word" = some (.ref (ga K "_law_in_word")) := T.g _ (List.mem_of_getElem? (i := 32) rfl)
theorem Tx.g__law_run (T : Tx P K mg) : mg "_law_run" = some (.ref (ga K "_law_run")) := T.g _ (List.mem_of_getElem? (i := 33) rfl)
theorem Tx.g__law_token (T : Tx P K mg) : mg "_law_token" = some (.ref (ga K "_law_token")) := T.g _ (List.mem_of_getElem? (i := 34) rfl)
theorem Tx.g__law_due (T : Tx P K mg) : mg "_law_due" = some (.ref (ga K "_law_due")) := T.g _ (List.mem_of_getElem? (i := 35) rfl)
theorem Tx.g__law_told (T : Tx P K mg) : mg "_law_told" = some (.ref (ga K "_law_told")) := T.g _ (List.mem_of_getElem? (i := 36) rfl)
theorem Tx.g__law_text_right (T : Tx P K mg) : mg "_law_text_right" = some (.ref (ga K "_law_text_right")) := T.g _ (List.mem_of_getElem? (i := 37) rfl)
theorem Tx.g__law_nested (T : Tx P K mg) : mg "_law_nested" = some (.ref (ga K "_law_nested")) := T.g _ (List.mem_of_getElem? (i := 38) rfl)
theorem Tx.g__law_levels_right (T : Tx P K mg) : mg "_law_levels_right" = some (.ref (ga K "_law_levels_right")) := T.g _ (List.mem_of_getElem? (i := 39) rfl)
theorem Tx.g__law_sums_right (T : Tx P K mg) : mg "_law_sums_right" = some (.ref (ga K "_law_sums_right")) := T.g _ (List.mem_of_getElem? (i := 40) rfl)
theorem Tx.g_law (T : Tx P K mg) : mg "law" = some (.ref (ga K "law")) := T.g _ (List.mem_of_getElem? (i := 41) rfl)
theorem Tx.g_Refused (T : Tx P K mg) : mg "Refused" = some (.ref (ga K "Refused")) := T.g _ (List.mem_of_getElem? (i := 42) rfl)
theorem Tx.g_Malformed (T : Tx P K mg) : mg "Malformed" = some (.ref (ga K "Malformed")) := T.g _ (List.mem_of_getElem? (i := 43) rfl)
theorem Tx.g_Unknown (T : Tx P K mg) : mg "Unknown" = some (.ref (ga K "Unknown")) := T.g _ (List.mem_of_getElem? (i := 44) rfl)
theorem Tx.g_Clashing (T : Tx P K mg) : mg "Clashing" = some (.ref (ga K "Clashing")) := T.g _ (List.mem_of_getElem? (i := 45) rfl)
theorem Tx.g_Oversized (T : Tx P K mg) : mg "Oversized" = some (.ref (ga K "Oversized")) := T.g _ (List.mem_of_getElem? (i := 46) rfl)
theorem Tx.g_Misused (T : Tx P K mg) : mg "Misused" = some (.ref (ga K "Misused")) := T.g _ (List.mem_of_getElem? (i := 47) rfl)
theorem Tx.g_Reader (T : Tx P K mg) : mg "Reader" = some (.ref (ga K "Reader")) := T.g _ (List.mem_of_getElem? (i := 48) rfl)
theorem Tx.g_Program (T : Tx P K mg) : mg "Program" = some (.ref (ga K "Program")) := T.g _ (List.mem_of_getElem? (i := 49) rfl)
theorem Tx.g_RESERVED (T : Tx P K mg) : mg "RESERVED" = some (.ref (ga K "RESERVED")) := T.g _ (List.mem_of_getElem? (i := 50) rfl)
theorem Tx.g_SIGNS (T : Tx P K mg) : mg "SIGNS" = some (.ref (ga K "SIGNS")) := T.g _ (List.mem_of_getElem? (i := 51) rfl)
theorem Tx.g_FIELDS (T : Tx P K mg) : mg "FIELDS" = some (.ref (ga K "FIELDS")) := T.g _ (List.mem_of_getElem? (i := 52) rfl)
theorem Tx.g_ASSIGNING (T : Tx P K mg) : mg "ASSIGNING" = some (.ref (ga K "ASSIGNING")) := T.g _ (List.mem_of_getElem? (i := 53) rfl)
theorem Tx.n_len (T : Tx P K mg) : mg "len" = none := T.n _ (List.mem_of_getElem? (i := 54) rfl)
theorem Tx.n_range (T : Tx P K mg) : mg "range" = none := T.n _ (List.mem_of_getElem? (i := 55) rfl)
theorem Tx.n_list (T : Tx P K mg) : mg "list" = none := T.n _ (List.mem_of_getElem? (i := 56) rfl)
theorem Tx.n_tuple (T : Tx P K mg) : mg "tuple" = none := T.n _ (List.mem_of_getElem? (i := 57) rfl)
theorem Tx.n_int (T : Tx P K mg) : mg "int" = none := T.n _ (List.mem_of_getElem? (i := 58) rfl)
theorem Tx.n_all (T : Tx P K mg) : mg "all" = none := T.n _ (List.mem_of_getElem? (i := 59) rfl)
theorem Tx.n_abs (T : Tx P K mg) : mg "abs" = none := T.n _ (List.mem_of_getElem? (i := 60) rfl)
theorem Tx.n_str (T : Tx P K mg) : mg "str" = none := T.n _ (List.mem_of_getElem? (i := 61) rfl)
theorem Tx.i_MAX_TEXT (T : Tx P K mg) : ∃ t, mg "MAX_TEXT" = some (.int 6000 t) := T.i _ _ (List.mem_of_getElem? (i := 62) rfl)
theorem Tx.i_MAX_NAME (T : Tx P K mg) : ∃ t, mg "MAX_NAME" = some (.int 10 t) := T.i _ _ (List.mem_of_getElem? (i := 63) rfl)
theorem Tx.i_MAX_NUMBER (T : Tx P K mg) : ∃ t, mg "MAX_NUMBER" = some (.int 65535 t) := T.i _ _ (List.mem_of_getElem? (i := 64) rfl)
theorem Tx.i_MAX_LEVELS (T : Tx P K mg) : ∃ t, mg "MAX_LEVELS" = some (.int 12 t) := T.i _ _ (List.mem_of_getElem? (i := 65) rfl)
abbrev a_is_letter : Str × Option Str := ("is_letter", none)
theorem Tx.f_is_letter (T : Tx P K mg) : FunD K "is_letter" "is_letter" (defArgs s_is_letter) (defBody s_is_letter) (defScope s_is_letter) [] [] (fAd K a_is_letter) (fdOf K (fAd K a_is_letter)) := by
  obtain ⟨fd, F⟩ := T.c.fn_ (d := d_is_letter) (List.mem_of_getElem? (i := 0) rfl)
  exact fd_eq F
theorem Tx.k_is_letter (T : Tx P K mg) : PySem.W.keepIn K (.ref (fAd K a_is_letter)) = true := T.f_is_letter.kp
theorem Tx.b_is_letter (T : Tx P K mg) : Binds K (fdOf K (fAd K a_is_letter)) ["char"] [] := T.f_is_letter.bindsN fun _ _ _ _ _ _ us hl => match us, hl with | [_], _ => rfl
theorem sc_is_letter : FnScope (["char"] : List Str) ["char"] (defScope s_is_letter) := ⟨rfl, rfl, rfl, by decide +kernel, rfl, by decide +kernel, by decide +kernel⟩
abbrev a_is_digit : Str × Option Str := ("is_digit", none)
theorem Tx.f_is_digit (T : Tx P K mg) : FunD K "is_digit" "is_digit" (defArgs s_is_digit) (defBody s_is_digit) (defScope s_is_digit) [] [] (fAd K a_is_digit) (fdOf K (fAd K a_is_digit)) := by
  obtain ⟨fd, F⟩ := T.c.fn_ (d := d_is_digit) (List.mem_of_getElem? (i := 1) rfl)
  exact fd_eq F
theorem Tx.k_is_digit (T : Tx P K mg) : PySem.W.keepIn K (.ref (fAd K a_is_digit)) = true := T.f_is_digit.kp
theorem Tx.b_is_digit (T : Tx P K mg) : Binds K (fdOf K (fAd K a_is_digit)) ["char"] [] := T.f_is_digit.bindsN fun _ _ _ _ _ _ us hl => match us, hl with | [_], _ => rfl
theorem sc_is_digit : FnScope (["char"] : List Str) ["char"] (defScope s_is_digit) := ⟨rfl, rfl, rfl, by decide +kernel, rfl, by decide +kernel, by decide +kernel⟩
abbrev a_in_word : Str × Option Str := ("in_word", none)
theorem Tx.f_in_word (T : Tx P K mg) : FunD K "in_word" "in_word" (defArgs s_in_word) (defBody s_in_word) (defScope s_in_word) [] [] (fAd K a_in_word) (fdOf K (fAd K a_in_word)) := by
  obtain ⟨fd, F⟩ := T.c.fn_ (d := d_in_word) (List.mem_of_getElem? (i := 2) rfl)
  exact fd_eq F
theorem Tx.k_in_word (T : Tx P K mg) : PySem.W.keepIn K (.ref (fAd K a_in_word)) = true := T.f_in_word.kp
theorem Tx.b_in_word (T : Tx P K mg) : Binds K (fdOf K (fAd K a_in_word)) ["char"] [] := T.f_in_word.bindsN fun _ _ _ _ _ _ us hl => match us, hl with | [_], _ => rfl
theorem sc_in_word : FnScope (["char"] : List Str) ["char"] (defScope s_in_word) := ⟨rfl, rfl, rfl, by decide +kernel, rfl, by decide +kernel, by decide +kernel⟩
abbrev a_word_end : Str × Option Str := ("word_end", none)
theorem Tx.f_word_end (T : Tx P K mg) : FunD K "word_end" "word_end" (defArgs s_word_end) (defBody s_word_end) (defScope s_word_end) [] [] (fAd K a_word_end) (fdOf K (fAd K a_word_end)) := by
  obtain ⟨fd, F⟩ := T.c.fn_ (d := d_word_end) (List.mem_of_getElem? (i := 3) rfl)
  exact fd_eq F
theorem Tx.k_word_end (T : Tx P K mg) : PySem.W.keepIn K (.ref (fAd K a_word_end)) = true := T.f_word_end.kp
theorem Tx.b_word_end (T : Tx P K mg) : Binds K (fdOf K (fAd K a_word_end)) ["text", "at"] [] := T.f_word_end.bindsN fun _ _ _ _ _ _ us hl => match us, hl with | [_, _], _ => rfl
theorem sc_word_end : FnScope (["text", "at"] : List Str) ["text", "at"] (defScope s_word_end) := ⟨rfl, rfl, rfl, by decide +kernel, rfl, by decide +kernel, by decide +kernel⟩
abbrev a_read_word : Str × Option Str := ("read_word", none)
theorem Tx.f_read_word (T : Tx P K mg) : FunD K "read_word" "read_word" (defArgs s_read_word) (defBody s_read_word) (defScope s_read_word) [] [] (fAd K a_read_word) (fdOf K (fAd K a_read_word)) := by
  obtain ⟨fd, F⟩ := T.c.fn_ (d := d_read_word) (List.mem_of_getElem? (i := 4) rfl)
  exact fd_eq F
theorem Tx.k_read_word (T : Tx P K mg) : PySem.W.keepIn K (.ref (fAd K a_read_word)) = true := T.f_read_word.kp
theorem Tx.b_read_word (T : Tx P K mg) : Binds K (fdOf K (fAd K a_read_word)) ["text", "at"] [] := T.f_read_word.bindsN fun _ _ _ _ _ _ us hl => match us, hl with | [_, _], _ => rfl
theorem sc_read_word : FnScope (["text", "at", "word"] : List Str) ["text", "at"] (defScope s_read_word) := ⟨rfl, rfl, rfl, by decide +kernel, rfl, by decide +kernel, by decide +kernel⟩
abbrev a_read_number : Str × Option Str := ("read_number", none)
theorem Tx.f_read_number (T : Tx P K mg) : FunD K "read_number" "read_number" (defArgs s_read_number) (defBody s_read_number) (defScope s_read_number) [] [] (fAd K a_read_number) (fdOf K (fAd K a_read_number)) := by
  obtain ⟨fd, F⟩ := T.c.fn_ (d := d_read_number) (List.mem_of_getElem? (i := 5) rfl)
  exact fd_eq F
theorem Tx.k_read_number (T : Tx P K mg) : PySem.W.keepIn K (.ref (fAd K a_read_number)) = true := T.f_read_number.kp
theorem Tx.b_read_number (T : Tx P K mg) : Binds K (fdOf K (fAd K a_read_number)) ["text", "at"] [] := T.f_read_number.bindsN fun _ _ _ _ _ _ us hl => match us, hl with | [_, _], _ => rfl
theorem sc_read_number : FnScope (["text", "at", "word", "number", "char"] : List Str) ["text", "at"] (defScope s_read_number) := ⟨rfl, rfl, rfl, by decide +kernel, rfl, by decide +kernel, by decide +kernel⟩
abbrev a_read_sign : Str × Option Str := ("read_sign", none)
theorem Tx.f_read_sign (T : Tx P K mg) : FunD K "read_sign" "read_sign" (defArgs s_read_sign) (defBody s_read_sign) (defScope s_read_sign) [] [] (fAd K a_read_sign) (fdOf K (fAd K a_read_sign)) := by
  obtain ⟨fd, F⟩ := T.c.fn_ (d := d_read_sign) (List.mem_of_getElem? (i := 6) rfl)
  exact fd_eq F
theorem Tx.k_read_sign (T : Tx P K mg) : PySem.W.keepIn K (.ref (fAd K a_read_sign)) = true := T.f_read_sign.kp
theorem Tx.b_read_sign (T : Tx P K mg) : Binds K (fdOf K (fAd K a_read_sign)) ["text", "at"] [] := T.f_read_sign.bindsN fun _ _ _ _ _ _ us hl => match us, hl with | [_, _], _ => rfl
theorem sc_read_sign : FnScope (["text", "at", "sign"] : List Str) ["text", "at"] (defScope s_read_sign) := ⟨rfl, rfl, rfl, by decide +kernel, rfl, by decide +kernel, by decide +kernel⟩
abbrev a_tokens : Str × Option Str := ("tokens", none)
theorem Tx.f_tokens (T : Tx P K mg) : FunD K "tokens" "tokens" (defArgs s_tokens) (defBody s_tokens) (defScope s_tokens) [] [] (fAd K a_tokens) (fdOf K (fAd K a_tokens)) := by
  obtain ⟨fd, F⟩ := T.c.fn_ (d := d_tokens) (List.mem_of_getElem? (i := 7) rfl)
  exact fd_eq F
theorem Tx.k_tokens (T : Tx P K mg) : PySem.W.keepIn K (.ref (fAd K a_tokens)) = true := T.f_tokens.kp
theorem Tx.b_tokens (T : Tx P K mg) : Binds K (fdOf K (fAd K a_tokens)) ["text"] [] := T.f_tokens.bindsN fun _ _ _ _ _ _ us hl => match us, hl with | [_], _ => rfl
theorem sc_tokens : FnScope (["text", "found", "at"] : List Str) ["text"] (defScope s_tokens) := ⟨rfl, rfl, rfl, by decide +kernel, rfl, by decide +kernel, by decide +kernel⟩
abbrev a_Reader___init__ : Str × Option Str := ("Reader", some "__init__")
theorem Tx.f_Reader___init__ (T : Tx P K mg) : FunD K "__init__" "Reader.__init__" (defArgs s_Reader___init__) (defBody s_Reader___init__) (defScope s_Reader___init__) [] [] (fAd K a_Reader___init__) (fdOf K (fAd K a_Reader___init__)) := by
  obtain ⟨fd, F⟩ := T.c.fn_ (d := d_Reader___init__) (List.mem_of_getElem? (i := 8) rfl)
  exact fd_eq F
theorem Tx.k_Reader___init__ (T : Tx P K mg) : PySem.W.keepIn K (.ref (fAd K a_Reader___init__)) = true := T.f_Reader___init__.kp
theorem Tx.b_Reader___init__ (T : Tx P K mg) : Binds K (fdOf K (fAd K a_Reader___init__)) ["self", "text"] [] := T.f_Reader___init__.bindsN fun _ _ _ _ _ _ us hl => match us, hl with | [_, _], _ => rfl
theorem sc_Reader___init__ : FnScope (["self", "text"] : List Str) ["self", "text"] (defScope s_Reader___init__) := ⟨rfl, rfl, rfl, by decide +kernel, rfl, by decide +kernel, by decide +kernel⟩
abbrev a_Reader_place : Str × Option Str := ("Reader", some "place")
theorem Tx.f_Reader_place (T : Tx P K mg) : FunD K "place" "Reader.place" (defArgs s_Reader_place) (defBody s_Reader_place) (defScope s_Reader_place) [] [] (fAd K a_Reader_place) (fdOf K (fAd K a_Reader_place)) := by
  obtain ⟨fd, F⟩ := T.c.fn_ (d := d_Reader_place) (List.mem_of_getElem? (i := 9) rfl)
  exact fd_eq F
theorem Tx.k_Reader_place (T : Tx P K mg) : PySem.W.keepIn K (.ref (fAd K a_Reader_place)) = true := T.f_Reader_place.kp
theorem Tx.b_Reader_place (T : Tx P K mg) : Binds K (fdOf K (fAd K a_Reader_place)) ["self"] [] := T.f_Reader_place.bindsN fun _ _ _ _ _ _ us hl => match us, hl with | [_], _ => rfl
theorem sc_Reader_place : FnScope (["self"] : List Str) ["self"] (defScope s_Reader_place) := ⟨rfl, rfl, rfl, by decide +kernel, rfl, by decide +kernel, by decide +kernel⟩
abbrev a_Reader_peek : Str × Option Str := ("Reader", some "peek")
theorem Tx.f_Reader_peek (T : Tx P K mg) : FunD K "peek" "Reader.peek" (defArgs s_Reader_peek) (defBody s_Reader_peek) (defScope s_Reader_peek) [] [] (fAd K a_Reader_peek) (fdOf K (fAd K a_Reader_peek)) := by
  obtain ⟨fd, F⟩ := T.c.fn_ (d := d_Reader_peek) (List.mem_of_getElem? (i := 10) rfl)
  exact fd_eq F
theorem Tx.k_Reader_peek (T : Tx P K mg) : PySem.W.keepIn K (.ref (fAd K a_Reader_peek)) = true := T.f_Reader_peek.kp
theorem Tx.b_Reader_peek (T : Tx P K mg) : Binds K (fdOf K (fAd K a_Reader_peek)) ["self"] [] := T.f_Reader_peek.bindsN fun _ _ _ _ _ _ us hl => match us, hl with | [_], _ => rfl
theorem sc_Reader_peek : FnScope (["self"] : List Str) ["self"] (defScope s_Reader_peek) := ⟨rfl, rfl, rfl, by decide +kernel, rfl, by decide +kernel, by decide +kernel⟩
abbrev a_Reader_accept : Str × Option Str := ("Reader", some "accept")
theorem Tx.f_Reader_accept (T : Tx P K mg) : FunD K "accept" "Reader.accept" (defArgs s_Reader_accept) (defBody s_Reader_accept) (defScope s_Reader_accept) [] [] (fAd K a_Reader_accept) (fdOf K (fAd K a_Reader_accept)) := by
  obtain ⟨fd, F⟩ := T.c.fn_ (d := d_Reader_accept) (List.mem_of_getElem? (i := 11) rfl)
  exact fd_eq F
theorem Tx.k_Reader_accept (T : Tx P K mg) : PySem.W.keepIn K (.ref (fAd K a_Reader_accept)) = true := T.f_Reader_accept.kp
theorem Tx.b_Reader_accept (T : Tx P K mg) : Binds K (fdOf K (fAd K a_Reader_accept)) ["self", "kind", "value"] [] := T.f_Reader_accept.bindsN fun _ _ _ _ _ _ us hl => match us, hl with | [_, _, _], _ => rfl
theorem sc_Reader_accept : FnScope (["self", "kind", "value"] : List Str) ["self", "kind", "value"] (defScope s_Reader_accept) := ⟨rfl, rfl, rfl, by decide +kernel, rfl, by decide +kernel, by decide +kernel⟩
abbrev a_Reader_expect : Str × Option Str := ("Reader", some "expect")
theorem Tx.f_Reader_expect (T : Tx P K mg) : FunD K "expect" "Reader.expect" (defArgs s_Reader_expect) (defBody s_Reader_expect) (defScope s_Reader_expect) [] [] (fAd K a_Reader_expect) (fdOf K (fAd K a_Reader_expect)) := by
  obtain ⟨fd, F⟩ := T.c.fn_ (d := d_Reader_expect) (List.mem_of_getElem? (i := 12) rfl)
  exact fd_eq F
theorem Tx.k_Reader_expect (T : Tx P K mg) : PySem.W.keepIn K (.ref (fAd K a_Reader_expect)) = true := T.f_Reader_expect.kp
theorem Tx.b_Reader_expect (T : Tx P K mg) : Binds K (fdOf K (fAd K a_Reader_expect)) ["self", "sign"] [] := T.f_Reader_expect.bindsN fun _ _ _ _ _ _ us hl => match us, hl with | [_, _], _ => rfl
theorem sc_Reader_expect : FnScope (["self", "sign"] : List Str) ["self", "sign"] (defScope s_Reader_expect) := ⟨rfl, rfl, rfl, by decide +kernel, rfl, by decide +kernel, by decide +kernel⟩
abbrev a_Reader_read : Str × Option Str := ("Reader", some "read")
theorem Tx.f_Reader_read (T : Tx P K mg) : FunD K "read" "Reader.read" (defArgs s_Reader_read) (defBody s_Reader_read) (defScope s_Reader_read) [] [] (fAd K a_Reader_read) (fdOf K (fAd K a_Reader_read)) := by
  obtain ⟨fd, F⟩ := T.c.fn_ (d := d_Reader_read) (List.mem_of_getElem? (i := 13) rfl)
  exact fd_eq F
theorem Tx.k_Reader_read (T : Tx P K mg) : PySem.W.keepIn K (.ref (fAd K a_Reader_read)) = true := T.f_Reader_read.kp
theorem Tx.b_Reader_read (T : Tx P K mg) : Binds K (fdOf K (fAd K a_Reader_read)) ["self", "kind"] [] := T.f_Reader_read.bindsN fun _ _ _ _ _ _ us hl => match us, hl with | [_, _], _ => rfl
theorem sc_Reader_read : FnScope (["self", "kind", "found"] : List Str) ["self", "kind"] (defScope s_Reader_read) := ⟨rfl, rfl, rfl, by decide +kernel, rfl, by decide +kernel, by decide +kernel⟩
abbrev a_Reader_at_end : Str × Option Str := ("Reader", some "at_end")
theorem Tx.f_Reader_at_end (T : Tx P K mg) : FunD K "at_end" "Reader.at_end" (defArgs s_Reader_at_end) (defBody s_Reader_at_end) (defScope s_Reader_at_end) [] [] (fAd K a_Reader_at_end) (fdOf K (fAd K a_Reader_at_end)) := by
  obtain ⟨fd, F⟩ := T.c.fn_ (d := d_Reader_at_end) (List.mem_of_getElem? (i := 14) rfl)
  exact fd_eq F
theorem Tx.k_Reader_at_end (T : Tx P K mg) : PySem.W.keepIn K (.ref (fAd K a_Reader_at_end)) = true := T.f_Reader_at_end.kp
theorem Tx.b_Reader_at_end (T : Tx P K mg) : Binds K (fdOf K (fAd K a_Reader_at_end)) ["self"] [] := T.f_Reader_at_end.bindsN fun _ _ _ _ _ _ us hl => match us, hl with | [_], _ => rfl
theorem sc_Reader_at_end : FnScope (["self"] : List Str) ["self"] (defScope s_Reader_at_end) := ⟨rfl, rfl, rfl, by decide +kernel, rfl, by decide +kernel, by decide +kernel⟩
abbrev a_Reader_start_function : Str × Option Str := ("Reader", some "start_function")
theorem Tx.f_Reader_start_function (T : Tx P K mg) : FunD K "start_function" "Reader.start_function" (defArgs s_Reader_start_function) (defBody s_Reader_start_function) (defScope s_Reader_start_function) [] [] (fAd K a_Reader_start_function) (fdOf K (fAd K a_Reader_start_function)) := by
  obtain ⟨fd, F⟩ := T.c.fn_ (d := d_Reader_start_function) (List.mem_of_getElem? (i := 15) rfl)
  exact fd_eq F
theorem Tx.k_Reader_start_function (T : Tx P K mg) : PySem.W.keepIn K (.ref (fAd K a_Reader_start_function)) = true := T.f_Reader_start_function.kp
theorem Tx.b_Reader_start_function (T : Tx P K mg) : Binds K (fdOf K (fAd K a_Reader_start_function)) ["self"] [] := T.f_Reader_start_function.bindsN fun _ _ _ _ _ _ us hl => match us, hl with | [_], _ => rfl
theorem sc_Reader_start_function : FnScope (["self"] : List Str) ["self"] (defScope s_Reader_start_function) := ⟨rfl, rfl, rfl, by decide +kernel, rfl, by decide +kernel, by decide +kernel⟩
abbrev a_Reader_take_number : Str × Option Str := ("Reader", some "take_number")
theorem Tx.f_Reader_take_number (T : Tx P K mg) : FunD K "take_number" "Reader.take_number" (defArgs s_Reader_take_number) (defBody s_Reader_take_number) (defScope s_Reader_take_number) [] [] (fAd K a_Reader_take_number) (fdOf K (fAd K a_Reader_take_number)) := by
  obtain ⟨fd, F⟩ := T.c.fn_ (d := d_Reader_take_number) (List.mem_of_getElem? (i := 16) rfl)
  exact fd_eq F
theorem Tx.k_Reader_take_number (T : Tx P K mg) : PySem.W.keepIn K (.ref (fAd K a_Reader_take_number)) = true := T.f_Reader_take_number.kp
theorem Tx.b_Reader_take_number (T : Tx P K mg) : Binds K (fdOf K (fAd K a_Reader_take_number)) ["self"] [] := T.f_Reader_take_number.bindsN fun _ _ _ _ _ _ us hl => match us, hl with | [_], _ => rfl
theorem sc_Reader_take_number : FnScope (["self"] : List Str) ["self"] (defScope s_Reader_take_number) := ⟨rfl, rfl, rfl, by decide +kernel, rfl, by decide +kernel, by decide +kernel⟩
abbrev a_read_value : Str × Option Str := ("read_value", none)
theorem Tx.f_read_value (T : Tx P K mg) : FunD K "read_value" "read_value" (defArgs s_read_value) (defBody s_read_value) (defScope s_read_value) [] [] (fAd K a_read_value) (fdOf K (fAd K a_read_value)) := by
  obtain ⟨fd, F⟩ := T.c.fn_ (d := d_read_value) (List.mem_of_getElem? (i := 17) rfl)
  exact fd_eq F
theorem Tx.k_read_value (T : Tx P K mg) : PySem.W.keepIn K (.ref (fAd K a_read_value)) = true := T.f_read_value.kp
theorem Tx.b_read_value (T : Tx P K mg) : Binds K (fdOf K (fAd K a_read_value)) ["reader"] [] := T.f_read_value.bindsN fun _ _ _ _ _ _ us hl => match us, hl with | [_], _ => rfl
theorem sc_read_value : FnScope (["reader"] : List Str) ["reader"] (defScope s_read_value) := ⟨rfl, rfl, rfl, by decide +kernel, rfl, by decide +kernel, by decide +kernel⟩
abbrev a_read_field : Str × Option Str := ("read_field", none)
theorem Tx.f_read_field (T : Tx P K mg) : FunD K "read_field" "read_field" (defArgs s_read_field) (defBody s_read_field) (defScope s_read_field) [] [] (fAd K a_read_field) (fdOf K (fAd K a_read_field)) := by
  obtain ⟨fd, F⟩ := T.c.fn_ (d := d_read_field) (List.mem_of_getElem? (i := 18) rfl)
  exact fd_eq F
theorem Tx.k_read_field (T : Tx P K mg) : PySem.W.keepIn K (.ref (fAd K a_read_field)) = true := T.f_read_field.kp
theorem Tx.b_read_field (T : Tx P K mg) : Binds K (fdOf K (fAd K a_read_field)) ["reader"] [] := T.f_read_field.bindsN fun _ _ _ _ _ _ us hl => match us, hl with | [_], _ => rfl
theorem sc_read_field : FnScope (["reader", "at", "field"] : List Str) ["reader"] (defScope s_read_field) := ⟨rfl, rfl, rfl, by decide +kernel, rfl, by decide +kernel, by decide +kernel⟩
abbrev a_read_values : Str × Option Str := ("read_values", none)
theorem Tx.f_read_values (T : Tx P K mg) : FunD K "read_values" "read_values" (defArgs s_read_values) (defBody s_read_values) (defScope s_read_values) [] [] (fAd K a_read_values) (fdOf K (fAd K a_read_values)) := by
  obtain ⟨fd, F⟩ := T.c.fn_ (d := d_read_values) (List.mem_of_getElem? (i := 19) rfl)
  exact fd_eq F
theorem Tx.k_read_values (T : Tx P K mg) : PySem.W.keepIn K (.ref (fAd K a_read_values)) = true := T.f_read_values.kp
theorem Tx.b_read_values (T : Tx P K mg) : Binds K (fdOf K (fAd K a_read_values)) ["reader"] [] := T.f_read_values.bindsN fun _ _ _ _ _ _ us hl => match us, hl with | [_], _ => rfl
theorem sc_read_values : FnScope (["reader", "found"] : List Str) ["reader"] (defScope s_read_values) := ⟨rfl, rfl, rfl, by decide +kernel, rfl, by decide +kernel, by decide +kernel⟩
abbrev a_read_right : Str × Option Str := ("read_right", none)
theorem Tx.f_read_right (T : Tx P K mg) : FunD K "read_right" "read_right" (defArgs s_read_right) (defBody s_read_right) (defScope s_read_right) [] [] (fAd K a_read_right) (fdOf K (fAd K a_read_right)) := by
  obtain ⟨fd, F⟩ := T.c.fn_ (d := d_read_right) (List.mem_of_getElem? (i := 20) rfl)
  exact fd_eq F
theorem Tx.k_read_right (T : Tx P K mg) : PySem.W.keepIn K (.ref (fAd K a_read_right)) = true := T.f_read_right.kp
theorem Tx.b_read_right (T : Tx P K mg) : Binds K (fdOf K (fAd K a_read_right)) ["reader", "x", "number"] [] := T.f_read_right.bindsN fun _ _ _ _ _ _ us hl => match us, hl with | [_, _, _], _ => rfl
theorem sc_read_right : FnScope (["reader", "x", "number", "y"] : List Str) ["reader", "x", "number"] (defScope s_read_right) := ⟨rfl, rfl, rfl, by decide +kernel, rfl, by decide +kernel, by decide +kernel⟩
abbrev a_read_assignment : Str × Option Str := ("read_assignment", none)
theorem Tx.f_read_assignment (T : Tx P K mg) : FunD K "read_assignment" "read_assignment" (defArgs s_read_assignment) (defBody s_read_assignment) (defScope s_read_assignment) [] [] (fAd K a_read_assignment) (fdOf K (fAd K a_read_assignment)) := by
  obtain ⟨fd, F⟩ := T.c.fn_ (d := d_read_assignment) (List.mem_of_getElem? (i := 21) rfl)
  exact fd_eq F
theorem Tx.k_read_assignment (T : Tx P K mg) : PySem.W.keepIn K (.ref (fAd K a_read_assignment)) = true := T.f_read_assignment.kp
theorem Tx.b_read_assignment (T : Tx P K mg) : Binds K (fdOf K (fAd K a_read_assignment)) ["reader", "number"] [] := T.f_read_assignment.bindsN fun _ _ _ _ _ _ us hl => match us, hl with | [_, _], _ => rfl
theorem sc_read_assignment : FnScope (["reader", "number", "x", "field"] : List Str) ["reader", "number"] (defScope s_read_assignment) := ⟨rfl, rfl, rfl, by decide +kernel, rfl, by decide +kernel, by decide +kernel⟩
abbrev a_read_test : Str × Option Str := ("read_test", none)
theorem Tx.f_read_test (T : Tx P K mg) : FunD K "read_test" "read_test" (defArgs s_read_test) (defBody s_read_test) (defScope s_read_test) [] [] (fAd K a_read_test) (fdOf K (fAd K a_read_test)) := by
  obtain ⟨fd, F⟩ := T.c.fn_ (d := d_read_test) (List.mem_of_getElem? (i := 22) rfl)
  exact fd_eq F
theorem Tx.k_read_test (T : Tx P K mg) : PySem.W.keepIn K (.ref (fAd K a_read_test)) = true := T.f_read_test.kp
theorem Tx.b_read_test (T : Tx P K mg) : Binds K (fdOf K (fAd K a_read_test)) ["reader"] [] := T.f_read_test.bindsN fun _ _ _ _ _ _ us hl => match us, hl with | [_], _ => rfl
theorem sc_read_test : FnScope (["reader", "x"] : List Str) ["reader"] (defScope s_read_test) := ⟨rfl, rfl, rfl, by decide +kernel, rfl, by decide +kernel, by decide +kernel⟩
abbrev a_read_statement : Str × Option Str := ("read_statement", none)
theorem Tx.f_read_statement (T : Tx P K mg) : FunD K "read_statement" "read_statement" (defArgs s_read_statement) (defBody s_read_statement) (defScope s_read_statement) [] [] (fAd K a_read_statement) (fdOf K (fAd K a_read_statement)) := by
  obtain ⟨fd, F⟩ := T.c.fn_ (d := d_read_statement) (List.mem_of_getElem? (i := 23) rfl)
  exact fd_eq F
theorem Tx.k_read_statement (T : Tx P K mg) : PySem.W.keepIn K (.ref (fAd K a_read_statement)) = true := T.f_read_statement.kp
theorem Tx.b_read_statement (T : Tx P K mg) : Binds K (fdOf K (fAd K a_read_statement)) ["reader", "level"] [] := T.f_read_statement.bindsN fun _ _ _ _ _ _ us hl => match us, hl with | [_, _], _ => rfl
theorem sc_read_statement : FnScope (["reader", "level", "number", "test", "first", "second", "found"] : List Str) ["reader", "level"] (defScope s_read_statement) := ⟨rfl, rfl, rfl, by decide +kernel, rfl, by decide +kernel, by decide +kernel⟩
abbrev a_read_block : Str × Option Str := ("read_block", none)
theorem Tx.f_read_block (T : Tx P K mg) : FunD K "read_block" "read_block" (defArgs s_read_block) (defBody s_read_block) (defScope s_read_block) [] [] (fAd K a_read_block) (fdOf K (fAd K a_read_block)) := by
  obtain ⟨fd, F⟩ := T.c.fn_ (d := d_read_block) (List.mem_of_getElem? (i := 24) rfl)
  exact fd_eq F
theorem Tx.k_read_block (T : Tx P K mg) : PySem.W.keepIn K (.ref (fAd K a_read_block)) = true := T.f_read_block.kp
theorem Tx.b_read_block (T : Tx P K mg) : Binds K (fdOf K (fAd K a_read_block)) ["reader", "level"] [] := T.f_read_block.bindsN fun _ _ _ _ _ _ us hl => match us, hl with | [_, _], _ => rfl
theorem sc_read_block : FnScope (["reader", "level", "found"] : List Str) ["reader", "level"] (defScope s_read_block) := ⟨rfl, rfl, rfl, by decide +kernel, rfl, by decide +kernel, by decide +kernel⟩
abbrev a_read_function : Str × Option Str := ("read_function", none)
theorem Tx.f_read_function (T : Tx P K mg) : FunD K "read_function" "read_function" (defArgs s_read_function) (defBody s_read_function) (defScope s_read_function) [] [] (fAd K a_read_function) (fdOf K (fAd K a_read_function)) := by
  obtain ⟨fd, F⟩ := T.c.fn_ (d := d_read_function) (List.mem_of_getElem? (i := 25) rfl)
  exact fd_eq F
theorem Tx.k_read_function (T : Tx P K mg) : PySem.W.keepIn K (.ref (fAd K a_read_function)) = true := T.f_read_function.kp
theorem Tx.b_read_function (T : Tx P K mg) : Binds K (fdOf K (fAd K a_read_function)) ["reader"] [] := T.f_read_function.bindsN fun _ _ _ _ _ _ us hl => match us, hl with | [_], _ => rfl
theorem sc_read_function : FnScope (["reader", "name", "parameters"] : List Str) ["reader"] (defScope s_read_function) := ⟨rfl, rfl, rfl, by decide +kernel, rfl, by decide +kernel, by decide +kernel⟩
abbrev a_expect_word : Str × Option Str := ("expect_word", none)
theorem Tx.f_expect_word (T : Tx P K mg) : FunD K "expect_word" "expect_word" (defArgs s_expect_word) (defBody s_expect_word) (defScope s_expect_word) [] [] (fAd K a_expect_word) (fdOf K (fAd K a_expect_word)) := by
  obtain ⟨fd, F⟩ := T.c.fn_ (d := d_expect_word) (List.mem_of_getElem? (i := 26) rfl)
  exact fd_eq F
theorem Tx.k_expect_word (T : Tx P K mg) : PySem.W.keepIn K (.ref (fAd K a_expect_word)) = true := T.f_expect_word.kp
theorem Tx.b_expect_word (T : Tx P K mg) : Binds K (fdOf K (fAd K a_expect_word)) ["reader", "word"] [] := T.f_expect_word.bindsN fun _ _ _ _ _ _ us hl => match us, hl with | [_, _], _ => rfl
theorem sc_expect_word : FnScope (["reader", "word"] : List Str) ["reader", "word"] (defScope s_expect_word) := ⟨rfl, rfl, rfl, by decide +kernel, rfl, by decide +kernel, by decide +kernel⟩
abbrev a_parse : Str × Option Str := ("parse", none)
theorem Tx.f_parse (T : Tx P K mg) : FunD K "parse" "parse" (defArgs s_parse) (defBody s_parse) (defScope s_parse) [] [] (fAd K a_parse) (fdOf K (fAd K a_parse)) := by
  obtain ⟨fd, F⟩ := T.c.fn_ (d := d_parse) (List.mem_of_getElem? (i := 27) rfl)
  exact fd_eq F
theorem Tx.k_parse (T : Tx P K mg) : PySem.W.keepIn K (.ref (fAd K a_parse)) = true := T.f_parse.kp
theorem Tx.b_parse (T : Tx P K mg) : Binds K (fdOf K (fAd K a_parse)) ["text"] [] := T.f_parse.bindsN fun _ _ _ _ _ _ us hl => match us, hl with | [_], _ => rfl
theorem sc_parse : FnScope (["text", "reader", "items"] : List Str) ["text"] (defScope s_parse) := ⟨rfl, rfl, rfl, by decide +kernel, rfl, by decide +kernel, by decide +kernel⟩
abbrev a_parse_function : Str × Option Str := ("parse_function", none)
theorem Tx.f_parse_function (T : Tx P K mg) : FunD K "parse_function" "parse_function" (defArgs s_parse_function) (defBody s_parse_function) (defScope s_parse_function) [] [] (fAd K a_parse_function) (fdOf K (fAd K a_parse_function)) := by
  obtain ⟨fd, F⟩ := T.c.fn_ (d := d_parse_function) (List.mem_of_getElem? (i := 28) rfl)
  exact fd_eq F
theorem Tx.k_parse_function (T : Tx P K mg) : PySem.W.keepIn K (.ref (fAd K a_parse_function)) = true := T.f_parse_function.kp
theorem Tx.b_parse_function (T : Tx P K mg) : Binds K (fdOf K (fAd K a_parse_function)) ["text"] [] := T.f_parse_function.bindsN fun _ _ _ _ _ _ us hl => match us, hl with | [_], _ => rfl
theorem sc_parse_function : FnScope (["text", "reader", "function"] : List Str) ["text"] (defScope s_parse_function) := ⟨rfl, rfl, rfl, by decide +kernel, rfl, by decide +kernel, by decide +kernel⟩
abbrev a_statements : Str × Option Str := ("statements", none)
theorem Tx.f_statements (T : Tx P K mg) : FunD K "statements" "statements" (defArgs s_statements) (defBody s_statements) (defScope s_statements) [] [] (fAd K a_statements) (fdOf K (fAd K a_statements)) := by
  obtain ⟨fd, F⟩ := T.c.fn_ (d := d_statements) (List.mem_of_getElem? (i := 29) rfl)
  exact fd_eq F
theorem Tx.k_statements (T : Tx P K mg) : PySem.W.keepIn K (.ref (fAd K a_statements)) = true := T.f_statements.kp
theorem Tx.b_statements (T : Tx P K mg) : Binds K (fdOf K (fAd K a_statements)) ["block"] [] := T.f_statements.bindsN fun _ _ _ _ _ _ us hl => match us, hl with | [_], _ => rfl
theorem sc_statements : FnScope (["block", "found", "statement"] : List Str) ["block"] (defScope s_statements) := ⟨rfl, rfl, rfl, by decide +kernel, rfl, by decide +kernel, by decide +kernel⟩
abbrev a_locals_of : Str × Option Str := ("locals_of", none)
theorem Tx.f_locals_of (T : Tx P K mg) : FunD K "locals_of" "locals_of" (defArgs s_locals_of) (defBody s_locals_of) (defScope s_locals_of) [] [] (fAd K a_locals_of) (fdOf K (fAd K a_locals_of)) := by
  obtain ⟨fd, F⟩ := T.c.fn_ (d := d_locals_of) (List.mem_of_getElem? (i := 30) rfl)
  exact fd_eq F
theorem Tx.k_locals_of (T : Tx P K mg) : PySem.W.keepIn K (.ref (fAd K a_locals_of)) = true := T.f_locals_of.kp
theorem Tx.b_locals_of (T : Tx P K mg) : Binds K (fdOf K (fAd K a_locals_of)) ["program", "function"] [] := T.f_locals_of.bindsN fun _ _ _ _ _ _ us hl => match us, hl with | [_, _], _ => rfl
theorem sc_locals_of : FnScope (["program", "function", "found", "statement", "name"] : List Str) ["program", "function"] (defScope s_locals_of) := ⟨rfl, rfl, rfl, by decide +kernel, rfl, by decide +kernel, by decide +kernel⟩
abbrev a_value_names : Str × Option Str := ("value_names", none)
theorem Tx.f_value_names (T : Tx P K mg) : FunD K "value_names" "value_names" (defArgs s_value_names) (defBody s_value_names) (defScope s_value_names) [] [] (fAd K a_value_names) (fdOf K (fAd K a_value_names)) := by
  obtain ⟨fd, F⟩ := T.c.fn_ (d := d_value_names) (List.mem_of_getElem? (i := 31) rfl)
  exact fd_eq F
theorem Tx.k_value_names (T : Tx P K mg) : PySem.W.keepIn K (.ref (fAd K a_value_names)) = true := T.f_value_names.kp
theorem Tx.b_value_names (T : Tx P K mg) : Binds K (fdOf K (fAd K a_value_names)) ["value"] [] := T.f_value_names.bindsN fun _ _ _ _ _ _ us hl => match us, hl with | [_], _ => rfl
theorem sc_value_names : FnScope (["value"] : List Str) ["value"] (defScope s_value_names) := ⟨rfl, rfl, rfl, by decide +kernel, rfl, by decide +kernel, by decide +kernel⟩
abbrev a_test_names : Str × Option Str := ("test_names", none)
theorem Tx.f_test_names (T : Tx P K mg) : FunD K "test_names" "test_names" (defArgs s_test_names) (defBody s_test_names) (defScope s_test_names) [] [] (fAd K a_test_names) (fdOf K (fAd K a_test_names)) := by
  obtain ⟨fd, F⟩ := T.c.fn_ (d := d_test_names) (List.mem_of_getElem? (i := 32) rfl)
  exact fd_eq F
theorem Tx.k_test_names (T : Tx P K mg) : PySem.W.keepIn K (.ref (fAd K a_test_names)) = true := T.f_test_names.kp
theorem Tx.b_test_names (T : Tx P K mg) : Binds K (fdOf K (fAd K a_test_names)) ["test"] [] := T.f_test_names.bindsN fun _ _ _ _ _ _ us hl => match us, hl with | [_], _ => rfl
theorem sc_test_names : FnScope (["test"] : List Str) ["test"] (defScope s_test_names) := ⟨rfl, rfl, rfl, by decide +kernel, rfl, by decide +kernel, by decide +kernel⟩
abbrev a_used_names : Str × Option Str := ("used_names", none)
theorem Tx.f_used_names (T : Tx P K mg) : FunD K "used_names" "used_names" (defArgs s_used_names) (defBody s_used_names) (defScope s_used_names) [] [] (fAd K a_used_names) (fdOf K (fAd K a_used_names)) := by
  obtain ⟨fd, F⟩ := T.c.fn_ (d := d_used_names) (List.mem_of_getElem? (i := 33) rfl)
  exact fd_eq F
theorem Tx.k_used_names (T : Tx P K mg) : PySem.W.keepIn K (.ref (fAd K a_used_names)) = true := T.f_used_names.kp
theorem Tx.b_used_names (T : Tx P K mg) : Binds K (fdOf K (fAd K a_used_names)) ["statement"] [] := T.f_used_names.bindsN fun _ _ _ _ _ _ us hl => match us, hl with | [_], _ => rfl
theorem sc_used_names : FnScope (["statement", "head", "found", "value"] : List Str) ["statement"] (defScope s_used_names) := ⟨rfl, rfl, rfl, by decide +kernel, rfl, by decide +kernel, by decide +kernel⟩
abbrev a_Program___init__ : Str × Option Str := ("Program", some "__init__")
theorem Tx.f_Program___init__ (T : Tx P K mg) : FunD K "__init__" "Program.__init__" (defArgs s_Program___init__) (defBody s_Program___init__) (defScope s_Program___init__) [] [] (fAd K a_Program___init__) (fdOf K (fAd K a_Program___init__)) := by
  obtain ⟨fd, F⟩ := T.c.fn_ (d := d_Program___init__) (List.mem_of_getElem? (i := 34) rfl)
  exact fd_eq F
theorem Tx.k_Program___init__ (T : Tx P K mg) : PySem.W.keepIn K (.ref (fAd K a_Program___init__)) = true := T.f_Program___init__.kp
theorem Tx.b_Program___init__ (T : Tx P K mg) : Binds K (fdOf K (fAd K a_Program___init__)) ["self"] [] := T.f_Program___init__.bindsN fun _ _ _ _ _ _ us hl => match us, hl with | [_], _ => rfl
theorem sc_Program___init__ : FnScope (["self"] : List Str) ["self"] (defScope s_Program___init__) := ⟨rfl, rfl, rfl, by decide +kernel, rfl, by decide +kernel, by decide +kernel⟩
abbrev a_Program_add_global : Str × Option Str := ("Program", some "add_global")
theorem Tx.f_Program_add_global (T : Tx P K mg) : FunD K "add_global" "Program.add_global" (defArgs s_Program_add_global) (defBody s_Program_add_global) (defScope s_Program_add_global) [] [] (fAd K a_Program_add_global) (fdOf K (fAd K a_Program_add_global)) := by
  obtain ⟨fd, F⟩ := T.c.fn_ (d := d_Program_add_global) (List.mem_of_getElem? (i := 35) rfl)
  exact fd_eq F
theorem Tx.k_Program_add_global (T : Tx P K mg) : PySem.W.keepIn K (.ref (fAd K a_Program_add_global)) = true := T.f_Program_add_global.kp
theorem Tx.b_Program_add_global (T : Tx P K mg) : Binds K (fdOf K (fAd K a_Program_add_global)) ["self", "name"] [] := T.f_Program_add_global.bindsN fun _ _ _ _ _ _ us hl => match us, hl with | [_, _], _ => rfl
theorem sc_Program_add_global : FnScope (["self", "name"] : List Str) ["self", "name"] (defScope s_Program_add_global) := ⟨rfl, rfl, rfl, by decide +kernel, rfl, by decide +kernel, by decide +kernel⟩
abbrev a_Program_add_function : Str × Option Str := ("Program", some "add_function")
theorem Tx.f_Program_add_function (T : Tx P K mg) : FunD K "add_function" "Program.add_function" (defArgs s_Program_add_function) (defBody s_Program_add_function) (defScope s_Program_add_function) [] [] (fAd K a_Program_add_function) (fdOf K (fAd K a_Program_add_function)) := by
  obtain ⟨fd, F⟩ := T.c.fn_ (d := d_Program_add_function) (List.mem_of_getElem? (i := 36) rfl)
  exact fd_eq F
theorem Tx.k_Program_add_function (T : Tx P K mg) : PySem.W.keepIn K (.ref (fAd K a_Program_add_function)) = true := T.f_Program_add_function.kp
theorem Tx.b_Program_add_function (T : Tx P K mg) : Binds K (fdOf K (fAd K a_Program_add_function)) ["self", "function"] [] := T.f_Program_add_function.bindsN fun _ _ _ _ _ _ us hl => match us, hl with | [_, _], _ => rfl
theorem sc_Program_add_function : FnScope (["self", "function"] : List Str) ["self", "function"] (defScope s_Program_add_function) := ⟨rfl, rfl, rfl, by decide +kernel, rfl, by decide +kernel, by decide +kernel⟩
abbrev a_Program_replaced : Str × Option Str := ("Program", some "replaced")
theorem Tx.f_Program_replaced (T : Tx P K mg) : FunD K "replaced" "Program.replaced" (defArgs s_Program_replaced) (defBody s_Program_replaced) (defScope s_Program_replaced) [] [] (fAd K a_Program_replaced) (fdOf K (fAd K a_Program_replaced)) := by
  obtain ⟨fd, F⟩ := T.c.fn_ (d := d_Program_replaced) (List.mem_of_getElem? (i := 37) rfl)
  exact fd_eq F
theorem Tx.k_Program_replaced (T : Tx P K mg) : PySem.W.keepIn K (.ref (fAd K a_Program_replaced)) = true := T.f_Program_replaced.kp
theorem Tx.b_Program_replaced (T : Tx P K mg) : Binds K (fdOf K (fAd K a_Program_replaced)) ["self", "function"] [] := T.f_Program_replaced.bindsN fun _ _ _ _ _ _ us hl => match us, hl with | [_, _], _ => rfl
theorem sc_Program_replaced : FnScope (["self", "function"] : List Str) ["self", "function"] (defScope s_Program_replaced) := ⟨rfl, rfl, rfl, by decide +kernel, rfl, by decide +kernel, by decide +kernel⟩
abbrev a_Program_function : Str × Option Str := ("Program", some "function")
theorem Tx.f_Program_function (T : Tx P K mg) : FunD K "function" "Program.function" (defArgs s_Program_function) (defBody s_Program_function) (defScope s_Program_function) [] [] (fAd K a_Program_function) (fdOf K (fAd K a_Program_function)) := by
  obtain ⟨fd, F⟩ := T.c.fn_ (d := d_Program_function) (List.mem_of_getElem? (i := 38) rfl)
  exact fd_eq F
theorem Tx.k_Program_function (T : Tx P K mg) : PySem.W.keepIn K (.ref (fAd K a_Program_function)) = true := T.f_Program_function.kp
theorem Tx.b_Program_function (T : Tx P K mg) : Binds K (fdOf K (fAd K a_Program_function)) ["self", "name"] [] := T.f_Program_function.bindsN fun _ _ _ _ _ _ us hl => match us, hl with | [_, _], _ => rfl
theorem sc_Program_function : FnScope (["self", "name"] : List Str) ["self", "name"] (defScope s_Program_function) := ⟨rfl, rfl, rfl, by decide +kernel, rfl, by decide +kernel, by decide +kernel⟩
abbrev a_Program_has_global : Str × Option Str := ("Program", some "has_global")
theorem Tx.f_Program_has_global (T : Tx P K mg) : FunD K "has_global" "Program.has_global" (defArgs s_Program_has_global) (defBody s_Program_has_global) (defScope s_Program_has_global) [] [] (fAd K a_Program_has_global) (fdOf K (fAd K a_Program_has_global)) := by
  obtain ⟨fd, F⟩ := T.c.fn_ (d := d_Program_has_global) (List.mem_of_getElem? (i := 39) rfl)
  exact fd_eq F
theorem Tx.k_Program_has_global (T : Tx P K mg) : PySem.W.keepIn K (.ref (fAd K a_Program_has_global)) = true := T.f_Program_has_global.kp
theorem Tx.b_Program_has_global (T : Tx P K mg) : Binds K (fdOf K (fAd K a_Program_has_global)) ["self", "name"] [] := T.f_Program_has_global.bindsN fun _ _ _ _ _ _ us hl => match us, hl with | [_, _], _ => rfl
theorem sc_Program_has_global : FnScope (["self", "name"] : List Str) ["self", "name"] (defScope s_Program_has_global) := ⟨rfl, rfl, rfl, by decide +kernel, rfl, by decide +kernel, by decide +kernel⟩
abbrev a_Program_globals_list : Str × Option Str := ("Program", some "globals_list")
theorem Tx.f_Program_globals_list (T : Tx P K mg) : FunD K "globals_list" "Program.globals_list" (defArgs s_Program_globals_list) (defBody s_Program_globals_list) (defScope s_Program_globals_list) [] [] (fAd K a_Program_globals_list) (fdOf K (fAd K a_Program_globals_list)) := by
  obtain ⟨fd, F⟩ := T.c.fn_ (d := d_Program_globals_list) (List.mem_of_getElem? (i := 40) rfl)
  exact fd_eq F
theorem Tx.k_Program_globals_list (T : Tx P K mg) : PySem.W.keepIn K (.ref (fAd K a_Program_globals_list)) = true := T.f_Program_globals_list.kp
theorem Tx.b_Program_globals_list (T : Tx P K mg) : Binds K (fdOf K (fAd K a_Program_globals_list)) ["self"] [] := T.f_Program_globals_list.bindsN fun _ _ _ _ _ _ us hl => match us, hl with | [_], _ => rfl
theorem sc_Program_globals_list : FnScope (["self"] : List Str) ["self"] (defScope s_Program_globals_list) := ⟨rfl, rfl, rfl, by decide +kernel, rfl, by decide +kernel, by decide +kernel⟩
abbrev a_Program_functions : Str × Option Str := ("Program", some "functions")
theorem Tx.f_Program_functions (T : Tx P K mg) : FunD K "functions" "Program.functions" (defArgs s_Program_functions) (defBody s_Program_functions) (defScope s_Program_functions) [] [] (fAd K a_Program_functions) (fdOf K (fAd K a_Program_functions)) := by
  obtain ⟨fd, F⟩ := T.c.fn_ (d := d_Program_functions) (List.mem_of_getElem? (i := 41) rfl)
  exact fd_eq F
theorem Tx.k_Program_functions (T : Tx P K mg) : PySem.W.keepIn K (.ref (fAd K a_Program_functions)) = true := T.f_Program_functions.kp
theorem Tx.b_Program_functions (T : Tx P K mg) : Binds K (fdOf K (fAd K a_Program_functions)) ["self"] [] := T.f_Program_functions.bindsN fun _ _ _ _ _ _ us hl => match us, hl with | [_], _ => rfl
theorem sc_Program_functions : FnScope (["self", "name"] : List Str) ["self"] (defScope s_Program_functions) := ⟨rfl, rfl, rfl, by decide +kernel, rfl, by decide +kernel, by decide +kernel⟩
abbrev a_Program_check : Str × Option Str := ("Program", some "check")
theorem Tx.f_Program_check (T : Tx P K mg) : FunD K "check" "Program.check" (defArgs s_Program_check) (defBody s_Program_check) (defScope s_Program_check) [] [] (fAd K a_Program_check) (fdOf K (fAd K a_Program_check)) := by
  obtain ⟨fd, F⟩ := T.c.fn_ (d := d_Program_check) (List.mem_of_getElem? (i := 42) rfl)
  exact fd_eq F
theorem Tx.k_Program_check (T : Tx P K mg) : PySem.W.keepIn K (.ref (fAd K a_Program_check)) = true := T.f_Program_check.kp
theorem Tx.b_Program_check (T : Tx P K mg) : Binds K (fdOf K (fAd K a_Program_check)) ["self"] [] := T.f_Program_check.bindsN fun _ _ _ _ _ _ us hl => match us, hl with | [_], _ => rfl
theorem sc_Program_check : FnScope (["self", "function"] : List Str) ["self"] (defScope s_Program_check) := ⟨rfl, rfl, rfl, by decide +kernel, rfl, by decide +kernel, by decide +kernel⟩
abbrev a_check_call : Str × Option Str := ("check_call", none)
theorem Tx.f_check_call (T : Tx P K mg) : FunD K "check_call" "check_call" (defArgs s_check_call) (defBody s_check_call) (defScope s_check_call) [] [] (fAd K a_check_call) (fdOf K (fAd K a_check_call)) := by
  obtain ⟨fd, F⟩ := T.c.fn_ (d := d_check_call) (List.mem_of_getElem? (i := 43) rfl)
  exact fd_eq F
theorem Tx.k_check_call (T : Tx P K mg) : PySem.W.keepIn K (.ref (fAd K a_check_call)) = true := T.f_check_call.kp
theorem Tx.b_check_call (T : Tx P K mg) : Binds K (fdOf K (fAd K a_check_call)) ["program", "statement"] [] := T.f_check_call.bindsN fun _ _ _ _ _ _ us hl => match us, hl with | [_, _], _ => rfl
theorem sc_check_call : FnScope (["program", "statement", "function"] : List Str) ["program", "statement"] (defScope s_check_call) := ⟨rfl, rfl, rfl, by decide +kernel, rfl, by decide +kernel, by decide +kernel⟩
abbrev a_check_function : Str × Option Str := ("check_function", none)
theorem Tx.f_check_function (T : Tx P K mg) : FunD K "check_function" "check_function" (defArgs s_check_function) (defBody s_check_function) (defScope s_check_function) [] [] (fAd K a_check_function) (fdOf K (fAd K a_check_function)) := by
  obtain ⟨fd, F⟩ := T.c.fn_ (d := d_check_function) (List.mem_of_getElem? (i := 44) rfl)
  exact fd_eq F
theorem Tx.k_check_function (T : Tx P K mg) : PySem.W.keepIn K (.ref (fAd K a_check_function)) = true := T.f_check_function.kp
theorem Tx.b_check_function (T : Tx P K mg) : Binds K (fdOf K (fAd K a_check_function)) ["program", "function"] [] := T.f_check_function.bindsN fun _ _ _ _ _ _ us hl => match us, hl with | [_, _], _ => rfl
theorem sc_check_function : FnScope (["program", "function", "parameters", "index", "known", "statement", "name"] : List Str) ["program", "function"] (defScope s_check_function) := ⟨rfl, rfl, rfl, by decide +kernel, rfl, by decide +kernel, by decide +kernel⟩
abbrev a_program_of : Str × Option Str := ("program_of", none)
theorem Tx.f_program_of (T : Tx P K mg) : FunD K "program_of" "program_of" (defArgs s_program_of) (defBody s_program_of) (defScope s_program_of) [] [] (fAd K a_program_of) (fdOf K (fAd K a_program_of)) := by
  obtain ⟨fd, F⟩ := T.c.fn_ (d := d_program_of) (List.mem_of_getElem? (i := 45) rfl)
  exact fd_eq F
theorem Tx.k_program_of (T : Tx P K mg) : PySem.W.keepIn K (.ref (fAd K a_program_of)) = true := T.f_program_of.kp
theorem Tx.b_program_of (T : Tx P K mg) : Binds K (fdOf K (fAd K a_program_of)) ["text"] [] := T.f_program_of.bindsN fun _ _ _ _ _ _ us hl => match us, hl with | [_], _ => rfl
theorem sc_program_of : FnScope (["text", "program", "item"] : List Str) ["text"] (defScope s_program_of) := ⟨rfl, rfl, rfl, by decide +kernel, rfl, by decide +kernel, by decide +kernel⟩
abbrev a__law_wide : Str × Option Str := ("_law_wide", none)
theorem Tx.f__law_wide (T : Tx P K mg) : FunD K "_law_wide" "_law_wide" (defArgs s__law_wide) (defBody s__law_wide) (defScope s__law_wide) [] [] (fAd K a__law_wide) (fdOf K (fAd K a__law_wide)) := by
  obtain ⟨fd, F⟩ := T.c.fn_ (d := d__law_wide) (List.mem_of_getElem? (i := 46) rfl)
  exact fd_eq F
theorem Tx.k__law_wide (T : Tx P K mg) : PySem.W.keepIn K (.ref (fAd K a__law_wide)) = true := T.f__law_wide.kp
theorem Tx.b__law_wide (T : Tx P K mg) : Binds K (fdOf K (fAd K a__law_wide)) ["script", "k"] [] := T.f__law_wide.bindsN fun _ _ _ _ _ _ us hl => match us, hl with | [_, _], _ => rfl
theorem sc__law_wide : FnScope (["script", "k", "cell", "mixed"] : List Str) ["script", "k"] (defScope s__law_wide) := ⟨rfl, rfl, rfl, by decide +kernel, rfl, by decide +kernel, by decide +kernel⟩
abbrev a__law_take : Str × Option Str := ("_law_take", none)
theorem Tx.f__law_take (T : Tx P K mg) : FunD K "_law_take" "_law_take" (defArgs s__law_take) (defBody s__law_take) (defScope s__law_take) [] [] (fAd K a__law_take) (fdOf K (fAd K a__law_take)) := by
  obtain ⟨fd, F⟩ := T.c.fn_ (d := d__law_take) (List.mem_of_getElem? (i := 47) rfl)
  exact fd_eq F
theorem Tx.k__law_take (T : Tx P K mg) : PySem.W.keepIn K (.ref (fAd K a__law_take)) = true := T.f__law_take.kp
theorem Tx.b__law_take (T : Tx P K mg) : Binds K (fdOf K (fAd K a__law_take)) ["pool", "most"] [] := T.f__law_take.bindsN fun _ _ _ _ _ _ us hl => match us, hl with | [_, _], _ => rfl
theorem sc__law_take : FnScope (["pool", "most", "taken"] : List Str) ["pool", "most"] (defScope s__law_take) := ⟨rfl, rfl, rfl, by decide +kernel, rfl, by decide +kernel, by decide +kernel⟩
abbrev a__law_odd : Str × Option Str := ("_law_odd", none)
theorem Tx.f__law_odd (T : Tx P K mg) : FunD K "_law_odd" "_law_odd" (defArgs s__law_odd) (defBody s__law_odd) (defScope s__law_odd) [] [] (fAd K a__law_odd) (fdOf K (fAd K a__law_odd)) := by
  obtain ⟨fd, F⟩ := T.c.fn_ (d := d__law_odd) (List.mem_of_getElem? (i := 48) rfl)
  exact fd_eq F
theorem Tx.k__law_odd (T : Tx P K mg) : PySem.W.keepIn K (.ref (fAd K a__law_odd)) = true := T.f__law_odd.kp
theorem Tx.b__law_odd (T : Tx P K mg) : Binds K (fdOf K (fAd K a__law_odd)) ["pool"] [] := T.f__law_odd.bindsN fun _ _ _ _ _ _ us hl => match us, hl with | [_], _ => rfl
theorem sc__law_odd : FnScope (["pool", "odd"] : List Str) ["pool"] (defScope s__law_odd) := ⟨rfl, rfl, rfl, by decide +kernel, rfl, by decide +kernel, by decide +kernel⟩
abbrev a__law_piece : Str × Option Str := ("_law_piece", none)
theorem Tx.f__law_piece (T : Tx P K mg) : FunD K "_law_piece" "_law_piece" (defArgs s__law_piece) (defBody s__law_piece) (defScope s__law_piece) [] [] (fAd K a__law_piece) (fdOf K (fAd K a__law_piece)) := by
  obtain ⟨fd, F⟩ := T.c.fn_ (d := d__law_piece) (List.mem_of_getElem? (i := 49) rfl)
  exact fd_eq F
theorem Tx.k__law_piece (T : Tx P K mg) : PySem.W.keepIn K (.ref (fAd K a__law_piece)) = true := T.f__law_piece.kp
theorem Tx.b__law_piece (T : Tx P K mg) : Binds K (fdOf K (fAd K a__law_piece)) ["pool"] [] := T.f__law_piece.bindsN fun _ _ _ _ _ _ us hl => match us, hl with | [_], _ => rfl
theorem sc__law_piece : FnScope (["pool", "kind", "size", "k"] : List Str) ["pool"] (defScope s__law_piece) := ⟨rfl, rfl, rfl, by decide +kernel, rfl, by decide +kernel, by decide +kernel⟩
abbrev a__law_in_word : Str × Option Str := ("_law_in_word", none)
theorem Tx.f__law_in_word (T : Tx P K mg) : FunD K "_law_in_word" "_law_in_word" (defArgs s__law_in_word) (defBody s__law_in_word) (defScope s__law_in_word) [] [] (fAd K a__law_in_word) (fdOf K (fAd K a__law_in_word)) := by
  obtain ⟨fd, F⟩ := T.c.fn_ (d := d__law_in_word) (List.mem_of_getElem? (i := 50) rfl)
  exact fd_eq F
theorem Tx.k__law_in_word (T : Tx P K mg) : PySem.W.keepIn K (.ref (fAd K a__law_in_word)) = true := T.f__law_in_word.kp
theorem Tx.b__law_in_word (T : Tx P K mg) : Binds K (fdOf K (fAd K a__law_in_word)) ["char"] [] := T.f__law_in_word.bindsN fun _ _ _ _ _ _ us hl => match us, hl with | [_], _ => rfl
theorem sc__law_in_word : FnScope (["char"] : List Str) ["char"] (defScope s__law_in_word) := ⟨rfl, rfl, rfl, by decide +kernel, rfl, by decide +kernel, by decide +kernel⟩
abbrev a__law_run : Str × Option Str := ("_law_run", none)
theorem Tx.f__law_run (T : Tx P K mg) : FunD K "_law_run" "_law_run" (defArgs s__law_run) (defBody s__law_run) (defScope s__law_run) [] [] (fAd K a__law_run) (fdOf K (fAd K a__law_run)) := by
  obtain ⟨fd, F⟩ := T.c.fn_ (d := d__law_run) (List.mem_of_getElem? (i := 51) rfl)
  exact fd_eq F
theorem Tx.k__law_run (T : Tx P K mg) : PySem.W.keepIn K (.ref (fAd K a__law_run)) = true := T.f__law_run.kp
theorem Tx.b__law_run (T : Tx P K mg) : Binds K (fdOf K (fAd K a__law_run)) ["text", "at", "figures"] [] := T.f__law_run.bindsN fun _ _ _ _ _ _ us hl => match us, hl with | [_, _, _], _ => rfl
theorem sc__law_run : FnScope (["text", "at", "figures", "k"] : List Str) ["text", "at", "figures"] (defScope s__law_run) := ⟨rfl, rfl, rfl, by decide +kernel, rfl, by decide +kernel, by decide +kernel⟩
abbrev a__law_token : Str × Option Str := ("_law_token", none)
theorem Tx.f__law_token (T : Tx P K mg) : FunD K "_law_token" "_law_token" (defArgs s__law_token) (defBody s__law_token) (defScope s__law_token) [] [] (fAd K a__law_token) (fdOf K (fAd K a__law_token)) := by
  obtain ⟨fd, F⟩ := T.c.fn_ (d := d__law_token) (List.mem_of_getElem? (i := 52) rfl)
  exact fd_eq F
theorem Tx.k__law_token (T : Tx P K mg) : PySem.W.keepIn K (.ref (fAd K a__law_token)) = true := T.f__law_token.kp
theorem Tx.b__law_token (T : Tx P K mg) : Binds K (fdOf K (fAd K a__law_token)) ["text", "at"] [] := T.f__law_token.bindsN fun _ _ _ _ _ _ us hl => match us, hl with | [_, _], _ => rfl
theorem sc__law_token : FnScope (["text", "at", "end", "word", "number"] : List Str) ["text", "at"] (defScope s__law_token) := ⟨rfl, rfl, rfl, by decide +kernel, rfl, by decide +kernel, by decide +kernel⟩
abbrev a__law_due : Str × Option Str := ("_law_due", none)
theorem Tx.f__law_due (T : Tx P K mg) : FunD K "_law_due" "_law_due" (defArgs s__law_due) (defBody s__law_due) (defScope s__law_due) [] [] (fAd K a__law_due) (fdOf K (fAd K a__law_due)) := by
  obtain ⟨fd, F⟩ := T.c.fn_ (d := d__law_due) (List.mem_of_getElem? (i := 53) rfl)
  exact fd_eq F
theorem Tx.k__law_due (T : Tx P K mg) : PySem.W.keepIn K (.ref (fAd K a__law_due)) = true := T.f__law_due.kp
theorem Tx.b__law_due (T : Tx P K mg) : Binds K (fdOf K (fAd K a__law_due)) ["text"] [] := T.f__law_due.bindsN fun _ _ _ _ _ _ us hl => match us, hl with | [_], _ => rfl
theorem sc__law_due : FnScope (["text", "found", "at", "turn", "more"] : List Str) ["text"] (defScope s__law_due) := ⟨rfl, rfl, rfl, by decide +kernel, rfl, by decide +kernel, by decide +kernel⟩
abbrev a__law_told : Str × Option Str := ("_law_told", none)
theorem Tx.f__law_told (T : Tx P K mg) : FunD K "_law_told" "_law_told" (defArgs s__law_told) (defBody s__law_told) (defScope s__law_told) [] [] (fAd K a__law_told) (fdOf K (fAd K a__law_told)) := by
  obtain ⟨fd, F⟩ := T.c.fn_ (d := d__law_told) (List.mem_of_getElem? (i := 54) rfl)
  exact fd_eq F
theorem Tx.k__law_told (T : Tx P K mg) : PySem.W.keepIn K (.ref (fAd K a__law_told)) = true := T.f__law_told.kp
theorem Tx.b__law_told (T : Tx P K mg) : Binds K (fdOf K (fAd K a__law_told)) ["call", "text"] [] := T.f__law_told.bindsN fun _ _ _ _ _ _ us hl => match us, hl with | [_, _], _ => rfl
theorem sc__law_told : FnScope (["call", "text", "e"] : List Str) ["call", "text"] (defScope s__law_told) := ⟨rfl, rfl, rfl, by decide +kernel, rfl, by decide +kernel, by decide +kernel⟩
abbrev a__law_text_right : Str × Option Str := ("_law_text_right", none)
theorem Tx.f__law_text_right (T : Tx P K mg) : FunD K "_law_text_right" "_law_text_right" (defArgs s__law_text_right) (defBody s__law_text_right) (defScope s__law_text_right) [] [] (fAd K a__law_text_right) (fdOf K (fAd K a__law_text_right)) := by
  obtain ⟨fd, F⟩ := T.c.fn_ (d := d__law_text_right) (List.mem_of_getElem? (i := 55) rfl)
  exact fd_eq F
theorem Tx.k__law_text_right (T : Tx P K mg) : PySem.W.keepIn K (.ref (fAd K a__law_text_right)) = true := T.f__law_text_right.kp
theorem Tx.b__law_text_right (T : Tx P K mg) : Binds K (fdOf K (fAd K a__law_text_right)) ["text"] [] := T.f__law_text_right.bindsN fun _ _ _ _ _ _ us hl => match us, hl with | [_], _ => rfl
theorem sc__law_text_right : FnScope (["text", "due", "call"] : List Str) ["text"] (defScope s__law_text_right) := ⟨rfl, rfl, rfl, by decide +kernel, rfl, by decide +kernel, by decide +kernel⟩
abbrev a__law_nested : Str × Option Str := ("_law_nested", none)
theorem Tx.f__law_nested (T : Tx P K mg) : FunD K "_law_nested" "_law_nested" (defArgs s__law_nested) (defBody s__law_nested) (defScope s__law_nested) [] [] (fAd K a__law_nested) (fdOf K (fAd K a__law_nested)) := by
  obtain ⟨fd, F⟩ := T.c.fn_ (d := d__law_nested) (List.mem_of_getElem? (i := 56) rfl)
  exact fd_eq F
theorem Tx.k__law_nested (T : Tx P K mg) : PySem.W.keepIn K (.ref (fAd K a__law_nested)) = true := T.f__law_nested.kp
theorem Tx.b__law_nested (T : Tx P K mg) : Binds K (fdOf K (fAd K a__law_nested)) ["pool", "levels"] [] := T.f__law_nested.bindsN fun _ _ _ _ _ _ us hl => match us, hl with | [_, _], _ => rfl
theorem sc__law_nested : FnScope (["pool", "levels", "openers", "text", "end", "block", "opener", "k", "number"] : List Str) ["pool", "levels"] (defScope s__law_nested) := ⟨rfl, rfl, rfl, by decide +kernel, rfl, by decide +kernel, by decide +kernel⟩
abbrev a__law_levels_right : Str × Option Str := ("_law_levels_right", none)
theorem Tx.f__law_levels_right (T : Tx P K mg) : FunD K "_law_levels_right" "_law_levels_right" (defArgs s__law_levels_right) (defBody s__law_levels_right) (defScope s__law_levels_right) [] [] (fAd K a__law_levels_right) (fdOf K (fAd K a__law_levels_right)) := by
  obtain ⟨fd, F⟩ := T.c.fn_ (d := d__law_levels_right) (List.mem_of_getElem? (i := 57) rfl)
  exact fd_eq F
theorem Tx.k__law_levels_right (T : Tx P K mg) : PySem.W.keepIn K (.ref (fAd K a__law_levels_right)) = true := T.f__law_levels_right.kp
theorem Tx.b__law_levels_right (T : Tx P K mg) : Binds K (fdOf K (fAd K a__law_levels_right)) ["pool"] [] := T.f__law_levels_right.bindsN fun _ _ _ _ _ _ us hl => match us, hl with | [_], _ => rfl
theorem sc__law_levels_right : FnScope (["pool", "levels", "text", "end", "block", "whole", "deep", "due", "call"] : List Str) ["pool"] (defScope s__law_levels_right) := ⟨rfl, rfl, rfl, by decide +kernel, rfl, by decide +kernel, by decide +kernel⟩
abbrev a__law_sums_right : Str × Option Str := ("_law_sums_right", none)
theorem Tx.f__law_sums_right (T : Tx P K mg) : FunD K "_law_sums_right" "_law_sums_right" (defArgs s__law_sums_right) (defBody s__law_sums_right) (defScope s__law_sums_right) [] [] (fAd K a__law_sums_right) (fdOf K (fAd K a__law_sums_right)) := by
  obtain ⟨fd, F⟩ := T.c.fn_ (d := d__law_sums_right) (List.mem_of_getElem? (i := 58) rfl)
  exact fd_eq F
theorem Tx.k__law_sums_right (T : Tx P K mg) : PySem.W.keepIn K (.ref (fAd K a__law_sums_right)) = true := T.f__law_sums_right.kp
theorem Tx.b__law_sums_right (T : Tx P K mg) : Binds K (fdOf K (fAd K a__law_sums_right)) ["pool"] [] := T.f__law_sums_right.bindsN fun _ _ _ _ _ _ us hl => match us, hl with | [_], _ => rfl
theorem sc__law_sums_right : FnScope (["pool", "number", "sign", "text", "due", "field", "front", "statement"] : List Str) ["pool"] (defScope s__law_sums_right) := ⟨rfl, rfl, rfl, by decide +kernel, rfl, by decide +kernel, by decide +kernel⟩
abbrev a_law : Str × Option Str := ("law", none)
theorem Tx.f_law (T : Tx P K mg) : FunD K "law" "law" (defArgs s_law) (defBody s_law) (defScope s_law) [] [] (fAd K a_law) (fdOf K (fAd K a_law)) := by
  obtain ⟨fd, F⟩ := T.c.fn_ (d := d_law) (List.mem_of_getElem? (i := 59) rfl)
  exact fd_eq F
theorem Tx.k_law (T : Tx P K mg) : PySem.W.keepIn K (.ref (fAd K a_law)) = true := T.f_law.kp
theorem Tx.b_law (T : Tx P K mg) : Binds K (fdOf K (fAd K a_law)) ["script"] [] := T.f_law.bindsN fun _ _ _ _ _ _ us hl => match us, hl with | [_], _ => rfl
theorem sc_law : FnScope (["script", "pool", "turn", "text", "long", "size", "k"] : List Str) ["script"] (defScope s_law) := ⟨rfl, rfl, rfl, by decide +kernel, rfl, by decide +kernel, by decide +kernel⟩
theorem Tx.c_Reader (T : Tx P K mg) : Cls K (ga K "Reader") := cls_ok (T.c.fact (List.mem_of_getElem? (i := 66) rfl))
theorem Tx.c_Program (T : Tx P K mg) : Cls K (ga K "Program") := cls_ok (T.c.fact (List.mem_of_getElem? (i := 80) rfl))
theorem Tx.mk_Reader (T : Tx P K mg) : Mk K (ga K "Reader") (fAd K ("Reader", some "__init__")) := mkr_ok (T.c.fact (List.mem_of_getElem? (i := 67) rfl))
theorem Tx.mk_Program (T : Tx P K mg) : Mk K (ga K "Program") (fAd K ("Program", some "__init__")) := mkr_ok (T.c.fact (List.mem_of_getElem? (i := 81) rfl))
theorem Tx.m_Reader_place (T : Tx P K mg) : Meth K (ga K "Reader") "place" (fAd K a_Reader_place) := meth_ok (T.c.fact (List.mem_of_getElem? (i := 68) rfl))
theorem Tx.m_Reader_peek (T : Tx P K mg) : Meth K (ga K "Reader") "peek" (fAd K a_Reader_peek) := meth_ok (T.c.fact (List.mem_of_getElem? (i := 69) rfl))
theorem Tx.m_Reader_accept (T : Tx P K mg) : Meth K (ga K "Reader") "accept" (fAd K a_Reader_accept) := meth_ok (T.c.fact (List.mem_of_getElem? (i := 70) rfl))
theorem Tx.m_Reader_expect (T : Tx P K mg) : Meth K (ga K "Reader") "expect" (fAd K a_Reader_expect) := meth_ok (T.c.fact (List.mem_of_getElem? (i := 71) rfl))
theorem Tx.m_Reader_read (T : Tx P K mg) : Meth K (ga K "Reader") "read" (fAd K a_Reader_read) := meth_ok (T.c.fact (List.mem_of_getElem? (i := 72) rfl))
theorem Tx.m_Reader_at_end (T : Tx P K mg) : Meth K (ga K "Reader") "at_end" (fAd K a_Reader_at_end) := meth_ok (T.c.fact (List.mem_of_getElem? (i := 73) rfl))
theorem Tx.m_Reader_start_function (T : Tx P K mg) : Meth K (ga K "Reader") "start_function" (fAd K a_Reader_start_function) := meth_ok (T.c.fact (List.mem_of_getElem? (i := 74) rfl))
theorem Tx.m_Reader_take_number (T : Tx P K mg) : Meth K (ga K "Reader") "take_number" (fAd K a_Reader_take_number) := meth_ok (T.c.fact (List.mem_of_getElem? (i := 75) rfl))
theorem Tx.m_Program_add_global (T : Tx P K mg) : Meth K (ga K "Program") "add_global" (fAd K a_Program_add_global) := meth_ok (T.c.fact (List.mem_of_getElem? (i := 82) rfl))
theorem Tx.m_Program_add_function (T : Tx P K mg) : Meth K (ga K "Program") "add_function" (fAd K a_Program_add_function) := meth_ok (T.c.fact (List.mem_of_getElem? (i := 83) rfl))
theorem Tx.m_Program_replaced (T : Tx P K mg) : Meth K (ga K "Program") "replaced" (fAd K a_Program_replaced) := meth_ok (T.c.fact (List.mem_of_getElem? (i := 84) rfl))
theorem Tx.m_Program_function (T : Tx P K mg) : Meth K (ga K "Program") "function" (fAd K a_Program_function) := meth_ok (T.c.fact (List.mem_of_getElem? (i := 85) rfl))
theorem Tx.m_Program_has_global (T : Tx P K mg) : Meth K (ga K "Program") "has_global" (fAd K a_Program_has_global) := meth_ok (T.c.fact (List.mem_of_getElem? (i := 86) rfl))
theorem Tx.m_Program_globals_list (T : Tx P K mg) : Meth K (ga K "Program") "globals_list" (fAd K a_Program_globals_list) := meth_ok (T.c.fact (List.mem_of_getElem? (i := 87) rfl))
theorem Tx.m_Program_functions (T : Tx P K mg) : Meth K (ga K "Program") "functions" (fAd K a_Program_functions) := meth_ok (T.c.fact (List.mem_of_getElem? (i := 88) rfl))
theorem Tx.m_Program_check (T : Tx P K mg) : Meth K (ga K "Program") "check" (fAd K a_Program_check) := meth_ok (T.c.fact (List.mem_of_getElem? (i := 89) rfl))
theorem Tx.na_Reader_tokens (T : Tx P K mg) : NoAttr K (ga K "Reader") "_tokens" := noat_ok (T.c.fact (List.mem_of_getElem? (i := 76) rfl))
theorem Tx.na_Reader_next (T : Tx P K mg) : NoAttr K (ga K "Reader") "_next" := noat_ok (T.c.fact (List.mem_of_getElem? (i := 77) rfl))
theorem Tx.na_Reader_end (T : Tx P K mg) : NoAttr K (ga K "Reader") "_end" := noat_ok (T.c.fact (List.mem_of_getElem? (i := 78) rfl))
theorem Tx.na_Reader_number (T : Tx P K mg) : NoAttr K (ga K "Reader") "_number" := noat_ok (T.c.fact (List.mem_of_getElem? (i := 79) rfl))
theorem Tx.na_Program_globals (T : Tx P K mg) : NoAttr K (ga K "Program") "_globals" := noat_ok (T.c.fact (List.mem_of_getElem? (i := 90) rfl))
theorem Tx.na_Program_functions (T : Tx P K mg) : NoAttr K (ga K "Program") "_functions" := noat_ok (T.c.fact (List.mem_of_getElem? (i := 91) rfl))
theorem Tx.x_Malformed (T : Tx P K mg) : PySem.SXE.SxTxt P K (ga K "Malformed") (ma K (ga K "Malformed") "__init__") "Malformed.__init__" "at" := T.c.xc (d := xd_Malformed) (List.mem_of_getElem? (i := 0) rfl) (T.ok xd_Malformed (List.mem_of_getElem? (i := 0) rfl))
theorem Tx.x_Unknown (T : Tx P K mg) : PySem.SXE.SxTxt P K (ga K "Unknown") (ma K (ga K "Unknown") "__init__") "Unknown.__init__" "name" := T.c.xc (d := xd_Unknown) (List.mem_of_getElem? (i := 1) rfl) (T.ok xd_Unknown (List.mem_of_getElem? (i := 1) rfl))
theorem Tx.x_Clashing (T : Tx P K mg) : PySem.SXE.SxTxt P K (ga K "Clashing") (ma K (ga K "Clashing") "__init__") "Clashing.__init__" "name" := T.c.xc (d := xd_Clashing) (List.mem_of_getElem? (i := 2) rfl) (T.ok xd_Clashing (List.mem_of_getElem? (i := 2) rfl))
theorem Tx.x_Oversized (T : Tx P K mg) : PySem.SXE.SxTxt P K (ga K "Oversized") (ma K (ga K "Oversized") "__init__") "Oversized.__init__" "limit" := T.c.xc (d := xd_Oversized) (List.mem_of_getElem? (i := 3) rfl) (T.ok xd_Oversized (List.mem_of_getElem? (i := 3) rfl))
theorem Tx.x_Misused (T : Tx P K mg) : PySem.SXE.SxTxt P K (ga K "Misused") (ma K (ga K "Misused") "__init__") "Misused.__init__" "why" := T.c.xc (d := xd_Misused) (List.mem_of_getElem? (i := 4) rfl) (T.ok xd_Misused (List.mem_of_getElem? (i := 4) rfl))
theorem Tx.xm_Malformed_Oversized (T : Tx P K mg) : PySem.W.exmOne K (.ref (ga K "Malformed")) (.ref (ga K "Oversized")) = some false := exm_ok (T.c.fact (List.mem_of_getElem? (i := 92) rfl))
theorem Tx.xm_Oversized_Oversized (T : Tx P K mg) : PySem.W.exmOne K (.ref (ga K "Oversized")) (.ref (ga K "Oversized")) = some true := exm_ok (T.c.fact (List.mem_of_getElem? (i := 93) rfl))
theorem Tx.xm_Malformed_Malformed (T : Tx P K mg) : PySem.W.exmOne K (.ref (ga K "Malformed")) (.ref (ga K "Malformed")) = some true := exm_ok (T.c.fact (List.mem_of_getElem? (i := 94) rfl))
theorem Tx.ex_ (T : Tx P K mg) : (He.tupB K "RESERVED" tl_RESERVED && (He.tupB K "SIGNS" tl_SIGNS && (He.tupB K "FIELDS" tl_FIELDS && (He.tupB K "ASSIGNING" tl_ASSIGNING && (xfB K (ga K "Malformed") && (xfB K (ga K "Unknown") && (xfB K (ga K "Clashing") && (xfB K (ga K "Oversized") && (xfB K (ga K "Misused") && true))))))))) = true := T.c.more
theorem Tx.t_RESERVED (T : Tx P K mg) (H : Hp) : SqT K H (ga K "RESERVED") (tl_RESERVED.map (He.Dv.v K)) := tupB_ok (ba T.ex_).1 H
theorem Tx.t_SIGNS (T : Tx P K mg) (H : Hp) : SqT K H (ga K "SIGNS") (tl_SIGNS.map (He.Dv.v K)) := tupB_ok (ba (ba T.ex_).2).1 H
theorem Tx.t_FIELDS (T : Tx P K mg) (H : Hp) : SqT K H (ga K "FIELDS") (tl_FIELDS.map (He.Dv.v K)) := tupB_ok (ba (ba (ba T.ex_).2).2).1 H
theorem Tx.t_ASSIGNING (T : Tx P K mg) (H : Hp) : SqT K H (ga K "ASSIGNING") (tl_ASSIGNING.map (He.Dv.v K)) := tupB_ok (ba (ba (ba (ba T.ex_).2).2).2).1 H
theorem Tx.xf_Malformed (T : Tx P K mg) : XfC K (ga K "Malformed") := xfB_ok (ba (ba (ba (ba (ba T.ex_).2).2).2).2).1
theorem Tx.xf_Unknown (T : Tx P K mg) : XfC K (ga K "Unknown") := xfB_ok (ba (ba (ba (ba (ba (ba T.ex_).2).2).2).2).2).1
theorem Tx.xf_Clashing (T : Tx P K mg) : XfC K (ga K "Clashing") := xfB_ok (ba (ba (ba (ba (ba (ba (ba T.ex_).2).2).2).2).2).2).1
theorem Tx.xf_Oversized (T : Tx P K mg) : XfC K (ga K "Oversized") := xfB_ok (ba (ba (ba (ba (ba (ba (ba (ba T.ex_).2).2).2).2).2).2).2).1
theorem Tx.xf_Misused (T : Tx P K mg) : XfC K (ga K "Misused") := xfB_ok (ba (ba (ba (ba (ba (ba (ba (ba (ba T.ex_).2).2).2).2).2).2).2).2).1
end
end K14


set_option Elab.async false
set_option linter.all false
set_option maxRecDepth 100000
set_option maxHeartbeats 4000000
namespace K14
open PySem PySem.Spec PyProof.Rows L2 He Hz Cm Lx
local macro_rules | `(tactic| walk_at "rd") => `(tactic| repeat (first | (refine ⟨_, rfl, ?_⟩) | (refine ⟨_, _, rfl, rfl, ?_⟩) | (refine ⟨rfl, ?_⟩) | (refine ⟨szl (by omega), ?_⟩)))
local macro_rules | `(tactic| walk_at "dp") => `(tactic| (repeat' (first | exact DpAll.nil | apply DpAll.cons | exact Dp.str _ | exact Dp.int _ | exact Dp.non | exact Dp.bl _ | assumption)))
theorem dec_one {c d : Nat} {z : Str} (hz : z = ⟨#[d]⟩) : decide (V.str (⟨#[c]⟩ : Str) = V.str z) = decide (c = d) := by
  subst hz
  refine decide_eq_decide.mpr ⟨fun z => ?_, fun z => ?_⟩
  · injection z with z
    injection z with z
    injection z with z
    injection z with z
  · rw [z]
theorem sw3 {x z : Str} {n : Nat} (hz : n ≤ x.length) : Txt.startswith3 x z (n : Int) = ((x.cps.toList.drop n).take z.length == z.cps.toList) := by
  have e0 : x.cps.toList.length = x.length := rfl
  have e1 : z.cps.toList.length = z.length := rfl
  have ef : fromIndex x.length (n : Int) = n := by
    unfold fromIndex
    rw [if_neg (by omega)]
    omega
  unfold Txt.startswith3
  rw [ef]
  have es : Builtin.Str.subAt x z n = ((x.cps.toList.drop n).take z.length == z.cps.toList) := by
    show (x.cps.extract n (n + z.length) == z.cps) = _
    have e2 : (x.cps.extract n (n + z.length)).toList = (x.cps.toList.drop n).take z.length := by
      rw [Array.toList_extract, List.extract_eq_drop_take]
      congr 1
      omega
    by_cases h : x.cps.extract n (n + z.length) = z.cps
    · rw [← e2, h]
      simp
    · have h2 : ¬ (x.cps.toList.drop n).take z.length = z.cps.toList := fun q => h (by rw [← e2] at q; exact Array.toList_inj.mp q)
      rw [beq_eq_false_iff_ne.mpr h, beq_eq_false_iff_ne.mpr h2]
  rw [es]
  by_cases h : ((x.cps.toList.drop n).take z.length == z.cps.toList) = true
  · rw [h, Bool.and_true]
    have q := congrArg List.length (beq_iff_eq.mp h)
    rw [List.length_take, List.length_drop, e0, e1] at q
    exact decide_eq_true (by omega)
  · rw [Bool.eq_false_iff.mpr h, Bool.and_false]
theorem lt1 (a b : Nat) : ([a] < [b]) ↔ a < b := by simp [List.cons_lt_cons_iff]
def spCh (f : Nat → Bool) : Sp := fun vs H Q _ => ∃ c : Nat, vs = [.str ⟨#[c]⟩] ∧ Q (.bl (f c)) H
theorem cut_at {x : Str} {n m : Nat} (h : n ≤ m) (hm : m ≤ x.length) : (cutS x (some (n : Int)) (some (m : Int))).cps.toList = (x.cps.toList.drop n).take (m - n) := by
  unfold cutS
  have e1 : HT.sIx x.length 0 (some (n : Int)) = n := by rw [HT.sIx_nat]; omega
  have e2 : HT.sIx x.length x.length (some (m : Int)) = m := by rw [HT.sIx_nat]; omega
  rw [e1, e2]
section
variable {P : Program} {w : World} {K : PySem.W.Frag} {mg : Str → Option Value} {base : Heap}
theorem ok_is_letter (T : Tx P K mg) : OkF P w K mg base CX0 1 a_is_letter ["char"] (spCh isLet) := by
  have nd := sc_is_letter.nd
  refine T.f_is_letter.ok (CX := CX0) sc_is_letter (fun vs H Q E h => ?_) (fun cdv A outer s H vs Q E hr h => ?_)
  · obtain ⟨c, rfl, _⟩ := h
    rfl
  · obtain ⟨c, rfl, k⟩ := h
    refine ⟨_, PSs.nox (pss_one (ps_ret (pe_chain op_le_str op_le_str pe_str (pv 0) pe_str))), ?_⟩
    walk_at "rd"
    refine iteB (fun h => ?_) (fun h => ?_)
    · walk_at "rd"
      have e : isLet c = !decide (([122] : List Nat) < [c]) := by
        have h' : (!decide (([c] : List Nat) < [97])) = true := h
        simp only [lt1, Bool.not_eq_true', decide_eq_false_iff_not] at h'
        unfold isLet
        simp only [lt1]
        rw [decide_eq_true (by omega : 97 ≤ c), Bool.true_and, ← decide_not]
        exact decide_eq_decide.mpr (by omega)
      rw [e] at k
      exact k
    · have e : isLet c = false := by
        have h' : (!decide (([c] : List Nat) < [97])) = false := h
        simp only [lt1, Bool.not_eq_false', decide_eq_true_eq] at h'
        unfold isLet
        rw [decide_eq_false (by omega), Bool.false_and]
      rw [e] at k
      exact k
theorem ok_is_digit (T : Tx P K mg) : OkF P w K mg base CX0 1 a_is_digit ["char"] (spCh isDig) := by
  have nd := sc_is_digit.nd
  refine T.f_is_digit.ok (CX := CX0) sc_is_digit (fun vs H Q E h => ?_) (fun cdv A outer s H vs Q E hr h => ?_)
  · obtain ⟨c, rfl, _⟩ := h
    rfl
  · obtain ⟨c, rfl, k⟩ := h
    refine ⟨_, PSs.nox (pss_one (ps_ret (pe_chain op_le_str op_le_str pe_str (pv 0) pe_str))), ?_⟩
    walk_at "rd"
    refine iteB (fun h => ?_) (fun h => ?_)
    · walk_at "rd"
      have e : isDig c = !decide (([57] : List Nat) < [c]) := by
        have h' : (!decide (([c] : List Nat) < [48])) = true := h
        simp only [lt1, Bool.not_eq_true', decide_eq_false_iff_not] at h'
        unfold isDig
        simp only [lt1]
        rw [decide_eq_true (by omega : 48 ≤ c), Bool.true_and, ← decide_not]
        exact decide_eq_decide.mpr (by omega)
      rw [e] at k
      exact k
    · have e : isDig c = false := by
        have h' : (!decide (([c] : List Nat) < [48])) = false := h
        simp only [lt1, Bool.not_eq_false', decide_eq_true_eq] at h'
        unfold isDig
        rw [decide_eq_false (by omega), Bool.false_and]
      rw [e] at k
      exact k
theorem ok_in_word (T : Tx P K mg) : OkF P w K mg base CX0 2 a_in_word ["char"] (spCh inW) := by
  have nd := sc_in_word.nd
  have F_is_letter := ok_is_letter (P := P) (w := w) (base := base) T
  have F_is_digit := ok_is_digit (P := P) (w := w) (base := base) T
  refine T.f_in_word.ok (CX := CX0) sc_in_word (fun vs H Q E h => ?_) (fun cdv A outer s H vs Q E hr h => ?_)
  · obtain ⟨c, rfl, _⟩ := h
    rfl
  · obtain ⟨c, rfl, k⟩ := h
    refine ⟨_, PSs.nox (pss_one (ps_ret (pe_or (pe_call F_is_letter (hr.mono (by decide)) rfl T.g_is_letter T.k_is_letter T.b_is_letter .nil pass0 (pa_cons (pv 0) pa_nil)) (pe_or (pe_call F_is_digit (hr.mono (by decide)) rfl T.g_is_digit T.k_is_digit T.b_is_digit .nil pass0 (pa_cons (pv 0) pa_nil)) (pe_one (pe_cmpR op_eq (pv 0) pe_str (nomark _))))))), ?_⟩
    walk_at "rd"
    refine iteB (fun h => ?_) (fun h => ?_)
    · unfold inW at k
      rw [h] at k
      exact k
    · walk_at "rd"
      refine iteB (fun h2 => ?_) (fun h2 => ?_)
      · unfold inW at k
        rw [h, h2] at k
        exact k
      · walk_at "rd"
        unfold inW at k
        rw [h, h2] at k
        have e : decide (V.str (⟨#[c]⟩ : Str) = V.str "_") = decide (c = 95) := by
          refine decide_eq_decide.mpr ⟨fun z => ?_, fun z => ?_⟩
          · injection z with z
            injection z with z
            injection z with z
            injection z with z
          · rw [z]
            rfl
        show Q (V.bl (decide (V.str (⟨#[c]⟩ : Str) = V.str "_"))) H
        rw [e]
        exact k
def spEnd : Sp := fun vs H Q _ => ∃ (x : Str) (n : Nat), vs = [.str x, .int n] ∧ x.length ≤ 100000 ∧ n ≤ x.length ∧ Q (.int ((n + wLen (x.cps.toList.drop n) : Nat) : Int)) H
theorem ok_word_end (T : Tx P K mg) : OkF P w K mg base CX0 3 a_word_end ["text", "at"] spEnd := by
  have nd := sc_word_end.nd
  have F_in_word := ok_in_word (P := P) (w := w) (base := base) T
  refine T.f_word_end.ok (CX := CX0) sc_word_end (fun vs H Q E h => ?_) (fun cdv A outer s H vs Q E hr h => ?_)
  · obtain ⟨x, n, rfl, _⟩ := h
    rfl
  · obtain ⟨x, n, rfl, hx, hn, k⟩ := h
    refine ⟨_, PSs.nox (pss_cons (ps_while PassesOwn.never (PW.pt (pw_and (pt_cmpR op_lt (pv 1) (pe_callB call_len_str (by rfl) T.n_len PySem.boot_len (pa_cons (pv 0) pa_nil)) (nomark _)) (pw_and1 (pt_val (pe_call F_in_word (hr.mono (by decide)) rfl T.g_in_word T.k_in_word T.b_in_word .nil pass0 (pa_cons (pe_ix ix_str (pv 0) (pv 1) (fun _ _ => rfl)) pa_nil)) (fun _ => rfl))))) (pss_one (ps_set (i := 1) nd rfl (Or.inl rfl) (pe_op op_add (pv 1) pe_int))))
      (pss_one (ps_ret (pv 1)))), ?_⟩
    refine ⟨fun f σ H' => ∃ m : Nat, f = x.length - m ∧ σ = [some (.str x), some (.int (m : Int))] ∧ H' = H ∧ n ≤ m ∧ m ≤ x.length ∧ m + wLen (x.cps.toList.drop m) = n + wLen (x.cps.toList.drop n), ⟨_, n, rfl, rfl, rfl, Nat.le_refl _, hn, rfl⟩, ?_⟩
    rintro f σ H' ⟨m, rfl, rfl, rfl, h1, h2, h3⟩
    walk_at "rd"
    refine iteB (fun h => ?_) (fun h => ?_)
    · have hm : m < x.cps.toList.length := by
        have := of_decide_eq_true h
        have e : x.cps.toList.length = x.length := rfl
        omega
      have ed : x.cps.toList.drop m = x.cps.toList[m] :: x.cps.toList.drop (m + 1) := (List.drop_eq_getElem_cons hm)
      refine ⟨_, rfl, _, rfl, _, _, _, rfl, rfl, szl hx, atI_at hm, _, rfl, _, rfl, ?_⟩
      refine iteB (fun h4 => ?_) (fun h4 => ?_)
      · refine ⟨_, fun _ _ z => z, ?_⟩
        walk_at "rd"
        refine ⟨x.length - (m + 1), ?_, m + 1, rfl, rfl, rfl, by omega, hm, ?_⟩
        · have e : x.cps.toList.length = x.length := rfl
          omega
        · rw [← h3, ed]
          have e2 : wLen (x.cps.toList[m] :: x.cps.toList.drop (m + 1)) = wLen (x.cps.toList.drop (m + 1)) + 1 := by
            unfold wLen
            rw [List.takeWhile_cons, if_pos h4]
            rfl
          omega
      · refine ⟨_, rfl, ?_⟩
        have e2 : wLen (x.cps.toList[m] :: x.cps.toList.drop (m + 1)) = 0 := by
          unfold wLen
          rw [List.takeWhile_cons, if_neg (by rw [h4]; decide)]
          rfl
        rw [ed, e2] at h3
        rw [← h3] at k
        exact k
    · refine ⟨_, rfl, ?_⟩
      have e : x.cps.toList.length = x.length := rfl
      have hm : m = x.length := by
        have := of_decide_eq_false h
        omega
      have e2 : wLen (x.cps.toList.drop m) = 0 := by
        have := wLen_le (x.cps.toList.drop m)
        rw [List.length_drop] at this
        omega
      rw [e2] at h3
      rw [← h3] at k
      exact k
def spRW (p : Nat → Bool) (f : List Nat → Nat → Option Tk) : Sp := fun vs H Q E => ∃ (x : Str) (n : Nat), vs = [.str x, .int n] ∧ x.length ≤ 100000 ∧ n < x.length ∧ (∃ c r, x.cps.toList.drop n = c :: r ∧ p c = true) ∧ TkOut K H Q E n (f (x.cps.toList.drop n) n)
theorem res_eq : tl_RESERVED.map (He.Dv.v K) = reserved.map V.str := rfl
theorem cut_word {x : Str} {n : Nat} (h : n ≤ x.length) : cutS x (some (n : Int)) (some ((n + wLen (x.cps.toList.drop n) : Nat) : Int)) = wordOf (x.cps.toList.drop n) := by
  have e0 : x.cps.toList.length = x.length := rfl
  have h1 := wLen_le (x.cps.toList.drop n)
  rw [List.length_drop] at h1
  have e := cut_at (x := x) (n := n) (m := n + wLen (x.cps.toList.drop n)) (by omega) (by omega)
  rw [Nat.add_sub_cancel_left] at e
  refine TL.ext_tl ?_
  show (cutS _ _ _).cps.toList = _
  rw [e]
  exact takeWhile_take _
theorem ok_read_word (T : Tx P K mg) : OkF P w K mg base (L2.CX P w) 4 a_read_word ["text", "at"] (spRW (K := K) isLet tkWord) := by
  have nd := sc_read_word.nd
  have F_word_end := ok_word_end (P := P) (w := w) (base := base) T
  refine T.f_read_word.ok (CX := L2.CX P w) sc_read_word (fun vs H Q E h => ?_) (fun cdv A outer s H vs Q E hr h => ?_)
  · obtain ⟨x, n, rfl, _⟩ := h
    rfl
  · obtain ⟨x, n, rfl, hx, hn, _, k⟩ := h
    refine ⟨_, (pss_cons (ps_set (i := 2) nd rfl (Or.inl rfl) (pe_slice sl_str (pv 0) (po_some (pv 1)) (po_some (pe_call F_word_end (hr.mono (by decide)) rfl T.g_word_end T.k_word_end T.b_word_end .nil pass0 (pa_cons (pv 0) (pa_cons (pv 1) pa_nil))))))
      (pss_cons (ps_if (pt_cmpR op_in_seq (pv 2) (pe_gref T.g_RESERVED) (by with_unfolding_all rfl)) (pss_one (ps_ret (pe_tup (pa_cons pe_str (pa_cons (pv 2) (pa_cons (pv 1) pa_nil)))))) pss_nil)
      (pss_cons (ps_if (pt_cmpR op_gt (pe_callB call_len_str (by rfl) T.n_len PySem.boot_len (pa_cons (pv 2) pa_nil)) (pe_gint T.i_MAX_NAME) (nomark _)) (pss_one (ps_raiseSx rfl T.g_Malformed T.x_Malformed hr (by decide) strR_scal (takes_of rfl rfl rfl rfl) (by exact (pa_cons (pv 1) pa_nil)))) pss_nil)
      (pss_one (ps_ret (pe_tup (pa_cons pe_str (pa_cons (pv 2) (pa_cons (pv 1) pa_nil))))))))), ?_⟩
    walk_at "rd"
    refine ⟨_, _, rfl, hx, by omega, _, rfl, _, rfl, szl hx, ?_⟩
    rw [cut_word (by omega)]
    refine ⟨_, rfl, _, _, rfl, .inr (T.t_RESERVED _), rfl, ?_⟩
    refine ⟨by rw [res_eq]; exact flat_strs _, _, rfl, ?_⟩
    have e0 : inV (.str (wordOf (x.cps.toList.drop n))) (tl_RESERVED.map (He.Dv.v K)) = decide (wordOf (x.cps.toList.drop n) ∈ reserved) := by rw [res_eq, inV_strs]
    have ewl : (wordOf (x.cps.toList.drop n)).length ≤ x.length := by
      have h1 := wLen_le (x.cps.toList.drop n)
      rw [List.length_drop] at h1
      rw [wordOf_len]
      have e0 : x.cps.toList.length = x.length := rfl
      omega
    refine iteB (fun h => ?_) (fun h => ?_)
    · have h2 : wordOf (x.cps.toList.drop n) ∈ reserved := of_decide_eq_true (e0.symm.trans h)
      have e : tkWord (x.cps.toList.drop n) n = some ⟨"reserved", .str (wordOf (x.cps.toList.drop n)), n⟩ := by unfold tkWord; rw [if_pos h2]
      rw [e] at k
      walk_at "rd"
      refine ⟨szl (Nat.le_of_ble_eq_true rfl), fun p hp => ?_⟩
      exact k _ _ (Kp.new hp) (Dp.new (by walk_at "dp") rfl hp)
    · have h2 : ¬ wordOf (x.cps.toList.drop n) ∈ reserved := of_decide_eq_false (e0.symm.trans h)
      walk_at "rd"
      refine iteB (fun h => ?_) (fun h => ?_)
      · have h3 := of_decide_eq_true h
        rw [wordOf_len] at h3
        have e : tkWord (x.cps.toList.drop n) n = none := by unfold tkWord; rw [if_neg h2, if_pos (by omega)]
        rw [e] at k
        walk_at "rd"
        exact ⟨soInt (by omega), fun d hd => k.new hd⟩
      · have h3 := of_decide_eq_false h
        rw [wordOf_len] at h3
        have e : tkWord (x.cps.toList.drop n) n = some ⟨"name", .str (wordOf (x.cps.toList.drop n)), n⟩ := by unfold tkWord; rw [if_neg h2, if_neg (by omega)]
        rw [e] at k
        walk_at "rd"
        refine ⟨szl (Nat.le_of_ble_eq_true rfl), fun p hp => ?_⟩
        exact k _ _ (Kp.new hp) (Dp.new (by walk_at "dp") rfl hp)
theorem ok_read_number (T : Tx P K mg) : OkF P w K mg base (L2.CX P w) 4 a_read_number ["text", "at"] (spRW (K := K) isDig tkNum) := by
  have nd := sc_read_number.nd
  have F_word_end := ok_word_end (P := P) (w := w) (base := base) T
  have F_is_digit := ok_is_digit (P := P) (w := w) (base := base) T
  refine T.f_read_number.ok (CX := L2.CX P w) sc_read_number (fun vs H Q E h => ?_) (fun cdv A outer s H vs Q E hr h => ?_)
  · obtain ⟨x, n, rfl, _⟩ := h
    rfl
  · obtain ⟨x, n, rfl, hx, hn, ⟨c0, r0, hd0, hp0⟩, k⟩ := h
    refine ⟨_, (pss_cons (ps_set (i := 2) nd rfl (Or.inl rfl) (pe_slice sl_str (pv 0) (po_some (pv 1)) (po_some (pe_call F_word_end (hr.mono (by decide)) rfl T.g_word_end T.k_word_end T.b_word_end .nil pass0 (pa_cons (pv 0) (pa_cons (pv 1) pa_nil))))))
      (pss_cons (ps_if (PW.pt (pw_or (pt_cmpR op_gt (pe_callB call_len_str (by rfl) T.n_len PySem.boot_len (pa_cons (pv 2) pa_nil)) pe_int (nomark _)) (pw_or1 (pt_not (pt_val (pe_callB (cr_all rfl) (by rfl) T.n_all (by decide +kernel) (pa_cons (pe_lc (own := [("char", 4)]) (g := gName 4) (tt := tYes) rfl nd (pi_str (pv 2)) (blkOk_by (N := (["text", "at", "word", "number", "char"] : List Str)) (sc := defScope s_read_number) (by decide +kernel)) (fun _ _ _ _ _ => pg_name (i := 4) nd rfl (Or.inl rfl)) (fun _ _ _ _ _ => pts_nil) (fun _ _ _ _ _ => by exact (pe_call F_is_digit (hr.mono (by decide)) rfl T.g_is_digit T.k_is_digit T.b_is_digit .nil pass0 (pa_cons (pv 4) pa_nil)))) pa_nil)) (fun _ => rfl)))))) (pss_one (ps_raiseSx rfl T.g_Malformed T.x_Malformed hr (by decide) strR_scal (takes_of rfl rfl rfl rfl) (by exact (pa_cons (pv 1) pa_nil)))) pss_nil)
      (pss_cons (ps_set (i := 3) nd rfl (Or.inl rfl) (pe_callTy call_int_str (by rfl) T.n_int (by decide +kernel) (pa_cons (pv 2) pa_nil)))
      (pss_cons (ps_if (PW.pt (pw_or (pt_cmpR op_gt (pv 3) (pe_gint T.i_MAX_NUMBER) (nomark _)) (pw_or1 (PW.pt (pw_and (pt_cmpR op_eq (pe_ix ix_str (pv 2) pe_int (fun _ _ => rfl)) pe_str (nomark _)) (pw_and1 (pt_cmpR op_gt (pe_callB call_len_str (by rfl) T.n_len PySem.boot_len (pa_cons (pv 2) pa_nil)) pe_int (nomark _)))))))) (pss_one (ps_raiseSx rfl T.g_Malformed T.x_Malformed hr (by decide) strR_scal (takes_of rfl rfl rfl rfl) (by exact (pa_cons (pv 1) pa_nil)))) pss_nil)
      (pss_one (ps_ret (pe_tup (pa_cons pe_str (pa_cons (pv 3) (pa_cons (pv 1) pa_nil)))))))))), ?_⟩
    walk_at "rd"
    refine ⟨_, _, rfl, hx, by omega, _, rfl, _, rfl, szl hx, ?_⟩
    rw [cut_word (by omega)]
    have ewl : (wordOf (x.cps.toList.drop n)).length ≤ x.length := by
      have h1 := wLen_le (x.cps.toList.drop n)
      rw [List.length_drop] at h1
      rw [wordOf_len]
      have e0 : x.cps.toList.length = x.length := rfl
      omega
    have elw : (x.cps.toList.drop n).takeWhile inW = (wordOf (x.cps.toList.drop n)).cps.toList := rfl
    have ewn := wordOf_len (x.cps.toList.drop n)
    have bad : (5 < wLen (x.cps.toList.drop n) ∨ ((x.cps.toList.drop n).takeWhile inW).all isDig = false) → XEr K [] H E (.mal n) := fun z => by
      unfold tkNum at k
      rw [if_pos z] at k
      exact k
    generalize hW : wordOf (x.cps.toList.drop n) = W at *
    walk_at "rd"
    refine iteB (fun h => ?_) (fun h => ?_)
    · refine iteT ?_
      have h3 := of_decide_eq_true h
      have k' := bad (.inl (by omega))
      walk_at "rd"
      exact ⟨soInt (by omega), fun d hd => k'.new hd⟩
    · have h3 := of_decide_eq_false h
      walk_at "rd"
      intro D hD
      refine lc_str (x := W) (fun i H' => Kp [] H H' ∧ H' D = some (.lst (((W.cps.toList.take i).map isDig).map V.bl))) ⟨Kp.new hD, upd_same⟩ ?_ ?_
      · rintro i c H' hi ⟨k1, k2⟩
        have hil : i < W.cps.toList.length := (List.getElem?_eq_some_iff.mp hi).1
        have e0 : W.cps.toList.length = W.length := rfl
        refine ⟨rfl, ?_⟩
        walk_at "rd"
        refine ⟨_, k2, ?_, ?_, ?_⟩
        · rw [List.length_map, List.length_map, List.length_take]
          exact szt (by omega)
        · exact k1.mine hD
        · rw [upd_same, List.take_add_one, hi]
          simp
      · rintro H' ⟨k1, k2⟩
        refine ⟨_, _, rfl, SqL.of k2, _, rfl, ?_⟩
        have eall : (((W.cps.toList.take W.length).map isDig).all id) = ((x.cps.toList.drop n).takeWhile inW).all isDig := by
          rw [elw, List.all_map]
          have e0 : W.cps.toList.length = W.length := rfl
          rw [← e0, List.take_length]
          rfl
        refine iteB (fun h5 => ?_) (fun h5 => ?_)
        · have h6 : ((x.cps.toList.drop n).takeWhile inW).all isDig = false := by
            rw [← eall]
            simpa using h5
          have k' := (bad (.inr h6)).back k1
          walk_at "rd"
          exact ⟨soInt (by omega), fun d hd => k'.new hd⟩
        · have h6 : W.cps.toList.all isDig = true := by
            rw [← elw, ← eall]
            simpa using h5
          have hne : W.cps.toList ≠ [] := by
            rw [← elw, hd0, List.takeWhile_cons, if_pos (by unfold inW; rw [hp0, Bool.true_or, Bool.or_true])]
            simp
          have hint := PySem.intText_digits (x := W) (fun c hc => by
            have z := List.all_eq_true.mp h6 c hc
            unfold isDig at z
            simpa using z) hne (by omega)
          have ed : NumText.digitsVal W.cps.toList = decs ((x.cps.toList.drop n).takeWhile inW) := by rw [elw]; rfl
          rw [ed] at hint
          walk_at "rd"
          refine ⟨_, _, rfl, hint, by omega, ?_⟩
          walk_at "rd"
          have e0 : ¬ (5 < wLen (x.cps.toList.drop n) ∨ ((x.cps.toList.drop n).takeWhile inW).all isDig = false) := by
            rw [elw, h6]
            simp
            omega
          have bad2 : (65535 < decs ((x.cps.toList.drop n).takeWhile inW) ∨ ((x.cps.toList.drop n).head? = some 48 ∧ 1 < wLen (x.cps.toList.drop n))) → XEr K [] H E (.mal n) := fun z => by
            unfold tkNum at k
            rw [if_neg e0, if_pos z] at k
            exact k
          have good : ¬ (65535 < decs ((x.cps.toList.drop n).takeWhile inW) ∨ ((x.cps.toList.drop n).head? = some 48 ∧ 1 < wLen (x.cps.toList.drop n))) → DOut K [] H Q (Tk.enc ⟨"number", .int (decs ((x.cps.toList.drop n).takeWhile inW) : Nat), n⟩) := fun z => by
            unfold tkNum at k
            rw [if_neg e0, if_neg z] at k
            exact k
          have hw0 : W.cps.toList[0]? = some c0 := by
            rw [← elw, hd0, List.takeWhile_cons, if_pos (by unfold inW; rw [hp0, Bool.true_or, Bool.or_true])]
            rfl
          refine iteB (fun h7 => ?_) (fun h7 => ?_)
          · have h8 := of_decide_eq_true h7
            have k' := (bad2 (.inl (by omega))).back k1
            walk_at "rd"
            exact ⟨soInt (by omega), fun d hd => k'.new hd⟩
          · have h8 := of_decide_eq_false h7
            walk_at "rd"
            refine ⟨_, _, _, rfl, rfl, by rw [sizeLine_eq]; omega, atI_nat (j := 0) hw0, ?_⟩
            walk_at "rd"
            refine iteB (fun h9 => ?_) (fun h9 => ?_)
            · have h10 : c0 = 48 := of_decide_eq_true ((dec_one (z := "0") (d := 48) rfl).symm.trans h9)
              walk_at "rd"
              refine iteB (fun h11 => ?_) (fun h11 => ?_)
              · have h12 := of_decide_eq_true h11
                have k' := (bad2 (.inr ⟨by rw [hd0, h10]; rfl, by omega⟩)).back k1
                walk_at "rd"
                exact ⟨soInt (by omega), fun d hd => k'.new hd⟩
              · have h12 := of_decide_eq_false h11
                have k' := good (fun z => by
                  rcases z with z | ⟨_, z⟩
                  · omega
                  · omega)
                walk_at "rd"
                refine ⟨szl (Nat.le_of_ble_eq_true rfl), fun p hp => ?_⟩
                exact k' _ _ (k1.trans (Kp.new hp)) (Dp.new (by walk_at "dp") rfl hp)
            · have h10 : ¬ c0 = 48 := of_decide_eq_false ((dec_one (z := "0") (d := 48) rfl).symm.trans h9)
              have k' := good (fun z => by
                rcases z with z | ⟨z, _⟩
                · omega
                · rw [hd0] at z
                  exact h10 (Option.some.inj z))
              walk_at "rd"
              refine ⟨szl (Nat.le_of_ble_eq_true rfl), fun p hp => ?_⟩
              exact k' _ _ (k1.trans (Kp.new hp)) (Dp.new (by walk_at "dp") rfl hp)
theorem ok_read_sign (T : Tx P K mg) : OkF P w K mg base (L2.CX P w) 2 a_read_sign ["text", "at"] (spRW (K := K) (fun _ => true) tkSign) := by
  have nd := sc_read_sign.nd
  refine T.f_read_sign.ok (CX := L2.CX P w) sc_read_sign (fun vs H Q E h => ?_) (fun cdv A outer s H vs Q E hr h => ?_)
  · obtain ⟨x, n, rfl, _⟩ := h
    rfl
  · obtain ⟨x, n, rfl, hx, hn, _, k⟩ := h
    refine ⟨_, (pss_cons (ps_for (passes_of rfl) rfl (pi_tup (pe_gref T.g_SIGNS)) (pg_name (i := 2) nd rfl (Or.inl rfl)) (pss_one (ps_if (pt_val (pe_bm PySem.F.plainAttrs_str PySem.F.slot_str_startswith PySem.F.type_str_startswith mt_startswith3 (pv 0) (pa_cons (pv 2) (pa_cons (pv 1) pa_nil))) (fun _ => rfl)) (pss_one (ps_ret (pe_tup (pa_cons pe_str (pa_cons (pv 2) (pa_cons (pv 1) pa_nil)))))) pss_nil)))
      (pss_one (ps_raiseSx rfl T.g_Malformed T.x_Malformed hr (by decide) strR_scal (takes_of rfl rfl rfl rfl) (by exact (pa_cons (pv 1) pa_nil))))), ?_⟩
    walk_at "rd"
    refine ⟨⟨_, T.t_SIGNS _⟩, for_tup (xs := sgns.map V.str) (fun i σ H' => ∃ v, σ = [some (.str x), some (.int (n : Int)), v] ∧ H' = H ∧ ∀ j, j < i → ∀ z, sgns[j]? = some z → ((x.cps.toList.drop n).take z.length == z.cps.toList) = false) ?_ ?_ ?_ ?_⟩
    · exact ⟨none, rfl, rfl, fun j hj => absurd hj (Nat.not_lt_zero _)⟩
    · intro i σ H' _ _
      exact T.t_SIGNS _
    · rintro i y σ H' hi ⟨v, rfl, rfl, hb⟩
      rw [List.getElem?_map] at hi
      cases e : sgns[i]? with
      | none => rw [e] at hi; cases hi
      | some z =>
        rw [e] at hi
        obtain rfl := (Option.some.inj hi).symm
        refine ⟨_, rfl, rfl, _, rfl, _, rfl, _, _, _, rfl, rfl, _, rfl, ?_⟩
        rw [sw3 (by omega)]
        refine iteB (fun h => ?_) (fun h => ?_)
        · walk_at "rd"
          refine ⟨szl (Nat.le_of_ble_eq_true rfl), fun p hp => ?_⟩
          have es : sgn (x.cps.toList.drop n) = some z := by
            unfold sgn
            rw [List.find?_eq_some_iff_getElem]
            obtain ⟨hi2, ez⟩ := List.getElem?_eq_some_iff.mp e
            refine ⟨h, i, hi2, ez, fun j hj => ?_⟩
            rw [hb j hj _ (List.getElem?_eq_getElem (by omega))]
            rfl
          unfold tkSign at k
          rw [es] at k
          exact k _ _ (Kp.new hp) (Dp.new (by walk_at "dp") rfl hp)
        · refine ⟨_, rfl, rfl, fun j hj z' hz' => ?_⟩
          by_cases hji : j = i
          · subst hji
            rw [e] at hz'
            rw [← Option.some.inj hz']
            exact h
          · exact hb j (by omega) z' hz'
    · rintro σ H' ⟨v, rfl, rfl, hb⟩
      have es : sgn (x.cps.toList.drop n) = none := by
        unfold sgn
        rw [List.find?_eq_none]
        intro z hz
        obtain ⟨j, hj, ez⟩ := List.mem_iff_getElem.mp hz
        rw [hb j (by rw [List.length_map]; exact hj) z (by rw [List.getElem?_eq_getElem hj, ez])]
        simp
      unfold tkSign at k
      rw [es] at k
      refine ⟨_, rfl, _, rfl, soInt (by omega), fun d hd => XEr.new k hd⟩
end
end K14


set_option Elab.async false
set_option linter.all false
set_option maxRecDepth 100000
set_option maxHeartbeats 4000000
namespace K14
open PySem PySem.Spec PyProof.Rows L2 He Hz Cm Lx
local macro_rules | `(tactic| walk_at "rd") => `(tactic| repeat (first | (refine ⟨_, rfl, ?_⟩) | (refine ⟨_, _, rfl, rfl, ?_⟩) | (refine ⟨rfl, ?_⟩) | (refine ⟨szl (by omega), ?_⟩)))
local macro_rules | `(tactic| walk_at "dp") => `(tactic| (repeat' (first | exact DpAll.nil | apply DpAll.cons | exact Dp.str _ | exact Dp.int _ | exact Dp.non | exact Dp.bl _ | assumption)))
section
variable {P : Program} {w : World} {K : PySem.W.Frag} {mg : Str → Option Value} {base : Heap}
def LOut (K : PySem.W.Frag) (H : Hp) (Q : VK) (ds : List PyData) : Prop := ∀ p xs H', H p = none → Kp [] H H' → H' p = some (.lst xs) → DpAll K H' xs ds → Q (.ref p) H'
def spToks : Sp := fun vs H Q E => ∃ x : Str, vs = [.str x] ∧ x.length ≤ 400000 ∧ match lex x.cps.toList with
  | .error e => XEr K [] H E e
  | .ok ts => LOut K H Q (ts.map Tk.enc)
theorem sgn_len {r : List Nat} {z : Str} (h : sgn r = some z) : 1 ≤ z.length ∧ z.length ≤ 2 ∧ z.length ≤ r.length := by
  have h1 := List.mem_of_find?_eq_some h
  have h2 := List.find?_some h
  have h3 := congrArg List.length (beq_iff_eq.mp h2)
  rw [List.length_take] at h3
  have e1 : z.cps.toList.length = z.length := rfl
  have h4 : ∀ y ∈ sgns, 1 ≤ y.length ∧ y.length ≤ 2 := by decide +kernel
  obtain ⟨h5, h6⟩ := h4 z h1
  exact ⟨h5, h6, by omega⟩
theorem wLen_pos {c : Nat} {r : List Nat} (h : inW c = true) : 1 ≤ wLen (c :: r) := by
  unfold wLen
  rw [List.takeWhile_cons, if_pos h]
  simp
theorem tk_noL {r : List Nat} {n : Nat} {t : Tk} {k : Nat} (h : tok1 r n = some (t, k)) : noL t.enc = true ∧ 1 ≤ k := by
  unfold tok1 at h
  cases r with
  | nil => cases h
  | cons c r =>
    dsimp only at h
    split at h
    · rename_i hl
      rw [Option.map_eq_some_iff] at h
      obtain ⟨t', ht, e⟩ := h
      cases e
      refine ⟨?_, wLen_pos (by unfold inW; rw [hl]; rfl)⟩
      unfold tkWord at ht
      split at ht
      · cases ht; rfl
      · split at ht
        · cases ht
        · cases ht; rfl
    · split at h
      · rename_i hl
        rw [Option.map_eq_some_iff] at h
        obtain ⟨t', ht, e⟩ := h
        cases e
        refine ⟨?_, wLen_pos (by unfold inW; rw [hl]; simp)⟩
        unfold tkNum at ht
        split at ht
        · cases ht
        · split at ht
          · cases ht
          · cases ht; rfl
      · rw [Option.map_eq_some_iff] at h
        obtain ⟨z, ht, e⟩ := h
        cases e
        exact ⟨rfl, (sgn_len ht).1⟩
theorem noLs_map {α : Type} {f : α → PyData} : ∀ {l : List α}, l.all (fun t => noL (f t)) = true → noLs (l.map f) = true
  | [], _ => rfl
  | a :: l, h => by
    rw [List.all_cons, Bool.and_eq_true] at h
    show (noL (f a) && noLs (l.map f)) = true
    rw [h.1, noLs_map h.2]
    rfl
def lexRest (m : Nat) (r : List Nat) (n : Nat) (done : List Tk) : Except Nat (List Tk) := match lexF m r n with
  | .error e => .error e
  | .ok ts => .ok (done ++ ts)
theorem ok_tokens (T : Tx P K mg) : OkF P w K mg base (L2.CX P w) 5 a_tokens ["text"] (spToks (K := K)) := by
  have nd := sc_tokens.nd
  have F_is_letter := ok_is_letter (P := P) (w := w) (base := base) T
  have F_is_digit := ok_is_digit (P := P) (w := w) (base := base) T
  have F_word_end := ok_word_end (P := P) (w := w) (base := base) T
  have F_read_word := ok_read_word (P := P) (w := w) (base := base) T
  have F_read_number := ok_read_number (P := P) (w := w) (base := base) T
  have F_read_sign := ok_read_sign (P := P) (w := w) (base := base) T
  refine T.f_tokens.ok (CX := L2.CX P w) sc_tokens (fun vs H Q E h => ?_) (fun cdv A outer s H vs Q E hr h => ?_)
  · obtain ⟨x, rfl, _⟩ := h
    rfl
  · obtain ⟨x, rfl, hx, k⟩ := h
    refine ⟨_, (pss_cons (ps_if (pt_cmpR op_gt (pe_callB call_len_str (by rfl) T.n_len PySem.boot_len (pa_cons (pv 0) pa_nil)) (pe_gint T.i_MAX_TEXT) (nomark _)) (pss_one (ps_raiseSx rfl T.g_Oversized T.x_Oversized hr (by decide) strR_scal (takes_of rfl rfl rfl rfl) (by exact (pa_cons pe_str pa_nil)))) pss_nil)
      (pss_cons (ps_set (i := 1) nd rfl (Or.inl rfl) (pe_lst pa_nil))
      (pss_cons (ps_set (i := 2) nd rfl (Or.inl rfl) pe_int)
      (pss_cons (ps_while (passes_of rfl) (pt_cmpR op_lt (pv 2) (pe_callB call_len_str (by rfl) T.n_len PySem.boot_len (pa_cons (pv 0) pa_nil)) (nomark _)) (pss_one (ps_if (PW.pt (pw_or (pt_cmpR op_eq (pe_ix ix_str (pv 0) (pv 2) (fun _ _ => rfl)) pe_str (nomark _)) (pw_or1 (pt_cmpR op_eq (pe_ix ix_str (pv 0) (pv 2) (fun _ _ => rfl)) pe_str (nomark _))))) (pss_one (ps_set (i := 2) nd rfl (Or.inl rfl) (pe_op op_add (pv 2) pe_int))) (pss_one (ps_if (pt_val (pe_call F_is_letter (hr.mono (by decide)) rfl T.g_is_letter T.k_is_letter T.b_is_letter .nil pass0 (pa_cons (pe_ix ix_str (pv 0) (pv 2) (fun _ _ => rfl)) pa_nil)) (fun _ => rfl)) (pss_cons (ps_expr (pe_bm PySem.F.plainAttrs_list PySem.F.slot_list_append PySem.F.type_list_append mt_append (pv 1) (pa_cons (pe_call F_read_word (hr.mono (by decide)) rfl T.g_read_word T.k_read_word T.b_read_word .nil (passes_call (takes_of rfl rfl rfl rfl) fun _ _ _ _ h => h) (pa_cons (pv 0) (pa_cons (pv 2) pa_nil))) pa_nil)))
      (pss_one (ps_set (i := 2) nd rfl (Or.inl rfl) (pe_call F_word_end (hr.mono (by decide)) rfl T.g_word_end T.k_word_end T.b_word_end .nil pass0 (pa_cons (pv 0) (pa_cons (pv 2) pa_nil)))))) (pss_one (ps_if (pt_val (pe_call F_is_digit (hr.mono (by decide)) rfl T.g_is_digit T.k_is_digit T.b_is_digit .nil pass0 (pa_cons (pe_ix ix_str (pv 0) (pv 2) (fun _ _ => rfl)) pa_nil)) (fun _ => rfl)) (pss_cons (ps_expr (pe_bm PySem.F.plainAttrs_list PySem.F.slot_list_append PySem.F.type_list_append mt_append (pv 1) (pa_cons (pe_call F_read_number (hr.mono (by decide)) rfl T.g_read_number T.k_read_number T.b_read_number .nil (passes_call (takes_of rfl rfl rfl rfl) fun _ _ _ _ h => h) (pa_cons (pv 0) (pa_cons (pv 2) pa_nil))) pa_nil)))
      (pss_one (ps_set (i := 2) nd rfl (Or.inl rfl) (pe_call F_word_end (hr.mono (by decide)) rfl T.g_word_end T.k_word_end T.b_word_end .nil pass0 (pa_cons (pv 0) (pa_cons (pv 2) pa_nil)))))) (pss_cons (ps_expr (pe_bm PySem.F.plainAttrs_list PySem.F.slot_list_append PySem.F.type_list_append mt_append (pv 1) (pa_cons (pe_call F_read_sign (hr.mono (by decide)) rfl T.g_read_sign T.k_read_sign T.b_read_sign .nil (passes_call (takes_of rfl rfl rfl rfl) fun _ _ _ _ h => h) (pa_cons (pv 0) (pa_cons (pv 2) pa_nil))) pa_nil)))
      (pss_one (ps_set (i := 2) nd rfl (Or.inl rfl) (pe_op op_add (pv 2) (pe_callB call_len_str (by rfl) T.n_len PySem.boot_len (pa_cons (pe_ix ix_tup (pe_ix ix_list (pv 1) (pe_un un_neg pe_int) (fun _ _ => rfl)) pe_int (fun _ _ => rfl)) pa_nil)))))))))))))
      (pss_one (ps_ret (pv 1))))))), ?_⟩
    have e0 : x.cps.toList.length = x.length := rfl
    unfold lex at k
    walk_at "rd"
    refine ⟨(show x.length ≤ sizeLine by rw [sizeLine_eq]; omega), ?_⟩
    walk_at "rd"
    refine iteB (fun h => ?_) (fun h => ?_)
    · have h1 := of_decide_eq_true h
      rw [if_pos (by omega)] at k
      walk_at "rd"
      exact ⟨trivial, fun d hd => XEr.new k hd⟩
    · have h1 := of_decide_eq_false h
      have hx : x.length ≤ 100000 := by omega
      rw [if_neg (by omega)] at k
      walk_at "rd"
      refine ⟨Nat.zero_le _, fun p hp => ?_⟩
      refine ⟨fun f σ H' => ∃ (m at_ : Nat) (done : List Tk) (xs : List V), f = x.length - at_ ∧ σ = [some (.str x), some (.ref p), some (.int (at_ : Int))] ∧ Kp [] H H' ∧ H' p = some (.lst xs) ∧ DpAll K H' xs (done.map Tk.enc) ∧ done.all (fun t => noL t.enc) = true ∧
        at_ ≤ x.length ∧ done.length ≤ at_ ∧ x.length - at_ ≤ m ∧ lexF x.cps.toList.length x.cps.toList 0 = lexRest m (x.cps.toList.drop at_) at_ done, ⟨_, x.length, 0, [], [], rfl, rfl, Kp.new hp, upd_same, .nil, rfl, Nat.zero_le _, Nat.le_refl _, by omega, ?_⟩, ?_⟩
      · unfold lexRest
        rw [List.drop_zero, e0]
        cases lexF x.length x.cps.toList 0 <;> rfl
      rintro f σ H' ⟨m, at_, done, xs, rfl, rfl, k1, hp1, hd1, hn1, ha, hdl, hm, hlex⟩
      have hxs : xs.length = done.length := by rw [DpAll.length hd1, List.length_map]
      walk_at "rd"
      refine iteB (fun h => ?_) (fun h => ?_)
      · have hlt : at_ < x.cps.toList.length := by
          have := of_decide_eq_true h
          omega
        have ed : x.cps.toList.drop at_ = x.cps.toList[at_] :: x.cps.toList.drop (at_ + 1) := (List.drop_eq_getElem_cons hlt)
        obtain ⟨m, rfl⟩ : ∃ m', m = m' + 1 := ⟨m - 1, by omega⟩
        generalize hc : x.cps.toList[at_] = c at ed
        have hat : atI x.cps.toList (at_ : Int) = some c := by rw [atI_at hlt, hc]
        refine ⟨_, fun _ _ z => z, ?_⟩
        have hms : ∀ j, 1 ≤ j → at_ + j ≤ x.length → x.length - (at_ + j) < x.length - at_ := fun j h1 h2 => by omega
        -- behind a token
        have turn : ∀ (t : Tk) (j : Nat) (v : V) (H2 : Hp), tok1 (c :: x.cps.toList.drop (at_ + 1)) at_ = some (t, j) → ¬ (c = 32 ∨ c = 10) → at_ + j ≤ x.length → Kp [] H' H2 → Dp K H2 v t.enc →
            ∃ (m2 at2 : Nat) (done2 : List Tk) (xs2 : List V), x.length - (at_ + j) = x.length - at2 ∧ [some (V.str x), some (.ref p), some (.int ((at_ + j : Nat) : Int))] = [some (.str x), some (.ref p), some (.int (at2 : Int))] ∧ Kp [] H (upd H2 p (.lst (xs ++ [v]))) ∧ (upd H2 p (.lst (xs ++ [v]))) p = some (.lst xs2) ∧ DpAll K (upd H2 p (.lst (xs ++ [v]))) xs2 (done2.map Tk.enc) ∧ done2.all (fun t => noL t.enc) = true ∧
              at2 ≤ x.length ∧ done2.length ≤ at2 ∧ x.length - at2 ≤ m2 ∧ lexF x.cps.toList.length x.cps.toList 0 = lexRest m2 (x.cps.toList.drop at2) at2 done2 := fun t j v H2 htk hsp hj k2 hv => by
          obtain ⟨nt, hj1⟩ := tk_noL htk
          have kk : Kp [p] H2 (upd H2 p (.lst (xs ++ [v]))) := Kp.put (k2.keep _ _ (by simp) hp1) nt_lst (by simp)
          refine ⟨m, at_ + j, done ++ [t], xs ++ [v], rfl, rfl, (k1.trans k2).mine hp, upd_same, ?_, ?_, hj, ?_, by omega, ?_⟩
          · rw [List.map_append]
            exact DpAll.snoc (Dp.kps kk _ _ (noLs_map hn1) (Dp.kps k2 _ _ (noLs_map hn1) hd1)) (Dp.kp kk _ _ nt hv)
          · rw [List.all_append, hn1]
            simp [nt]
          · rw [List.length_append, List.length_singleton]
            omega
          · rw [hlex]
            unfold lexRest
            rw [ed]
            have e5 : lexF (m + 1) (c :: x.cps.toList.drop (at_ + 1)) at_ = (match lexF m ((c :: x.cps.toList.drop (at_ + 1)).drop j) (at_ + j) with
              | .error e => .error e
              | .ok ts => .ok (t :: ts)) := by
              show (if c = 32 ∨ c = 10 then _ else _) = _
              rw [if_neg hsp, htk] <;> rfl
            rw [e5, ← ed, List.drop_drop]
            cases lexF m (x.cps.toList.drop (at_ + j)) (at_ + j) with
            | error e => rfl
            | ok ts => simp
        have fail : tok1 (c :: x.cps.toList.drop (at_ + 1)) at_ = none → ¬ (c = 32 ∨ c = 10) → XEr K [] H' E (.mal at_) := fun htk hsp => by
          have e5 : lexF (m + 1) (c :: x.cps.toList.drop (at_ + 1)) at_ = .error at_ := by
            show (if c = 32 ∨ c = 10 then _ else _) = _
            rw [if_neg hsp, htk]
          rw [hlex] at k
          unfold lexRest at k
          rw [ed, e5] at k
          exact XEr.back k k1
        have blank : (c = 32 ∨ c = 10) → ∃ (m2 at2 : Nat) (done2 : List Tk) (xs2 : List V), x.length - (at_ + 1) = x.length - at2 ∧ [some (V.str x), some (.ref p), some (.int ((at_ : Int) + 1))] = [some (.str x), some (.ref p), some (.int (at2 : Int))] ∧ Kp [] H H' ∧ H' p = some (.lst xs2) ∧ DpAll K H' xs2 (done2.map Tk.enc) ∧ done2.all (fun t => noL t.enc) = true ∧
            at2 ≤ x.length ∧ done2.length ≤ at2 ∧ x.length - at2 ≤ m2 ∧ lexF x.cps.toList.length x.cps.toList 0 = lexRest m2 (x.cps.toList.drop at2) at2 done2 := fun hb => by
          refine ⟨m, at_ + 1, done, xs, rfl, rfl, k1, hp1, hd1, hn1, by omega, by omega, by omega, ?_⟩
          rw [hlex]
          unfold lexRest
          rw [ed]
          have e5 : lexF (m + 1) (c :: x.cps.toList.drop (at_ + 1)) at_ = lexF m (x.cps.toList.drop (at_ + 1)) (at_ + 1) := by
            show (if c = 32 ∨ c = 10 then _ else _) = _
            rw [if_pos hb]
          rw [e5]
        have wl : wLen (x.cps.toList.drop at_) = wLen (c :: x.cps.toList.drop (at_ + 1)) := by rw [ed]
        have wb : at_ + wLen (x.cps.toList.drop at_) ≤ x.length := by
          have := wLen_le (x.cps.toList.drop at_)
          rw [List.length_drop] at this
          omega
        walk_at "rd"
        refine ⟨_, _, _, rfl, rfl, szl hx, hat, ?_⟩
        walk_at "rd"
        refine iteB (fun hb => ?_) (fun hb => ?_)
        · have hb' : c = 32 := of_decide_eq_true ((dec_one (z := " ") (d := 32) rfl).symm.trans hb)
          walk_at "rd"
          exact ⟨x.length - (at_ + 1), by omega, blank (.inl hb')⟩
        have hb' : ¬ c = 32 := of_decide_eq_false ((dec_one (z := " ") (d := 32) rfl).symm.trans hb)
        walk_at "rd"
        refine ⟨_, _, _, rfl, rfl, szl hx, hat, ?_⟩
        walk_at "rd"
        refine iteB (fun hb2 => ?_) (fun hb2 => ?_)
        · have hb2' : c = 10 := of_decide_eq_true ((dec_one (z := "\n") (d := 10) rfl).symm.trans hb2)
          walk_at "rd"
          exact ⟨x.length - (at_ + 1), by omega, blank (.inr hb2')⟩
        have hb2' : ¬ c = 10 := of_decide_eq_false ((dec_one (z := "\n") (d := 10) rfl).symm.trans hb2)
        have hsp : ¬ (c = 32 ∨ c = 10) := fun z => z.elim hb' hb2'
        walk_at "rd"
        refine ⟨_, _, _, rfl, rfl, szl hx, hat, _, rfl, _, rfl, ?_⟩
        refine iteB (fun hl => ?_) (fun hl => ?_)
        · -- a word
          refine ⟨_, rfl, .inl ⟨rfl, _, SqL.of hp1⟩, _, rfl, _, rfl, _, _, rfl, hx, by omega, ⟨c, _, ed, hl⟩, ?_⟩
          rw [ed]
          cases htw : tkWord (c :: x.cps.toList.drop (at_ + 1)) at_ with
          | none => exact fail (by unfold tok1; simp [hl, htw]) hsp
          | some t =>
            intro v H2 k2 hv
            refine ⟨_, _, _, rfl, rfl, k2.keep _ _ (by simp) hp1, szt (by omega), ?_⟩
            walk_at "rd"
            refine ⟨_, _, rfl, hx, by omega, ?_⟩
            rw [wl]
            have wp : 1 ≤ wLen (c :: x.cps.toList.drop (at_ + 1)) := wLen_pos (by unfold inW; simp [*])
            exact ⟨x.length - (at_ + wLen (c :: x.cps.toList.drop (at_ + 1))), hms _ wp (by rw [← wl]; exact wb), turn t _ v H2 (by unfold tok1; simp [hl, htw]) hsp (by first | exact z4 | (rw [← wl]; exact wb)) k2 hv⟩
        walk_at "rd"
        refine ⟨_, _, _, rfl, rfl, szl hx, hat, _, rfl, _, rfl, ?_⟩
        refine iteB (fun hdg => ?_) (fun hdg => ?_)
        · -- a number
          refine ⟨_, rfl, .inl ⟨rfl, _, SqL.of hp1⟩, _, rfl, _, rfl, _, _, rfl, hx, by omega, ⟨c, _, ed, hdg⟩, ?_⟩
          rw [ed]
          cases htw : tkNum (c :: x.cps.toList.drop (at_ + 1)) at_ with
          | none => exact fail (by unfold tok1; simp [hl, hdg, htw]) hsp
          | some t =>
            intro v H2 k2 hv
            refine ⟨_, _, _, rfl, rfl, k2.keep _ _ (by simp) hp1, szt (by omega), ?_⟩
            walk_at "rd"
            refine ⟨_, _, rfl, hx, by omega, ?_⟩
            rw [wl]
            have wp : 1 ≤ wLen (c :: x.cps.toList.drop (at_ + 1)) := wLen_pos (by unfold inW; simp [*])
            exact ⟨x.length - (at_ + wLen (c :: x.cps.toList.drop (at_ + 1))), hms _ wp (by rw [← wl]; exact wb), turn t _ v H2 (by unfold tok1; simp [hl, hdg, htw]) hsp (by first | exact z4 | (rw [← wl]; exact wb)) k2 hv⟩
        · -- a sign
          refine ⟨_, rfl, .inl ⟨rfl, _, SqL.of hp1⟩, _, rfl, _, rfl, _, _, rfl, hx, by omega, ⟨c, _, ed, rfl⟩, ?_⟩
          rw [ed]
          cases hts : sgn (c :: x.cps.toList.drop (at_ + 1)) with
          | none =>
            unfold tkSign
            rw [hts]
            exact fail (by unfold tok1; simp [hl, hdg, hts]) hsp
          | some z =>
            unfold tkSign
            rw [hts]
            intro v H2 k2 hv
            refine ⟨_, _, _, rfl, rfl, k2.keep _ _ (by simp) hp1, szt (by omega), ?_⟩
            walk_at "rd"
            obtain ⟨q, vs, rfl, hsq, hall⟩ := Dp.tupOf hv
            obtain ⟨v1, hv1, hz1⟩ := DpAll.get hall (i := 1) (d := .str z) rfl
            obtain rfl := Dp.strOf hz1
            obtain ⟨z1, z2, z3⟩ := sgn_len hts
            have kk : Kp [p] H2 (upd H2 p (.lst (xs ++ [.ref q]))) := Kp.put (k2.keep _ _ (by simp) hp1) nt_lst (by simp)
            have z4 : at_ + z.length ≤ x.length := by
              rw [List.length_cons, List.length_drop] at z3
              omega
            refine ⟨_, _, _, _, rfl, rfl, SqL.of upd_same, atI_last _ _, ?_⟩
            refine ⟨_, _, _, _, rfl, rfl, kk.sqt hsq, atI_nat (j := 1) hv1, ?_⟩
            refine ⟨_, rfl, szl (by omega), ?_⟩
            walk_at "rd"
            exact ⟨x.length - (at_ + z.length), hms _ z1 z4, turn ⟨"sign", .str z, at_⟩ _ _ H2 (by unfold tok1; simp [hl, hdg, hts]) hsp (by first | exact z4 | (rw [← wl]; exact wb)) k2 hv⟩
      · have h2 := of_decide_eq_false h
        have ea : at_ = x.length := by omega
        subst ea
        have ed : x.cps.toList.drop x.length = [] := by rw [← e0, List.drop_length]
        have el : lexF x.cps.toList.length x.cps.toList 0 = .ok done := by
          rw [hlex, ed]
          unfold lexRest
          cases m <;> simp [lexF]
        rw [el] at k
        walk_at "rd"
        exact k _ _ _ hp k1 hp1 hd1
end
end K14


set_option Elab.async false
set_option linter.all false
set_option maxRecDepth 100000
set_option maxHeartbeats 4000000
namespace K14
open PySem PySem.Spec PyProof.Rows L2 He Hz Cm Lx Px
local macro_rules | `(tactic| walk_at "rd") => `(tactic| repeat (first | (refine ⟨_, rfl, ?_⟩) | (refine ⟨_, _, rfl, rfl, ?_⟩) | (refine ⟨rfl, ?_⟩) | (refine ⟨szl (by omega), ?_⟩) | (refine ⟨_, _, _, _, _, rfl, (by assumption), (by assumption), (by assumption), (by rfl), ?_⟩) | (refine ⟨_, _, rfl, Or.inl (by assumption), ?_⟩)))
local macro_rules | `(tactic| walk_at "dp") => `(tactic| (repeat' (first | exact DpAll.nil | apply DpAll.cons | exact Dp.str _ | exact Dp.int _ | exact Dp.non | exact Dp.bl _ | assumption)))
/-! ### the reader's object -/
def rf (l : Addr) (n e num : Int) : List (Str × V) := [("_tokens", .ref l), ("_next", .int n), ("_end", .int e), ("_number", .int num)]
theorem rf_next (l : Addr) (n e num m : Int) : putF "_next" (.int m) (rf l n e num) = rf l m e num := by
  unfold rf
  simp only [putF, if_neg (show ¬ (("_tokens" : Str) = "_next") by decide +kernel), if_pos (show (("_next" : Str) = "_next") from rfl), if_true]
theorem rf_number (l : Addr) (n e num m : Int) : putF "_number" (.int m) (rf l n e num) = rf l n e m := by
  unfold rf
  simp only [putF, if_neg (show ¬ (("_tokens" : Str) = "_number") by decide +kernel), if_neg (show ¬ (("_next" : Str) = "_number") by decide +kernel), if_neg (show ¬ (("_end" : Str) = "_number") by decide +kernel), if_pos (show (("_number" : Str) = "_number") from rfl), if_true]
structure TkOk (t : Tk) : Prop where
  nl : noL t.val = true
  sh : SeqAt.shaped (.tuple [.str t.kind, t.val]) = true
  nm : t.kind = "name" → ∃ x, t.val = .str x
  nu : t.kind = "number" → ∃ n : Nat, t.val = .int n
  pl : t.at_ ≤ 200000
theorem TkOk.enc {t : Tk} (h : TkOk t) : noL t.enc = true := by
  show (true && (noL t.val && (true && true))) = true
  rw [h.nl]
  rfl
def RAt (K : PySem.W.Frag) (H : Hp) (r : Addr) (ts : Addr × List Tk) (e : Nat) (rem : List Tk) (num : Nat) : Prop :=
  ∃ (dx : Addr) (n : Nat) (xs : List V), H r = some (.ins (ga K "Reader") dx (rf ts.1 n e num)) ∧ H ts.1 = some (.lst xs) ∧ ts.1 ≠ r ∧ DpAll K H xs (ts.2.map Tk.enc) ∧ n ≤ ts.2.length ∧ rem = ts.2.drop n ∧ ts.2.length ≤ 50000 ∧ e ≤ 200000 ∧ ∀ t ∈ ts.2, TkOk t
section
variable {P : Program} {w : World} {K : PySem.W.Frag} {mg : Str → Option Value} {base : Heap} {H H' : Hp} {r : Addr} {ts : Addr × List Tk} {rem : List Tk} {e num : Nat}
theorem tks_noL {ts : List Tk} (h : ∀ t ∈ ts, TkOk t) : noLs (ts.map Tk.enc) = true := noLs_map (List.all_eq_true.mpr fun t m => (h t m).enc)
theorem RAt.kpM {M : List Addr} (h : RAt K H r ts e rem num) (k : Kp M H H') (m1 : r ∉ M) (m2 : ts.1 ∉ M) : RAt K H' r ts e rem num := by
  obtain ⟨dx, n, xs, h1, h2, h3, h4, h5, h6, h7, h8, h9⟩ := h
  exact ⟨dx, n, xs, k.keep _ _ m1 h1, k.keep _ _ m2 h2, h3, Dp.kps k _ _ (tks_noL h9) h4, h5, h6, h7, h8, h9⟩
theorem RAt.kp (h : RAt K H r ts e rem num) (k : Kp [] H H') : RAt K H' r ts e rem num := h.kpM k (by simp) (by simp)
/-- what is new is not the reader's -/
theorem RAt.old {p : Addr} (h : RAt K H r ts e rem num) (hp : H p = none) : p ≠ r ∧ p ≠ ts.1 := by
  obtain ⟨dx, n, xs, h1, h2, _⟩ := h
  exact ⟨fun z => (by rw [z, h1] at hp; cases hp), fun z => (by rw [z, h2] at hp; cases hp)⟩
theorem RAt.mine {p : Addr} {u o : HO} (h : RAt K H r ts e rem num) (n : p ≠ r ∧ p ≠ ts.1) (hp : H p = some u) (nt : NT u) : RAt K (upd H p o) r ts e rem num :=
  h.kpM (M := [p]) (Kp.put hp nt (by simp)) (by simpa using n.1.symm) (by simpa using n.2.symm)
theorem RAt.mem (h : RAt K H r ts e rem num) : ∀ t ∈ rem, TkOk t := by
  obtain ⟨dx, n, xs, h1, h2, h3, h4, h5, h6, h7, h8, h9⟩ := h
  subst h6
  exact fun t m => h9 t (List.mem_of_mem_drop m)
theorem RAt.plc_le (h : RAt K H r ts e rem num) : plc e rem ≤ 200000 := by
  have hm := h.mem
  obtain ⟨dx, n, xs, h1, h2, h3, h4, h5, h6, h7, h8, h9⟩ := h
  cases rem with
  | nil => exact h8
  | cons t r => exact (hm t List.mem_cons_self).pl
/-- the reader stands at its next token, the number is another -/
theorem RAt.put (h : RAt K H r ts e rem num) {dx l : Addr} {n : Nat} (hH : H r = some (.ins (ga K "Reader") dx (rf l n e num))) {n' num' : Nat} (hn : n' ≤ ts.2.length) : Kp [r] H (upd H r (.ins (ga K "Reader") dx (rf l n' e num'))) ∧ RAt K (upd H r (.ins (ga K "Reader") dx (rf l n' e num'))) r ts e (ts.2.drop n') num' := by
  obtain ⟨dx', n2, xs, h1, h2, h3, h4, h5, h6, h7, h8, h9⟩ := h
  have kk : Kp [r] H (upd H r (.ins (ga K "Reader") dx (rf l n' e num'))) := Kp.put hH nt_ins (by simp)
  rw [hH] at h1
  have e1 := Option.some.inj h1
  injection e1 with _ _ e2
  have e3 : l = ts.1 := by
    have q := congrArg (fun z : List (Str × V) => z.head?) e2
    injection q with q
    injection q with q q2
    injection q2
  subst e3
  exact ⟨kk, dx, n', xs, upd_same, kk.keep _ _ (by simpa using h3) h2, h3, Dp.kps kk _ _ (tks_noL h9) h4, hn, rfl, h7, h8, h9⟩
/-! ### promises of the reader's methods -/
/-- a read: its value, what is left -/
def ROut (K : PySem.W.Frag) (H : Hp) (Q : VK) (E : XK) (r : Addr) (ts : Addr × List Tk) (e : Nat) : Except Er (PyData × List Tk × Nat) → Prop
  | .error x => XEr K [r] H E x
  | .ok (d, rem, num) => ∀ v H', Kp [r] H H' → RAt K H' r ts e rem num → Dp K H' v d → Q v H'
def spPlace : Sp := fun vs H Q _ => ∃ r ts e rem num, vs = [.ref r] ∧ RAt K H r ts e rem num ∧ Q (.int (plc e rem : Nat)) H
def peekD (rem : List Tk) : PyData := .tuple [.str (peekK rem), peekV rem]
def spPeek : Sp := fun vs H Q _ => ∃ r ts e rem num, vs = [.ref r] ∧ RAt K H r ts e rem num ∧ DOut K [] H Q (peekD rem)
theorem RAt.look (h : RAt K H r ts e rem num) : ∃ (dx l : Addr) (n : Nat) (xs : List V), H r = some (.ins (ga K "Reader") dx (rf l n e num)) ∧ SqL K H l xs ∧ xs.length = ts.2.length ∧ n ≤ ts.2.length ∧ rem = ts.2.drop n ∧ ts.2.length ≤ 50000 ∧ (∀ t, ts.2[n]? = some t → ∃ v, xs[n]? = some v ∧ Dp K H v t.enc) := by
  obtain ⟨dx, n, xs, h1, h2, h3, h4, h5, h6, h7, h8, h9⟩ := h
  refine ⟨dx, ts.1, n, xs, h1, SqL.of h2, by rw [DpAll.length h4, List.length_map], h5, h6, h7, fun t ht => ?_⟩
  exact DpAll.get h4 (by rw [List.getElem?_map, ht]; rfl)
theorem ok_place (T : Tx P K mg) : OkF P w K mg base CX0 1 a_Reader_place ["self"] (spPlace (K := K)) := by
  have nd := sc_Reader_place.nd
  have cl := T.c_Reader
  have na1 := T.na_Reader_tokens
  have na2 := T.na_Reader_next
  have na3 := T.na_Reader_end
  refine T.f_Reader_place.ok (CX := CX0) sc_Reader_place (fun vs H Q E h => ?_) (fun cdv A outer s H vs Q E hr h => ?_)
  · obtain ⟨_, _, _, _, _, rfl, _⟩ := h
    rfl
  · obtain ⟨r, ts, e, rem, num, rfl, hR, k⟩ := h
    obtain ⟨dx, l, n, xs, h1, h2, hlen, hn, hrem, hl5, hget⟩ := hR.look
    refine ⟨_, PSs.nox (pss_cons (ps_if (pt_cmpR op_lt (pe_fld (pv 0) rfl) (pe_callB call_len_seq (by rfl) T.n_len PySem.boot_len (pa_cons (pe_fld (pv 0) rfl) pa_nil)) (nomark _)) (pss_one (ps_ret (pe_ix ix_tup (pe_ix ix_list (pe_fld (pv 0) rfl) (pe_fld (pv 0) rfl) (fun _ _ => rfl)) pe_int (fun _ _ => rfl)))) pss_nil)
      (pss_one (ps_ret (pe_fld (pv 0) rfl)))), ?_⟩
    walk_at "rd"
    refine iteB (fun h => ?_) (fun h => ?_)
    · have hlt : n < ts.2.length := by
        have := of_decide_eq_true h
        omega
      obtain ⟨v, hv, hd⟩ := hget _ (List.getElem?_eq_getElem hlt)
      obtain ⟨q, vs, rfl, hsq, hall⟩ := Dp.tupOf hd
      obtain ⟨v2, hv2, hz⟩ := DpAll.get hall (i := 2) (d := .int (ts.2[n].at_ : Nat)) rfl
      obtain rfl := Dp.intOf hz
      walk_at "rd"
      refine ⟨_, _, _, _, rfl, rfl, h2, atI_nat hv, ?_⟩
      refine ⟨_, _, _, _, rfl, rfl, hsq, atI_nat (j := 2) hv2, ?_⟩
      have e1 : plc e rem = ts.2[n].at_ := by rw [hrem, List.drop_eq_getElem_cons hlt]; rfl
      rw [e1] at k
      exact k
    · have hlt : n = ts.2.length := by
        have := of_decide_eq_false h
        omega
      walk_at "rd"
      have e1 : plc e rem = e := by rw [hrem, hlt, List.drop_length]; rfl
      rw [e1] at k
      exact k
theorem ok_peek (T : Tx P K mg) : OkF P w K mg base CX0 1 a_Reader_peek ["self"] (spPeek (K := K)) := by
  have nd := sc_Reader_peek.nd
  have cl := T.c_Reader
  have na1 := T.na_Reader_tokens
  have na2 := T.na_Reader_next
  refine T.f_Reader_peek.ok (CX := CX0) sc_Reader_peek (fun vs H Q E h => ?_) (fun cdv A outer s H vs Q E hr h => ?_)
  · obtain ⟨_, _, _, _, _, rfl, _⟩ := h
    rfl
  · obtain ⟨r, ts, e, rem, num, rfl, hR, k⟩ := h
    obtain ⟨dx, l, n, xs, h1, h2, hlen, hn, hrem, hl5, hget⟩ := hR.look
    have hm := hR.mem
    refine ⟨_, PSs.nox (pss_cons (ps_if (pt_cmpR op_lt (pe_fld (pv 0) rfl) (pe_callB call_len_seq (by rfl) T.n_len PySem.boot_len (pa_cons (pe_fld (pv 0) rfl) pa_nil)) (nomark _)) (pss_one (ps_ret (pe_slice sl_tupA (pe_ix ix_list (pe_fld (pv 0) rfl) (pe_fld (pv 0) rfl) (fun _ _ => rfl)) po_none (po_some pe_int)))) pss_nil)
      (pss_one (ps_ret (pe_tup (pa_cons pe_str (pa_cons pe_str pa_nil)))))), ?_⟩
    walk_at "rd"
    refine iteB (fun h => ?_) (fun h => ?_)
    · have hlt : n < ts.2.length := by
        have := of_decide_eq_true h
        omega
      obtain ⟨v, hv, hd⟩ := hget _ (List.getElem?_eq_getElem hlt)
      obtain ⟨q, vs, rfl, hsq, hall⟩ := Dp.tupOf hd
      have hl3 : vs.length = 3 := DpAll.length hall
      walk_at "rd"
      refine ⟨_, _, _, _, rfl, rfl, h2, atI_nat hv, ?_⟩
      walk_at "rd"
      have ec : cutV vs none (some 2) = vs.take 2 := by
        unfold cutV
        rw [hl3]
        rfl
      refine ⟨_, _, rfl, hsq, fun z => absurd z.2 (by rw [hl3]; decide), fun _ p hp => ?_⟩
      rw [ec]
      have e1 : peekD rem = .tuple ([.str ts.2[n].kind, ts.2[n].val]) := by rw [hrem, List.drop_eq_getElem_cons hlt]; rfl
      rw [e1] at k
      have tk := (hm ts.2[n] (by rw [hrem, List.drop_eq_getElem_cons hlt]; exact List.mem_cons_self)).nl
      exact k _ _ (Kp.new hp) (Dp.new (DpAll.take hall 2) (by show (true && (noL _ && true)) = true; rw [tk]; rfl) hp)
    · have hlt : n = ts.2.length := by
        have := of_decide_eq_false h
        omega
      walk_at "rd"
      have e1 : peekD rem = .tuple [.str "", .str ""] := by rw [hrem, hlt, List.drop_length]; rfl
      rw [e1] at k
      refine ⟨szl (Nat.le_of_ble_eq_true rfl), fun p hp => ?_⟩
      exact k _ _ (Kp.new hp) (Dp.new (by walk_at "dp") rfl hp)
theorem eqv_isTk {k v : Str} {rem : List Tk} (hk : k ≠ "") : PyData.eqv (peekD rem) (.tuple [.str k, .str v]) = isTk k v rem := by
  cases rem with
  | nil =>
    show (("" : Str) == k && (PyData.eqv (.str "") (.str v) && true)) = false
    rw [beq_eq_false_iff_ne.mpr (fun z => hk z.symm), Bool.false_and]
  | cons t r =>
    show ((t.kind == k) && (PyData.eqv t.val (.str v) && true)) = (decide (t.kind = k) && (match t.val with | .str x => decide (x = v) | _ => false))
    have e1 : (t.kind == k) = decide (t.kind = k) := by
      by_cases h : t.kind = k
      · rw [h]; simp
      · rw [beq_eq_false_iff_ne.mpr h, decide_eq_false h]
    rw [e1, Bool.and_true]
    cases hv : t.val with
    | str x =>
      have e2 : PyData.eqv (.str x) (.str v) = decide (x = v) := by
        show (x == v) = _
        by_cases h : x = v
        · rw [h]; simp
        · rw [beq_eq_false_iff_ne.mpr h, decide_eq_false h]
      rw [e2]
    | _ => simp [PyData.eqv]
theorem peek_sh {rem : List Tk} (h : ∀ t ∈ rem, TkOk t) : SeqAt.shaped (peekD rem) = true := by
  cases rem with
  | nil => decide +kernel
  | cons t r => exact (h t List.mem_cons_self).sh
theorem sh2 {k v : Str} (hk : PyData.strOk k = true) (hv : PyData.strOk v = true) : SeqAt.shaped (.tuple [.str k, .str v]) = true := by
  show ((PyData.strOk k && (PyData.strOk v && true)) && decide _) = true
  rw [hk, hv]
  rfl
def spAccept : Sp := fun vs H Q _ => ∃ r ts e rem num k v, vs = [.ref r, .str k, .str v] ∧ RAt K H r ts e rem num ∧ k ≠ "" ∧ PyData.strOk k = true ∧ PyData.strOk v = true ∧
  (isTk k v rem = false → ∀ H', Kp [r] H H' → RAt K H' r ts e rem num → Q (.bl false) H') ∧ (isTk k v rem = true → ∀ H', Kp [r] H H' → RAt K H' r ts e rem.tail num → Q (.bl true) H')
theorem RAt.next (h : RAt K H r ts e rem num) {dx l : Addr} {n : Nat} (hH : H r = some (.ins (ga K "Reader") dx (rf l n e num))) (hrem : rem = ts.2.drop n) (hn : n < ts.2.length) : Kp [r] H (upd H r (.ins (ga K "Reader") dx (putF "_next" (.int ((n : Int) + 1)) (rf l n e num)))) ∧ RAt K (upd H r (.ins (ga K "Reader") dx (putF "_next" (.int ((n : Int) + 1)) (rf l n e num)))) r ts e rem.tail num := by
  rw [rf_next]
  have q := h.put hH (n' := n + 1) (num' := num) hn
  rw [hrem, List.tail_drop]
  exact q
theorem isTk_lt {k v : Str} {n : Nat} (h : isTk k v (ts.2.drop n) = true) : n < ts.2.length := by
  by_cases h2 : n < ts.2.length
  · exact h2
  · rw [List.drop_eq_nil_of_le (by omega)] at h
    cases h
theorem ok_accept (T : Tx P K mg) : OkF P w K mg base CX0 2 a_Reader_accept ["self", "kind", "value"] (spAccept (K := K)) := by
  have nd := sc_Reader_accept.nd
  have cl := T.c_Reader
  have na2 := T.na_Reader_next
  have F_Reader_peek := ok_peek (P := P) (w := w) (base := base) T
  refine T.f_Reader_accept.ok (CX := CX0) sc_Reader_accept (fun vs H Q E h => ?_) (fun cdv A outer s H vs Q E hr h => ?_)
  · obtain ⟨_, _, _, _, _, _, _, rfl, _⟩ := h
    rfl
  · obtain ⟨r, ts, e, rem, num, k, v, rfl, hR, hk, ok1, ok2, kf, kt⟩ := h
    obtain ⟨dx, l, n, xs, h1, h2, hlen, hn, hrem, hl5, hget⟩ := hR.look
    refine ⟨_, PSs.nox (pss_cons (ps_if (pt_cmpR (op_eqD hr.units) (pe_meth0 (pv 0) T.c_Reader T.m_Reader_peek F_Reader_peek (hr.mono (by decide)) T.b_Reader_peek .nil pass0) (pe_tup (pa_cons (pv 1) (pa_cons (pv 2) pa_nil))) (nomark _)) (pss_cons (ps_fld (pv 0) (pe_op op_add (pe_fld (pv 0) rfl) pe_int) rfl)
      (pss_one (ps_ret pe_bl))) pss_nil)
      (pss_one (ps_ret pe_bl))), ?_⟩
    walk_at "rd"
    refine ⟨_, _, _, rfl, h1, rfl, r, ts, e, rem, num, rfl, hR, ?_⟩
    intro u H1 k1 hd1
    walk_at "rd"
    refine ⟨szl (Nat.le_of_ble_eq_true rfl), fun p hp => ?_⟩
    have k2 : Kp [] H1 (upd H1 p (.tup [.str k, .str v])) := Kp.new hp
    refine ⟨_, _, Dp.kp k2 _ _ ?_ hd1, Dp.new (ds := [.str k, .str v]) (by walk_at "dp") rfl hp, peek_sh hR.mem, sh2 ok1 ok2, _, rfl, ?_⟩
    · cases rem with
      | nil => rfl
      | cons t r' =>
        show (true && (noL t.val && true)) = true
        rw [(hR.mem t List.mem_cons_self).nl]
        rfl
    rw [eqv_isTk hk]
    have hR2 := (hR.kp k1).kp k2
    have h12 : upd H1 p (.tup [.str k, .str v]) r = some (.ins (ga K "Reader") dx (rf l n e num)) := k2.keep _ _ (by simp) (k1.keep _ _ (by simp) h1)
    refine iteB (fun h => ?_) (fun h => ?_)
    · obtain ⟨k3, hR3⟩ := hR2.next h12 hrem (isTk_lt (by rw [← hrem]; exact h))
      walk_at "rd"
      refine ⟨_, _, dx, _, rfl, h12, cl, na2, (by show 4 < 1000; decide), ?_⟩
      exact kt h _ ((k1.trans k2).nil.trans k3) hR3
    · walk_at "rd"
      exact kf h _ (k1.trans k2).nil hR2
def spExpect : Sp := fun vs H Q E => ∃ r ts e rem num v, vs = [.ref r, .str v] ∧ RAt K H r ts e rem num ∧ PyData.strOk v = true ∧ match expct e v rem with
  | .error x => XEr K [r] H E x
  | .ok rem' => ∀ H', Kp [r] H H' → RAt K H' r ts e rem' num → Q .non H'
theorem ok_expect (T : Tx P K mg) : OkF P w K mg base (L2.CX P w) 3 a_Reader_expect ["self", "sign"] (spExpect (K := K)) := by
  have nd := sc_Reader_expect.nd
  have cl := T.c_Reader
  have F_Reader_accept := ok_accept (P := P) (w := w) (base := base) T
  have F_Reader_place := ok_place (P := P) (w := w) (base := base) T
  refine T.f_Reader_expect.ok (CX := L2.CX P w) sc_Reader_expect (fun vs H Q E h => ?_) (fun cdv A outer s H vs Q E hr h => ?_)
  · obtain ⟨_, _, _, _, _, _, rfl, _⟩ := h
    rfl
  · obtain ⟨r, ts, e, rem, num, v, rfl, hR, ok2, k⟩ := h
    obtain ⟨dx, l, n, xs, h1, h2, hlen, hn, hrem, hl5, hget⟩ := hR.look
    refine ⟨_, (pss_one (ps_if (pt_not (pt_val (pe_meth (pv 0) T.c_Reader T.m_Reader_accept F_Reader_accept (hr.mono (by decide)) T.b_Reader_accept .nil pass0 (pa_cons pe_str (pa_cons (pv 1) pa_nil))) (fun _ => rfl))) (pss_one (ps_raiseSx rfl T.g_Malformed T.x_Malformed hr (by decide) strR_scal (takes_of rfl rfl rfl rfl) (by exact (pa_cons (pe_meth0 (pv 0) T.c_Reader T.m_Reader_place F_Reader_place (hr.mono (by decide)) T.b_Reader_place .nil pass0) pa_nil)))) pss_nil)), ?_⟩
    walk_at "rd"
    refine ⟨_, _, _, rfl, h1, rfl, ?_⟩
    walk_at "rd"
    refine ⟨r, ts, e, rem, num, "sign", v, rfl, hR, by decide, by decide +kernel, ok2, fun h H1 k1 hR1 => ?_, fun h H1 k1 hR1 => ?_⟩
    · have ea : expct e v rem = .error (.mal (plc e rem)) := by
        unfold expct acc
        rw [h]
        rfl
      rw [ea] at k
      obtain ⟨dx, l, n, xs, h1, h2, hlen, hn, hrem, hl5, hget⟩ := hR1.look
      walk_at "rd"
      refine ⟨_, _, _, rfl, h1, rfl, r, ts, e, rem, num, rfl, hR1, ?_⟩
      walk_at "rd"
      exact ⟨soInt hR.plc_le, fun d hd => (XEr.back k k1).new hd⟩
    · have ea : expct e v rem = .ok rem.tail := by
        unfold expct acc
        rw [h]
        rfl
      rw [ea] at k
      walk_at "rd"
      exact k _ k1 hR1
def spRead : Sp := fun vs H Q E => ∃ r ts e rem num k, vs = [.ref r, .str k] ∧ RAt K H r ts e rem num ∧ k ≠ "" ∧ match rdTok e k rem with
  | .error x => XEr K [r] H E x
  | .ok (d, rem') => ∀ v H', Kp [r] H H' → RAt K H' r ts e rem' num → Dp K H' v d → Q v H'
theorem ok_read (T : Tx P K mg) : OkF P w K mg base (L2.CX P w) 2 a_Reader_read ["self", "kind"] (spRead (K := K)) := by
  have nd := sc_Reader_read.nd
  have cl := T.c_Reader
  have na2 := T.na_Reader_next
  have F_Reader_peek := ok_peek (P := P) (w := w) (base := base) T
  have F_Reader_place := ok_place (P := P) (w := w) (base := base) T
  refine T.f_Reader_read.ok (CX := L2.CX P w) sc_Reader_read (fun vs H Q E h => ?_) (fun cdv A outer s H vs Q E hr h => ?_)
  · obtain ⟨_, _, _, _, _, _, rfl, _⟩ := h
    rfl
  · obtain ⟨r, ts, e, rem, num, kk, rfl, hR, hk, k⟩ := h
    obtain ⟨dx, l, n, xs, h1, h2, hlen, hn, hrem, hl5, hget⟩ := hR.look
    have hm := hR.mem
    refine ⟨_, (pss_cons (ps_set (i := 2) nd rfl (Or.inl rfl) (pe_meth0 (pv 0) T.c_Reader T.m_Reader_peek F_Reader_peek (hr.mono (by decide)) T.b_Reader_peek .nil pass0))
      (pss_cons (ps_if (pt_cmpR op_ne (pe_ix ix_tup (pv 2) pe_int (fun _ _ => rfl)) (pv 1) (nomark _)) (pss_one (ps_raiseSx rfl T.g_Malformed T.x_Malformed hr (by decide) strR_scal (takes_of rfl rfl rfl rfl) (by exact (pa_cons (pe_meth0 (pv 0) T.c_Reader T.m_Reader_place F_Reader_place (hr.mono (by decide)) T.b_Reader_place .nil pass0) pa_nil)))) pss_nil)
      (pss_cons (ps_fld (pv 0) (pe_op op_add (pe_fld (pv 0) rfl) pe_int) rfl)
      (pss_one (ps_ret (pe_ix ix_tup (pv 2) pe_int (fun _ _ => rfl))))))), ?_⟩
    walk_at "rd"
    refine ⟨_, _, _, rfl, h1, rfl, r, ts, e, rem, num, rfl, hR, ?_⟩
    intro u H1 k1 hd1
    have hR1 := hR.kp k1
    have h11 := k1.keep _ _ (by simp) h1
    obtain ⟨q, us, rfl, hsq, hall⟩ := Dp.tupOf hd1
    obtain ⟨v0, hv0, hz0⟩ := DpAll.get hall (i := 0) (d := .str (peekK rem)) rfl
    obtain ⟨v1, hv1, hz1⟩ := DpAll.get hall (i := 1) (d := peekV rem) rfl
    obtain rfl := Dp.strOf hz0
    walk_at "rd"
    refine ⟨_, _, _, _, rfl, rfl, hsq, atI_nat (j := 0) hv0, ?_⟩
    walk_at "rd"
    refine iteB (fun h => ?_) (fun h => ?_)
    · have hne : ¬ peekK rem = kk := fun z => by
        rw [z] at h
        simp at h
      have ea : rdTok e kk rem = .error (.mal (plc e rem)) := by
        unfold rdTok
        rw [if_neg hne]
      rw [ea] at k
      walk_at "rd"
      refine ⟨_, _, _, rfl, h11, rfl, r, ts, e, rem, num, rfl, hR1, ?_⟩
      walk_at "rd"
      exact ⟨soInt hR.plc_le, fun d hd => (XEr.back k k1.nil).new hd⟩
    · have he : peekK rem = kk := by
        by_cases z : peekK rem = kk
        · exact z
        · have z2 : ¬ V.str (peekK rem) = V.str kk := fun q => z (V.str.inj q)
          rw [decide_eq_false z2] at h
          cases h
      have ea : rdTok e kk rem = .ok (peekV rem, rem.tail) := by
        unfold rdTok
        rw [if_pos he]
      rw [ea] at k
      have hlt : n < ts.2.length := by
        by_cases z : n < ts.2.length
        · exact z
        · rw [hrem, List.drop_eq_nil_of_le (by omega)] at he
          exact absurd he.symm hk
      obtain ⟨k3, hR3⟩ := hR1.next h11 hrem hlt
      have nv : noL (peekV rem) = true := by
        rw [hrem, List.drop_eq_getElem_cons hlt]
        exact (hm ts.2[n] (by rw [hrem, List.drop_eq_getElem_cons hlt]; exact List.mem_cons_self)).nl
      walk_at "rd"
      refine ⟨_, _, dx, _, rfl, h11, cl, na2, (by show 4 < 1000; decide), ?_⟩
      refine ⟨_, rfl, _, _, _, _, rfl, rfl, k3.sqt hsq, atI_nat (j := 1) hv1, ?_⟩
      exact k _ _ (k1.nil.trans k3) hR3 (Dp.kp k3 _ _ nv hz1)
def spAtEnd : Sp := fun vs H Q _ => ∃ r ts e rem num, vs = [.ref r] ∧ RAt K H r ts e rem num ∧ Q (.bl (decide (rem = []))) H
theorem ok_at_end (T : Tx P K mg) : OkF P w K mg base CX0 1 a_Reader_at_end ["self"] (spAtEnd (K := K)) := by
  have nd := sc_Reader_at_end.nd
  have cl := T.c_Reader
  have na1 := T.na_Reader_tokens
  have na2 := T.na_Reader_next
  refine T.f_Reader_at_end.ok (CX := CX0) sc_Reader_at_end (fun vs H Q E h => ?_) (fun cdv A outer s H vs Q E hr h => ?_)
  · obtain ⟨_, _, _, _, _, rfl, _⟩ := h
    rfl
  · obtain ⟨r, ts, e, rem, num, rfl, hR, k⟩ := h
    obtain ⟨dx, l, n, xs, h1, h2, hlen, hn, hrem, hl5, hget⟩ := hR.look
    refine ⟨_, PSs.nox (pss_one (ps_ret (pe_cmpR op_ge (pe_fld (pv 0) rfl) (pe_callB call_len_seq (by rfl) T.n_len PySem.boot_len (pa_cons (pe_fld (pv 0) rfl) pa_nil)) (nomark _)))), ?_⟩
    walk_at "rd"
    have e1 : decide (rem = []) = decide ((xs.length : Int) ≤ (n : Int)) := by
      refine decide_eq_decide.mpr ?_
      rw [hrem, List.drop_eq_nil_iff]
      omega
    rw [e1] at k
    exact k
def spStart : Sp := fun vs H Q _ => ∃ r ts e rem num, vs = [.ref r] ∧ RAt K H r ts e rem num ∧ ∀ H', Kp [r] H H' → RAt K H' r ts e rem 0 → Q .non H'
theorem RAt.setNum (h : RAt K H r ts e rem num) {dx l : Addr} {n : Nat} (hH : H r = some (.ins (ga K "Reader") dx (rf l n e num))) (hrem : rem = ts.2.drop n) (hn : n ≤ ts.2.length) (m : Nat) : Kp [r] H (upd H r (.ins (ga K "Reader") dx (putF "_number" (.int (m : Int)) (rf l n e num)))) ∧ RAt K (upd H r (.ins (ga K "Reader") dx (putF "_number" (.int (m : Int)) (rf l n e num)))) r ts e rem m := by
  rw [rf_number, hrem]
  exact h.put hH (n' := n) (num' := m) hn
theorem ok_start_function (T : Tx P K mg) : OkF P w K mg base CX0 1 a_Reader_start_function ["self"] (spStart (K := K)) := by
  have nd := sc_Reader_start_function.nd
  have cl := T.c_Reader
  have na4 := T.na_Reader_number
  refine T.f_Reader_start_function.ok (CX := CX0) sc_Reader_start_function (fun vs H Q E h => ?_) (fun cdv A outer s H vs Q E hr h => ?_)
  · obtain ⟨_, _, _, _, _, rfl, _⟩ := h
    rfl
  · obtain ⟨r, ts, e, rem, num, rfl, hR, k⟩ := h
    obtain ⟨dx, l, n, xs, h1, h2, hlen, hn, hrem, hl5, hget⟩ := hR.look
    obtain ⟨k1, hR1⟩ := hR.setNum h1 hrem hn 0
    refine ⟨_, PSs.nox (pss_one (ps_fld (pv 0) pe_int rfl)), ?_⟩
    walk_at "rd"
    refine ⟨_, _, dx, _, rfl, h1, cl, na4, (by show 4 < 1000; decide), ?_⟩
    exact k _ k1 hR1
def spTake : Sp := fun vs H Q _ => ∃ r ts e rem num, vs = [.ref r] ∧ RAt K H r ts e rem num ∧ ∀ H', Kp [r] H H' → RAt K H' r ts e rem (num + 1) → Q (.int (num : Nat)) H'
theorem ok_take_number (T : Tx P K mg) : OkF P w K mg base CX0 1 a_Reader_take_number ["self"] (spTake (K := K)) := by
  have nd := sc_Reader_take_number.nd
  have cl := T.c_Reader
  have na4 := T.na_Reader_number
  refine T.f_Reader_take_number.ok (CX := CX0) sc_Reader_take_number (fun vs H Q E h => ?_) (fun cdv A outer s H vs Q E hr h => ?_)
  · obtain ⟨_, _, _, _, _, rfl, _⟩ := h
    rfl
  · obtain ⟨r, ts, e, rem, num, rfl, hR, k⟩ := h
    obtain ⟨dx, l, n, xs, h1, h2, hlen, hn, hrem, hl5, hget⟩ := hR.look
    obtain ⟨k1, hR1⟩ := hR.setNum h1 hrem hn (num + 1)
    refine ⟨_, PSs.nox (pss_cons (ps_fld (pv 0) (pe_op op_add (pe_fld (pv 0) rfl) pe_int) rfl)
      (pss_one (ps_ret (pe_op op_sub (pe_fld (pv 0) rfl) pe_int)))), ?_⟩
    walk_at "rd"
    refine ⟨_, _, dx, _, rfl, h1, cl, na4, (by show 4 < 1000; decide), ?_⟩
    have h2' : (upd H r (.ins (ga K "Reader") dx (putF "_number" (.int ((num + 1 : Nat) : Int)) (rf l n e num)))) r = some (.ins (ga K "Reader") dx (rf l n e ((num + 1 : Nat) : Int))) := by rw [upd_same, rf_number]
    have k' := k _ k1 hR1
    refine ⟨_, rfl, _, _, _, _, _, rfl, h2', cl, na4, rfl, ?_⟩
    walk_at "rd"
    have e3 : (((num + 1 : Nat) : Int) - 1) = (num : Int) := by omega
    show Q (.int (((num + 1 : Nat) : Int) - 1)) _
    rw [e3]
    exact k'
end
end K14


set_option Elab.async false
set_option linter.all false
set_option maxRecDepth 100000
set_option maxHeartbeats 4000000
namespace K14
open PySem PySem.Spec PyProof.Rows L2 He Hz Cm Lx Px
local macro_rules | `(tactic| walk_at "rd") => `(tactic| repeat (first | (refine ⟨_, rfl, ?_⟩) | (refine ⟨_, _, rfl, rfl, ?_⟩) | (refine ⟨rfl, ?_⟩) | (refine ⟨szl (by omega), ?_⟩) | (refine ⟨_, _, _, _, _, rfl, (by assumption), (by assumption), (by assumption), (by rfl), ?_⟩) | (refine ⟨_, _, rfl, Or.inl (by assumption), ?_⟩)))
local macro_rules | `(tactic| walk_at "dp") => `(tactic| (repeat' (first | exact DpAll.nil | apply DpAll.cons | exact Dp.str _ | exact Dp.int _ | exact Dp.non | exact Dp.bl _ | assumption)))
section
variable {P : Program} {w : World} {K : PySem.W.Frag} {mg : Str → Option Value} {base : Heap} {H H' : Hp} {r : Addr} {ts : Addr × List Tk} {rem : List Tk} {e num : Nat} {Q : VK} {E : XK}
/-! ### tokens of a text are fine -/
theorem mem_tw {p : Nat → Bool} {c : Nat} : ∀ l : List Nat, c ∈ l.takeWhile p → p c = true
  | [], h => absurd h List.not_mem_nil
  | d :: l, h => by
    rw [List.takeWhile_cons] at h
    split at h
    · rename_i hd
      rcases List.mem_cons.mp h with rfl | h
      · exact hd
      · exact mem_tw l h
    · cases h
theorem strOk_word {l : List Nat} : PyData.strOk (wordOf l) = true := by
  unfold PyData.strOk wordOf
  show ((l.takeWhile inW).toArray).all _ = true
  rw [List.all_toArray, List.all_eq_true]
  intro c hc
  have h2 : inW c = true := mem_tw l hc
  have h3 : c ≤ 122 := by
    simp only [inW, isLet, isDig, Bool.or_eq_true, Bool.and_eq_true, decide_eq_true_eq] at h2
    omega
  exact decide_eq_true (by omega)
theorem shp {k v : Str} (hk : PyData.strOk k = true) (hv : PyData.strOk v = true) : SeqAt.shaped (.tuple [.str k, .str v]) = true := sh2 hk hv
theorem shn {k : Str} {n : Int} (hk : PyData.strOk k = true) : SeqAt.shaped (.tuple [.str k, .int n]) = true := by
  show ((PyData.strOk k && (true && true)) && decide _) = true
  rw [hk]
  rfl
theorem tok1_ok {l : List Nat} {n : Nat} {t : Tk} {k : Nat} (h : tok1 l n = some (t, k)) (hn : n ≤ 200000) : TkOk t := by
  have hnl : noL t.val = true := by
    have z := (tk_noL h).1
    have z2 : (true && (noL t.val && (true && true))) = true := z
    simpa using z2
  unfold tok1 at h
  cases l with
  | nil => cases h
  | cons c r =>
    dsimp only at h
    split at h
    · obtain ⟨t', ht, e1⟩ := Option.map_eq_some_iff.mp h
      obtain ⟨rfl, -⟩ := Prod.mk.inj e1
      unfold tkWord at ht
      split at ht
      · cases ht
        exact ⟨hnl, shp (k := "reserved") (by decide +kernel) strOk_word, fun z => absurd (show ("reserved" : Str) = "name" from z) (by decide), fun z => absurd (show ("reserved" : Str) = "number" from z) (by decide), hn⟩
      · split at ht
        · cases ht
        · cases ht
          exact ⟨hnl, shp (k := "name") (by decide +kernel) strOk_word, fun _ => ⟨_, rfl⟩, fun z => absurd (show ("name" : Str) = "number" from z) (by decide), hn⟩
    · split at h
      · obtain ⟨t', ht, e1⟩ := Option.map_eq_some_iff.mp h
        obtain ⟨rfl, -⟩ := Prod.mk.inj e1
        unfold tkNum at ht
        split at ht
        · cases ht
        · split at ht
          · cases ht
          · cases ht
            exact ⟨hnl, shn (k := "number") (by decide +kernel), fun z => absurd (show ("number" : Str) = "name" from z) (by decide), fun _ => ⟨_, rfl⟩, hn⟩
      · obtain ⟨z, hz, e1⟩ := Option.map_eq_some_iff.mp h
        obtain ⟨rfl, -⟩ := Prod.mk.inj e1
        have hm := List.mem_of_find?_eq_some hz
        refine ⟨hnl, shp (k := "sign") (by decide +kernel) ?_, fun z => absurd (show ("sign" : Str) = "name" from z) (by decide), fun z => absurd (show ("sign" : Str) = "number" from z) (by decide), hn⟩
        exact List.all_eq_true.mp (show sgns.all PyData.strOk = true by decide +kernel) z hm
theorem lexF_ok : ∀ (m : Nat) (l : List Nat) (n : Nat) (ts : List Tk), lexF m l n = .ok ts → n + l.length ≤ 200000 → (∀ t ∈ ts, TkOk t) ∧ ts.length ≤ m
  | 0, l, n, ts, h, _ => by
    cases h
    exact ⟨fun t m => absurd m List.not_mem_nil, Nat.le_refl _⟩
  | m + 1, [], n, ts, h, _ => by
    cases h
    exact ⟨fun t m => absurd m List.not_mem_nil, Nat.zero_le _⟩
  | m + 1, c :: r, n, ts, h, hl => by
    rw [List.length_cons] at hl
    unfold lexF at h
    split at h
    · obtain ⟨h1, h2⟩ := lexF_ok m r (n + 1) ts h (by omega)
      exact ⟨h1, by omega⟩
    · cases ht : tok1 (c :: r) n with
      | none =>
        rw [ht] at h
        cases h
      | some z =>
        obtain ⟨t, k⟩ := z
        rw [ht] at h
        dsimp only at h
        cases hx : lexF m ((c :: r).drop k) (n + k) with
        | error x =>
          rw [hx] at h
          cases h
        | ok ts' =>
          rw [hx] at h
          cases h
          have hk : k ≤ (c :: r).length := by
            unfold tok1 at ht
            dsimp only at ht
            split at ht
            · obtain ⟨t', ht, e1⟩ := Option.map_eq_some_iff.mp ht
              obtain ⟨-, rfl⟩ := Prod.mk.inj e1
              exact wLen_le _
            · split at ht
              · obtain ⟨t', ht, e1⟩ := Option.map_eq_some_iff.mp ht
                obtain ⟨-, rfl⟩ := Prod.mk.inj e1
                exact wLen_le _
              · obtain ⟨t', hs, e1⟩ := Option.map_eq_some_iff.mp ht
                obtain ⟨-, rfl⟩ := Prod.mk.inj e1
                exact (sgn_len hs).2.2
          have hk2 := hk
          rw [List.length_cons] at hk2
          obtain ⟨h1, h2⟩ := lexF_ok m _ (n + k) ts' hx (by rw [List.length_drop, List.length_cons]; omega)
          refine ⟨fun t' m' => ?_, by rw [List.length_cons]; omega⟩
          rcases List.mem_cons.mp m' with rfl | m'
          · exact tok1_ok ht (by omega)
          · exact h1 t' m'
theorem lex_ok {l : List Nat} {ts : List Tk} (h : lex l = .ok ts) : (∀ t ∈ ts, TkOk t) ∧ ts.length ≤ l.length ∧ l.length ≤ 6000 := by
  unfold lex at h
  split at h
  · cases h
  · cases hx : lexF l.length l 0 with
    | error n =>
      rw [hx] at h
      cases h
    | ok ts' =>
      rw [hx] at h
      cases h
      obtain ⟨h1, h2⟩ := lexF_ok _ _ _ _ hx (by omega)
      exact ⟨h1, h2, by omega⟩
/-! ### a reader is made -/
theorem rf_new (l : Addr) (x y z : V) : putF "_number" z (putF "_end" y (putF "_next" x (putF "_tokens" (.ref l) []))) = ([("_tokens", .ref l), ("_next", x), ("_end", y), ("_number", z)] : List (Str × V)) := by
  simp only [putF, if_neg (show ¬ (("_tokens" : Str) = "_next") by decide +kernel), if_neg (show ¬ (("_tokens" : Str) = "_end") by decide +kernel), if_neg (show ¬ (("_next" : Str) = "_end") by decide +kernel), if_neg (show ¬ (("_tokens" : Str) = "_number") by decide +kernel), if_neg (show ¬ (("_next" : Str) = "_number") by decide +kernel), if_neg (show ¬ (("_end" : Str) = "_number") by decide +kernel)]
def spReader : Sp := fun vs H Q E => ∃ p dx x, vs = [.ref p, .str x] ∧ H p = some (.ins (ga K "Reader") dx []) ∧ x.length ≤ 400000 ∧ match lex x.cps.toList with
  | .error e => XEr K [p] H E e
  | .ok ts => ∀ l H', H l = none → Kp [p] H H' → RAt K H' p (l, ts) x.length ts 0 → Q .non H'
theorem ok_Reader_init (T : Tx P K mg) : OkF P w K mg base (L2.CX P w) 6 a_Reader___init__ ["self", "text"] (spReader (K := K)) := by
  have nd := sc_Reader___init__.nd
  have cl := T.c_Reader
  have na1 := T.na_Reader_tokens
  have na2 := T.na_Reader_next
  have na3 := T.na_Reader_end
  have na4 := T.na_Reader_number
  have F_tokens := ok_tokens (P := P) (w := w) (base := base) T
  refine T.f_Reader___init__.ok (CX := L2.CX P w) sc_Reader___init__ (fun vs H Q E h => ?_) (fun cdv A outer s H vs Q E hr h => ?_)
  · obtain ⟨_, _, _, rfl, _⟩ := h
    rfl
  · obtain ⟨p, dx, x, rfl, hp, hx, k⟩ := h
    refine ⟨_, (pss_cons (ps_fld (pv 0) (pe_call F_tokens (hr.mono (by decide)) rfl T.g_tokens T.k_tokens T.b_tokens .nil (passes_call (takes_of rfl rfl rfl rfl) fun _ _ _ _ h => h) (pa_cons (pv 1) pa_nil)) rfl)
      (pss_cons (ps_fld (pv 0) pe_int rfl)
      (pss_cons (ps_fld (pv 0) (pe_callB call_len_str (by rfl) T.n_len PySem.boot_len (pa_cons (pv 1) pa_nil)) rfl)
      (pss_one (ps_fld (pv 0) pe_int rfl))))), ?_⟩
    walk_at "rd"
    refine ⟨hx, ?_⟩
    cases hlx : lex x.cps.toList with
    | error er =>
      rw [hlx] at k
      exact fun d H' kk hd => k d H' kk.nil hd
    | ok ts =>
      rw [hlx] at k
      obtain ⟨hts, hl1, hl2⟩ := lex_ok hlx
      have e0 : x.cps.toList.length = x.length := rfl
      intro l xs H1 hl k1 hls hall
      have h1 := k1.keep _ _ (by simp) hp
      have nlp : l ≠ p := fun z => by
        subst z
        rw [hp] at hl
        cases hl
      walk_at "rd"
      refine ⟨_, _, dx, _, rfl, h1, cl, na1, (by show 0 < 1000; decide), ?_⟩
      walk_at "rd"
      refine ⟨_, _, dx, _, rfl, upd_same, cl, na2, (by show 1 < 1000; decide), ?_⟩
      walk_at "rd"
      refine ⟨_, _, dx, _, rfl, upd_same, cl, na3, (by show 2 < 1000; decide), ?_⟩
      walk_at "rd"
      refine ⟨_, _, dx, _, rfl, upd_same, cl, na4, (by show 3 < 1000; decide), ?_⟩
      have kk : ∀ o, Kp [p] (upd H1 p (.ins (ga K "Reader") dx o)) (upd (upd H1 p (.ins (ga K "Reader") dx o)) p (.ins (ga K "Reader") dx (putF "_number" (.int 0) (putF "_end" (.int (x.length : Nat)) (putF "_next" (.int 0) (putF "_tokens" (.ref l) [])))))) := fun o => Kp.put upd_same nt_ins (by simp)
      have kA := (Kp.put (M := [p]) (o := .ins (ga K "Reader") dx (putF "_tokens" (.ref l) [])) h1 nt_ins (by simp))
      have kB := (Kp.put (M := [p]) (o := .ins (ga K "Reader") dx (putF "_next" (.int 0) (putF "_tokens" (.ref l) []))) (H := upd H1 p (.ins (ga K "Reader") dx (putF "_tokens" (.ref l) []))) upd_same nt_ins (by simp))
      have kC := (Kp.put (M := [p]) (o := .ins (ga K "Reader") dx (putF "_end" (.int (x.length : Nat)) (putF "_next" (.int 0) (putF "_tokens" (.ref l) [])))) (H := upd (upd H1 p (.ins (ga K "Reader") dx (putF "_tokens" (.ref l) []))) p (.ins (ga K "Reader") dx (putF "_next" (.int 0) (putF "_tokens" (.ref l) [])))) upd_same nt_ins (by simp))
      have kD := (Kp.put (M := [p]) (o := .ins (ga K "Reader") dx (putF "_number" (.int 0) (putF "_end" (.int (x.length : Nat)) (putF "_next" (.int 0) (putF "_tokens" (.ref l) []))))) (H := upd (upd (upd H1 p (.ins (ga K "Reader") dx (putF "_tokens" (.ref l) []))) p (.ins (ga K "Reader") dx (putF "_next" (.int 0) (putF "_tokens" (.ref l) [])))) p (.ins (ga K "Reader") dx (putF "_end" (.int (x.length : Nat)) (putF "_next" (.int 0) (putF "_tokens" (.ref l) []))))) upd_same nt_ins (by simp))
      have kz := ((kA.trans kB).trans kC).trans kD
      refine (k l _ hl (k1.nil.trans kz) ⟨dx, 0, xs, ?_, kz.keep _ _ (by simpa using nlp) hls, nlp, Dp.kps kz _ _ (tks_noL hts) hall, Nat.zero_le _, rfl, (show ts.length ≤ 50000 by omega), by omega, hts⟩)
      rw [upd_same, rf_new]
      rfl
/-! ### tools for what reads on -/
theorem acc_t {k v : Str} (h : isTk k v rem = true) : acc k v rem = some rem.tail := by
  unfold acc
  rw [if_pos h]
theorem acc_f {k v : Str} (h : isTk k v rem = false) : acc k v rem = none := by
  unfold acc
  rw [h]
  rfl
theorem RAt.ins (h : RAt K H r ts e rem num) : ∃ (dx l : Addr) (n : Nat), H r = some (.ins (ga K "Reader") dx (rf l n e num)) := by
  obtain ⟨dx, n, xs, h1, _⟩ := h
  exact ⟨dx, ts.1, n, h1⟩
theorem rdTok_name {k : Str} {d : PyData} {r' : List Tk} (h : rdTok e k rem = .ok (d, r')) (hk : k ≠ "") : ∃ t, rem = t :: r' ∧ t.kind = k ∧ d = t.val := by
  unfold rdTok at h
  split at h
  · rename_i h2
    cases h
    cases rem with
    | nil => exact absurd h2.symm hk
    | cons t l => exact ⟨t, rfl, h2, rfl⟩
  · cases h
theorem read_name (hR : RAt K H r ts e rem num) (k : match rdName e rem with | .error x => XEr K [r] H E x | .ok (x, rem') => ∀ H', Kp [r] H H' → RAt K H' r ts e rem' num → Q (.str x) H') : spRead (K := K) [.ref r, .str "name"] H Q E := by
  refine ⟨r, ts, e, rem, num, "name", rfl, hR, by decide, ?_⟩
  unfold rdName at k
  cases h : rdTok e "name" rem with
  | error x =>
    rw [h] at k
    exact k
  | ok z =>
    obtain ⟨d, r'⟩ := z
    rw [h] at k
    obtain ⟨t, e1, e2, e3⟩ := rdTok_name h (by decide)
    obtain ⟨x, e4⟩ := (hR.mem t (by rw [e1]; exact List.mem_cons_self)).nm e2
    rw [e4] at e3
    subst e3
    intro v H' kk hr hd
    obtain rfl := Dp.strOf hd
    exact k H' kk hr
theorem read_num (hR : RAt K H r ts e rem num) (k : match rdNum e rem with | .error x => XEr K [r] H E x | .ok (x, rem') => ∀ H', Kp [r] H H' → RAt K H' r ts e rem' num → Q (.int x) H') : spRead (K := K) [.ref r, .str "number"] H Q E := by
  refine ⟨r, ts, e, rem, num, "number", rfl, hR, by decide, ?_⟩
  unfold rdNum at k
  cases h : rdTok e "number" rem with
  | error x =>
    rw [h] at k
    exact k
  | ok z =>
    obtain ⟨d, r'⟩ := z
    rw [h] at k
    obtain ⟨t, e1, e2, e3⟩ := rdTok_name h (by decide)
    obtain ⟨x, e4⟩ := (hR.mem t (by rw [e1]; exact List.mem_cons_self)).nu e2
    rw [e4] at e3
    subst e3
    intro v H' kk hr hd
    obtain rfl := Dp.intOf hd
    exact k H' kk hr
theorem Vl.nl (v : Vl) : noL v.enc = true := by cases v <;> rfl
theorem Ts.nl (v : Ts) : noL v.enc = true := by
  cases v with
  | tru x => rfl
  | same x v =>
    show (true && (true && (noL v.enc && true))) = true
    rw [Vl.nl]
    rfl
theorem vls_nl (vs : List Vl) : noLs (vs.map Vl.enc) = true := noLs_map (List.all_eq_true.mpr fun v _ => Vl.nl v)
/-! ### values -/
def spVal : Sp := fun vs H Q E => ∃ r ts e rem num, vs = [.ref r] ∧ RAt K H r ts e rem num ∧ match rdVal e rem with
  | .error x => XEr K [r] H E x
  | .ok (v, rem') => ∀ u H', Kp [r] H H' → RAt K H' r ts e rem' num → Dp K H' u v.enc → Q u H'
theorem ok_read_value (T : Tx P K mg) : OkF P w K mg base (L2.CX P w) 3 a_read_value ["reader"] (spVal (K := K)) := by
  have nd := sc_read_value.nd
  have cl := T.c_Reader
  have F_Reader_accept := ok_accept (P := P) (w := w) (base := base) T
  have F_Reader_peek := ok_peek (P := P) (w := w) (base := base) T
  have F_Reader_read := ok_read (P := P) (w := w) (base := base) T
  refine T.f_read_value.ok (CX := L2.CX P w) sc_read_value (fun vs H Q E h => ?_) (fun cdv A outer s H vs Q E hr h => ?_)
  · obtain ⟨_, _, _, _, _, rfl, _⟩ := h
    rfl
  · obtain ⟨r, ts, e, rem, num, rfl, hR, k⟩ := h
    obtain ⟨dx, l, n, h1⟩ := hR.ins
    refine ⟨_, (pss_cons (ps_if (pt_val (pe_meth (pv 0) T.c_Reader T.m_Reader_accept F_Reader_accept (hr.mono (by decide)) T.b_Reader_accept .nil pass0 (pa_cons pe_str (pa_cons pe_str pa_nil))) (fun _ => rfl)) (pss_one (ps_ret (pe_tup (pa_cons pe_str pa_nil)))) pss_nil)
      (pss_cons (ps_if (pt_cmpR op_eq (pe_ix ix_tup (pe_meth0 (pv 0) T.c_Reader T.m_Reader_peek F_Reader_peek (hr.mono (by decide)) T.b_Reader_peek .nil pass0) pe_int (fun _ _ => rfl)) pe_str (nomark _)) (pss_one (ps_ret (pe_tup (pa_cons pe_str (pa_cons (pe_meth (pv 0) T.c_Reader T.m_Reader_read F_Reader_read (hr.mono (by decide)) T.b_Reader_read .nil (passes_call (takes_of rfl rfl rfl rfl) fun _ _ _ _ h => h) (pa_cons pe_str pa_nil)) pa_nil))))) pss_nil)
      (pss_one (ps_ret (pe_tup (pa_cons pe_str (pa_cons (pe_meth (pv 0) T.c_Reader T.m_Reader_read F_Reader_read (hr.mono (by decide)) T.b_Reader_read .nil (passes_call (takes_of rfl rfl rfl rfl) fun _ _ _ _ h => h) (pa_cons pe_str pa_nil)) pa_nil))))))), ?_⟩
    unfold rdVal at k
    walk_at "rd"
    refine ⟨_, _, _, rfl, h1, rfl, ?_⟩
    walk_at "rd"
    refine ⟨r, ts, e, rem, num, "reserved", "nil", rfl, hR, by decide, by decide +kernel, by decide +kernel, fun h H1 k1 hR1 => ?_, fun h H1 k1 hR1 => ?_⟩
    · rw [acc_f h] at k
      dsimp only at k
      obtain ⟨dx, l, n, h1⟩ := hR1.ins
      walk_at "rd"
      refine ⟨_, _, _, rfl, h1, rfl, r, ts, e, rem, num, rfl, hR1, ?_⟩
      intro u H2 k2 hd2
      have hR2 := hR1.kp k2
      obtain ⟨dx, l, n, h2⟩ := hR2.ins
      obtain ⟨q, us, rfl, hsq, hall⟩ := Dp.tupOf hd2
      obtain ⟨v0, hv0, hz0⟩ := DpAll.get hall (i := 0) (d := .str (peekK rem)) rfl
      obtain rfl := Dp.strOf hz0
      walk_at "rd"
      refine ⟨_, _, _, _, rfl, rfl, hsq, atI_nat (j := 0) hv0, ?_⟩
      walk_at "rd"
      refine iteB (fun h => ?_) (fun h => ?_)
      · have he : peekK rem = "number" := V.str.inj (of_decide_eq_true h)
        rw [if_pos he] at k
        walk_at "rd"
        refine ⟨_, _, _, rfl, h2, rfl, ?_⟩
        walk_at "rd"
        refine read_num hR2 ?_
        cases hn : rdNum e rem with
        | error x =>
          rw [hn] at k
          exact k.back (k1.trans k2.nil)
        | ok z =>
          obtain ⟨m, rem2⟩ := z
          rw [hn] at k
          intro H3 k3 hR3
          walk_at "rd"
          refine ⟨szl (Nat.le_of_ble_eq_true rfl), fun p hp => ?_⟩
          exact k _ _ (((k1.trans k2.nil).trans k3).trans (Kp.new hp)) (hR3.kp (Kp.new hp)) (Dp.new (by walk_at "dp") rfl hp)
      · have he : ¬ peekK rem = "number" := fun z => by rw [z] at h; exact absurd h (by decide)
        rw [if_neg he] at k
        walk_at "rd"
        refine ⟨_, _, _, rfl, h2, rfl, ?_⟩
        walk_at "rd"
        refine read_name hR2 ?_
        cases hn : rdName e rem with
        | error x =>
          rw [hn] at k
          exact k.back (k1.trans k2.nil)
        | ok z =>
          obtain ⟨m, rem2⟩ := z
          rw [hn] at k
          intro H3 k3 hR3
          walk_at "rd"
          refine ⟨szl (Nat.le_of_ble_eq_true rfl), fun p hp => ?_⟩
          exact k _ _ (((k1.trans k2.nil).trans k3).trans (Kp.new hp)) (hR3.kp (Kp.new hp)) (Dp.new (by walk_at "dp") rfl hp)
    · rw [acc_t h] at k
      walk_at "rd"
      refine ⟨szl (Nat.le_of_ble_eq_true rfl), fun p hp => ?_⟩
      exact k _ _ (k1.trans (Kp.new hp)) (hR1.kp (Kp.new hp)) (Dp.new (by walk_at "dp") rfl hp)
def spFld : Sp := fun vs H Q E => ∃ r ts e rem num, vs = [.ref r] ∧ RAt K H r ts e rem num ∧ match rdFld e rem with
  | .error x => XEr K [r] H E x
  | .ok (v, rem') => ∀ H', Kp [r] H H' → RAt K H' r ts e rem' num → Q (.str v) H'
theorem ok_read_field (T : Tx P K mg) : OkF P w K mg base (L2.CX P w) 3 a_read_field ["reader"] (spFld (K := K)) := by
  have nd := sc_read_field.nd
  have cl := T.c_Reader
  have F_Reader_place := ok_place (P := P) (w := w) (base := base) T
  have F_Reader_read := ok_read (P := P) (w := w) (base := base) T
  refine T.f_read_field.ok (CX := L2.CX P w) sc_read_field (fun vs H Q E h => ?_) (fun cdv A outer s H vs Q E hr h => ?_)
  · obtain ⟨_, _, _, _, _, rfl, _⟩ := h
    rfl
  · obtain ⟨r, ts, e, rem, num, rfl, hR, k⟩ := h
    obtain ⟨dx, l, n, h1⟩ := hR.ins
    refine ⟨_, (pss_cons (ps_set (i := 1) nd rfl (Or.inl rfl) (pe_meth0 (pv 0) T.c_Reader T.m_Reader_place F_Reader_place (hr.mono (by decide)) T.b_Reader_place .nil pass0))
      (pss_cons (ps_set (i := 2) nd rfl (Or.inl rfl) (pe_meth (pv 0) T.c_Reader T.m_Reader_read F_Reader_read (hr.mono (by decide)) T.b_Reader_read .nil (passes_call (takes_of rfl rfl rfl rfl) fun _ _ _ _ h => h) (pa_cons pe_str pa_nil)))
      (pss_cons (ps_if (pt_cmpR op_notIn_seq (pv 2) (pe_gref T.g_FIELDS) (by with_unfolding_all rfl)) (pss_one (ps_raiseSx rfl T.g_Malformed T.x_Malformed hr (by decide) strR_scal (takes_of rfl rfl rfl rfl) (by exact (pa_cons (pv 1) pa_nil)))) pss_nil)
      (pss_one (ps_ret (pv 2)))))), ?_⟩
    unfold rdFld at k
    walk_at "rd"
    refine ⟨_, _, _, rfl, h1, rfl, r, ts, e, rem, num, rfl, hR, ?_⟩
    walk_at "rd"
    refine ⟨_, _, _, rfl, h1, rfl, ?_⟩
    walk_at "rd"
    refine read_name hR ?_
    cases hn : rdName e rem with
    | error x =>
      rw [hn] at k
      exact k
    | ok z =>
      obtain ⟨f, rem2⟩ := z
      rw [hn] at k
      dsimp only at k
      intro H3 k3 hR3
      walk_at "rd"
      refine ⟨_, _, rfl, .inr (T.t_FIELDS _), rfl, ?_⟩
      have e1 : tl_FIELDS.map (He.Dv.v K) = (["a", "b"] : List Str).map V.str := rfl
      rw [e1]
      refine ⟨flat_strs _, _, rfl, ?_⟩
      rw [inV_strs]
      by_cases hf : f = "a" ∨ f = "b"
      · rw [if_pos hf] at k
        have e2 : decide (f ∈ (["a", "b"] : List Str)) = true := by simpa using hf
        rw [e2]
        refine iteF' rfl ?_
        walk_at "rd"
        exact k _ k3 hR3
      · rw [if_neg hf] at k
        have e2 : decide (f ∈ (["a", "b"] : List Str)) = false := by simpa using hf
        rw [e2]
        refine iteT' rfl ?_
        walk_at "rd"
        exact ⟨soInt hR.plc_le, fun d hd => (XEr.back k k3).new hd⟩
def spTest : Sp := fun vs H Q E => ∃ r ts e rem num, vs = [.ref r] ∧ RAt K H r ts e rem num ∧ match rdTest e rem with
  | .error x => XEr K [r] H E x
  | .ok (v, rem') => ∀ u H', Kp [r] H H' → RAt K H' r ts e rem' num → Dp K H' u v.enc → Q u H'
theorem ok_read_test (T : Tx P K mg) : OkF P w K mg base (L2.CX P w) 4 a_read_test ["reader"] (spTest (K := K)) := by
  have nd := sc_read_test.nd
  have cl := T.c_Reader
  have F_Reader_accept := ok_accept (P := P) (w := w) (base := base) T
  have F_Reader_read := ok_read (P := P) (w := w) (base := base) T
  have F_read_value := ok_read_value (P := P) (w := w) (base := base) T
  refine T.f_read_test.ok (CX := L2.CX P w) sc_read_test (fun vs H Q E h => ?_) (fun cdv A outer s H vs Q E hr h => ?_)
  · obtain ⟨_, _, _, _, _, rfl, _⟩ := h
    rfl
  · obtain ⟨r, ts, e, rem, num, rfl, hR, k⟩ := h
    obtain ⟨dx, l, n, h1⟩ := hR.ins
    refine ⟨_, (pss_cons (ps_set (i := 1) nd rfl (Or.inl rfl) (pe_meth (pv 0) T.c_Reader T.m_Reader_read F_Reader_read (hr.mono (by decide)) T.b_Reader_read .nil (passes_call (takes_of rfl rfl rfl rfl) fun _ _ _ _ h => h) (pa_cons pe_str pa_nil)))
      (pss_cons (ps_if (pt_val (pe_meth (pv 0) T.c_Reader T.m_Reader_accept F_Reader_accept (hr.mono (by decide)) T.b_Reader_accept .nil pass0 (pa_cons pe_str (pa_cons pe_str pa_nil))) (fun _ => rfl)) (pss_one (ps_ret (pe_tup (pa_cons pe_str (pa_cons (pv 1) (pa_cons (pe_call F_read_value (hr.mono (by decide)) rfl T.g_read_value T.k_read_value T.b_read_value .nil (passes_call (takes_of rfl rfl rfl rfl) fun _ _ _ _ h => h) (pa_cons (pv 0) pa_nil)) pa_nil)))))) pss_nil)
      (pss_one (ps_ret (pe_tup (pa_cons pe_str (pa_cons (pv 1) pa_nil))))))), ?_⟩
    unfold rdTest at k
    walk_at "rd"
    refine ⟨_, _, _, rfl, h1, rfl, ?_⟩
    walk_at "rd"
    refine read_name hR ?_
    cases hn : rdName e rem with
    | error x =>
      rw [hn] at k
      exact k
    | ok z =>
      obtain ⟨x, rem2⟩ := z
      rw [hn] at k
      dsimp only at k
      intro H2 k2 hR2
      obtain ⟨dx, l, n, h2⟩ := hR2.ins
      walk_at "rd"
      refine ⟨_, _, _, rfl, h2, rfl, ?_⟩
      walk_at "rd"
      refine ⟨r, ts, e, rem2, num, "sign", "==", rfl, hR2, by decide, by decide +kernel, by decide +kernel, fun h H3 k3 hR3 => ?_, fun h H3 k3 hR3 => ?_⟩
      · rw [acc_f h] at k
        walk_at "rd"
        refine ⟨szl (Nat.le_of_ble_eq_true rfl), fun p hp => ?_⟩
        exact k _ _ ((k2.trans k3).trans (Kp.new hp)) (hR3.kp (Kp.new hp)) (Dp.new (by walk_at "dp") rfl hp)
      · rw [acc_t h] at k
        dsimp only at k
        walk_at "rd"
        refine ⟨r, ts, e, _, num, rfl, hR3, ?_⟩
        cases hv : rdVal e rem2.tail with
        | error x =>
          rw [hv] at k
          exact k.back (k2.trans k3)
        | ok z =>
          obtain ⟨v, rem3⟩ := z
          rw [hv] at k
          intro u H4 k4 hR4 hd4
          walk_at "rd"
          refine ⟨szl (Nat.le_of_ble_eq_true rfl), fun p hp => ?_⟩
          exact k _ _ (((k2.trans k3).trans k4).trans (Kp.new hp)) (hR4.kp (Kp.new hp)) (Dp.new (by walk_at "dp") (Ts.nl (.same x v)) hp)
end
end K14


set_option Elab.async false
set_option linter.all false
set_option maxRecDepth 100000
set_option maxHeartbeats 4000000
namespace K14
open PySem PySem.Spec PyProof.Rows L2 He Hz Cm Lx Px
local macro_rules | `(tactic| walk_at "rd") => `(tactic| repeat (first | (refine ⟨_, rfl, ?_⟩) | (refine ⟨_, _, rfl, rfl, ?_⟩) | (refine ⟨rfl, ?_⟩) | (refine ⟨szl (by omega), ?_⟩) | (refine ⟨_, _, _, _, _, rfl, (by assumption), (by assumption), (by assumption), (by rfl), ?_⟩) | (refine ⟨_, _, rfl, Or.inl (by assumption), ?_⟩)))
local macro_rules | `(tactic| walk_at "dp") => `(tactic| (repeat' (first | exact DpAll.nil | apply DpAll.cons | exact Dp.str _ | exact Dp.int _ | exact Dp.non | exact Dp.bl _ | assumption)))
section
variable {P : Program} {w : World} {K : PySem.W.Frag} {mg : Str → Option Value} {base : Heap} {H H' : Hp} {r : Addr} {ts : Addr × List Tk} {rem : List Tk} {e num : Nat} {Q : VK} {E : XK}
def spVals : Sp := fun vs H Q E => ∃ r ts e rem num f res, vs = [.ref r] ∧ RAt K H r ts e rem num ∧ f ≤ 90000 ∧ rdVals e f rem = some res ∧ match res with
  | .error x => XEr K [r] H E x
  | .ok (v, rem') => ∀ u H', Kp [r] H H' → RAt K H' r ts e rem' num → Dp K H' u (.tuple (v.map Vl.enc)) → Q u H'
theorem ok_read_values (T : Tx P K mg) : OkF P w K mg base (L2.CX P w) 4 a_read_values ["reader"] (spVals (K := K)) := by
  have nd := sc_read_values.nd
  have cl := T.c_Reader
  have F_Reader_accept := ok_accept (P := P) (w := w) (base := base) T
  have F_Reader_expect := ok_expect (P := P) (w := w) (base := base) T
  have F_read_value := ok_read_value (P := P) (w := w) (base := base) T
  refine T.f_read_values.ok (CX := L2.CX P w) sc_read_values (fun vs H Q E h => ?_) (fun cdv A outer s H vs Q E hr h => ?_)
  · obtain ⟨_, _, _, _, _, _, _, rfl, _⟩ := h
    rfl
  · obtain ⟨r, ts, e, rem, num, f, res, rfl, hR, hf, hres, k⟩ := h
    refine ⟨_, (pss_cons (ps_set (i := 1) nd rfl (Or.inl rfl) (pe_lst pa_nil))
      (pss_cons (ps_if (pt_not (pt_val (pe_meth (pv 0) T.c_Reader T.m_Reader_accept F_Reader_accept (hr.mono (by decide)) T.b_Reader_accept .nil pass0 (pa_cons pe_str (pa_cons pe_str pa_nil))) (fun _ => rfl))) (pss_cons (ps_expr (pe_bm PySem.F.plainAttrs_list PySem.F.slot_list_append PySem.F.type_list_append mt_append (pv 1) (pa_cons (pe_call F_read_value (hr.mono (by decide)) rfl T.g_read_value T.k_read_value T.b_read_value .nil (passes_call (takes_of rfl rfl rfl rfl) fun _ _ _ _ h => h) (pa_cons (pv 0) pa_nil)) pa_nil)))
      (pss_cons (ps_while (passes_of rfl) (pt_val (pe_meth (pv 0) T.c_Reader T.m_Reader_accept F_Reader_accept (hr.mono (by decide)) T.b_Reader_accept .nil pass0 (pa_cons pe_str (pa_cons pe_str pa_nil))) (fun _ => rfl)) (pss_one (ps_expr (pe_bm PySem.F.plainAttrs_list PySem.F.slot_list_append PySem.F.type_list_append mt_append (pv 1) (pa_cons (pe_call F_read_value (hr.mono (by decide)) rfl T.g_read_value T.k_read_value T.b_read_value .nil (passes_call (takes_of rfl rfl rfl rfl) fun _ _ _ _ h => h) (pa_cons (pv 0) pa_nil)) pa_nil)))))
      (pss_one (ps_expr (pe_meth (pv 0) T.c_Reader T.m_Reader_expect F_Reader_expect (hr.mono (by decide)) T.b_Reader_expect .nil (passes_call (takes_of rfl rfl rfl rfl) fun _ _ _ _ h => h) (pa_cons pe_str pa_nil)))))) pss_nil)
      (pss_one (ps_ret (pe_callTy call_tuple_of (by rfl) T.n_tuple (by decide +kernel) (pa_cons (pv 1) pa_nil)))))), ?_⟩
    unfold rdVals at hres
    walk_at "rd"
    refine ⟨Nat.zero_le _, fun p hp => ?_⟩
    have hpo := hR.old hp
    have k0 : Kp [r] H (upd H p (.lst [])) := Kp.new hp
    have hR0 := hR.kp (Kp.new (o := .lst []) hp)
    obtain ⟨dx, l, n, h1⟩ := hR0.ins
    have hp0 : (upd H p (.lst [])) p = some (.lst []) := upd_same
    generalize upd H p (.lst []) = H0 at k0 hR0 h1 hp0
    -- what is told at the end
    have fin : ∀ (vs : List Vl) (xs : List V) (rem' : List Tk) (Hn : Hp) (t : Addr), Kp [r] H Hn → RAt K Hn r ts e rem' num → DpAll K Hn xs (vs.map Vl.enc) → Hn t = none → Kp [r] H (upd Hn t (.tup xs)) ∧ RAt K (upd Hn t (.tup xs)) r ts e rem' num ∧ Dp K (upd Hn t (.tup xs)) (.ref t) (.tuple (vs.map Vl.enc)) := fun vs xs rem' Hn t a1 a2 a3 a4 => ⟨a1.trans (Kp.new a4), a2.kp (Kp.new a4), Dp.new a3 (vls_nl vs) a4⟩
    walk_at "rd"
    refine ⟨_, _, _, rfl, h1, rfl, ?_⟩
    walk_at "rd"
    refine ⟨r, ts, e, rem, num, "sign", ")", rfl, hR0, by decide, by decide +kernel, by decide +kernel, fun h H1 k1 hR1 => ?_, fun h H1 k1 hR1 => ?_⟩
    · rw [acc_f h] at hres
      dsimp only at hres
      have hp1 := k1.keep _ _ (by simpa using hpo.1) hp0
      walk_at "rd"
      refine ⟨.inl ⟨rfl, _, SqL.of hp1⟩, ?_⟩
      walk_at "rd"
      refine ⟨r, ts, e, rem, num, rfl, hR1, ?_⟩
      cases hv : rdVal e rem with
      | error x =>
        rw [hv] at hres
        obtain rfl := Option.some.inj hres
        exact k.back (k0.trans k1)
      | ok z =>
        obtain ⟨v, rem2⟩ := z
        rw [hv] at hres
        dsimp only at hres
        intro u H2 k2 hR2 hd2
        have hp2 := k2.keep _ _ (by simpa using hpo.1) hp1
        refine ⟨_, _, _, rfl, rfl, hp2, szt (by decide), ?_⟩
        walk_at "rd"
        have grow : ∀ (done : List Vl) (xs : List V) (v : Vl) (u : V) (Hn : Hp), Hn p = some (.lst xs) → Kp [r] H Hn → DpAll K Hn xs (done.map Vl.enc) → Dp K Hn u v.enc → Kp [r] H (upd Hn p (.lst (xs ++ [u]))) ∧ (upd Hn p (.lst (xs ++ [u]))) p = some (.lst (xs ++ [u])) ∧ DpAll K (upd Hn p (.lst (xs ++ [u]))) (xs ++ [u]) ((done ++ [v]).map Vl.enc) := fun done xs v u Hn a1 a2 a3 a4 => by
          have kk : Kp [p] Hn (upd Hn p (.lst (xs ++ [u]))) := Kp.put a1 nt_lst (by simp)
          refine ⟨a2.mine hp, upd_same, ?_⟩
          rw [List.map_append]
          exact DpAll.snoc (Dp.kps kk _ _ (vls_nl done) a3) (Dp.kp kk _ _ (Vl.nl v) a4)
        have fin2 : ∀ (done : List Vl) (res' : Except Er (List Vl × List Tk)), (match res' with
            | .error x => XEr K [r] H E x
            | .ok (vs, rem3) => match expct e ")" rem3 with
              | .error x => XEr K [r] H E x
              | .ok r3 => ∀ u Hn, Kp [r] H Hn → RAt K Hn r ts e r3 num → Dp K Hn u (.tuple ((done ++ vs).map Vl.enc)) → Q u Hn) → True := fun _ _ _ => trivial
        refine ⟨fun f' σ H' => ∃ (done : List Vl) (xs : List V) (rem' : List Tk) (res' : Except Er (List Vl × List Tk)), done.length + f' ≤ 90001 ∧ σ = [some (.ref r), some (.ref p)] ∧ Kp [r] H H' ∧ H' p = some (.lst xs) ∧ DpAll K H' xs (done.map Vl.enc) ∧ RAt K H' r ts e rem' num ∧ rdMore e f' rem' = some res' ∧ (match res' with
            | .error x => XEr K [r] H E x
            | .ok (vs, rem3) => match expct e ")" rem3 with
              | .error x => XEr K [r] H E x
              | .ok r3 => ∀ u Hn, Kp [r] H Hn → RAt K Hn r ts e r3 num → Dp K Hn u (.tuple ((done ++ vs).map Vl.enc)) → Q u Hn), ⟨f, ?_⟩, ?_⟩
        · obtain ⟨g1, g2, g3⟩ := grow [] [] v u H2 hp2 ((k0.trans k1).trans k2) .nil hd2
          cases hm : rdMore e f rem2 with
          | none =>
            rw [hm] at hres
            cases hres
          | some res' =>
            rw [hm] at hres
            refine ⟨[v], [u], rem2, res', by show 1 + f ≤ 90001; omega, rfl, g1, g2, g3, hR2.mine hpo hp2 nt_lst, hm, ?_⟩
            cases res' with
            | error x =>
              obtain rfl := Option.some.inj hres
              exact k
            | ok z =>
              obtain ⟨vs, rem3⟩ := z
              dsimp only at hres ⊢
              cases hx : expct e ")" rem3 with
              | error x =>
                rw [hx] at hres
                obtain rfl := Option.some.inj hres
                exact k
              | ok r3 =>
                rw [hx] at hres
                obtain rfl := Option.some.inj hres
                exact k
        rintro f' σ H' ⟨done, xs, rem', res', hfl, rfl, k3, hp3, hd3, hR3, hm, kr⟩
        obtain ⟨dx, l, n, h3⟩ := hR3.ins
        obtain ⟨f', rfl⟩ : ∃ m, f' = m + 1 := by
          cases f' with
          | zero => cases hm
          | succ m => exact ⟨m, rfl⟩
        unfold rdMore at hm
        walk_at "rd"
        refine ⟨_, _, _, rfl, h3, rfl, ?_⟩
        walk_at "rd"
        refine ⟨r, ts, e, rem', num, "sign", ",", rfl, hR3, by decide, by decide +kernel, by decide +kernel, fun h H4 k4 hR4 => ?_, fun h H4 k4 hR4 => ?_⟩
        · rw [acc_f h] at hm
          obtain rfl := Option.some.inj hm
          dsimp only at kr
          obtain ⟨dx, l, n, h4⟩ := hR4.ins
          have hp4 := k4.keep _ _ (by simpa using hpo.1) hp3
          walk_at "rd"
          refine ⟨_, _, _, rfl, h4, rfl, ?_⟩
          walk_at "rd"
          refine ⟨r, ts, e, rem', num, ")", rfl, hR4, by decide +kernel, ?_⟩
          cases hx : expct e ")" rem' with
          | error x =>
            rw [hx] at kr
            exact kr.back (k3.trans k4)
          | ok r3 =>
            rw [hx] at kr
            intro H5 k5 hR5
            have hp5 := k5.keep _ _ (by simpa using hpo.1) hp4
            walk_at "rd"
            refine ⟨_, _, rfl, .inl ⟨SqL.of hp5, fun t ht => ?_⟩⟩
            obtain ⟨a1, a2, a3⟩ := fin done xs r3 H5 t ((k3.trans k4).trans k5) hR5 (Dp.kps k5 _ _ (vls_nl _) (Dp.kps k4 _ _ (vls_nl _) hd3)) ht
            exact kr _ _ a1 a2 (by rw [List.append_nil]; exact a3)
        · rw [acc_t h] at hm
          dsimp only at hm
          have hp4 := k4.keep _ _ (by simpa using hpo.1) hp3
          walk_at "rd"
          refine ⟨_, fun _ _ z => z, ?_⟩
          walk_at "rd"
          refine ⟨.inl ⟨rfl, _, SqL.of hp4⟩, ?_⟩
          walk_at "rd"
          refine ⟨r, ts, e, _, num, rfl, hR4, ?_⟩
          cases hv2 : rdVal e rem'.tail with
          | error x =>
            rw [hv2] at hm
            obtain rfl := Option.some.inj hm
            exact kr.back (k3.trans k4)
          | ok z =>
            obtain ⟨v2, rem3⟩ := z
            rw [hv2] at hm
            dsimp only at hm
            intro u2 H5 k5 hR5 hd5
            have hp5 := k5.keep _ _ (by simpa using hpo.1) hp4
            have hxl : xs.length = done.length := by rw [DpAll.length hd3, List.length_map]
            refine ⟨_, _, _, rfl, rfl, hp5, szt (by omega), ?_⟩
            walk_at "rd"
            obtain ⟨g1, g2, g3⟩ := grow done xs v2 u2 H5 hp5 ((k3.trans k4).trans k5) (Dp.kps k5 _ _ (vls_nl _) (Dp.kps k4 _ _ (vls_nl _) hd3)) hd5
            cases hm2 : rdMore e f' rem3 with
            | none =>
              rw [hm2] at hm
              cases hm
            | some res2 =>
              rw [hm2] at hm
              refine ⟨f', Nat.lt_succ_self _, done ++ [v2], xs ++ [u2], rem3, res2, by rw [List.length_append]; show done.length + 1 + f' ≤ 90001; omega, rfl, g1, g2, g3, hR5.mine hpo hp5 nt_lst, hm2, ?_⟩
              cases res2 with
              | error x =>
                obtain rfl := Option.some.inj hm
                exact kr
              | ok z =>
                obtain ⟨vs, rem4⟩ := z
                obtain rfl := Option.some.inj hm
                dsimp only at kr ⊢
                rw [List.append_assoc]
                exact kr
    · rw [acc_t h] at hres
      obtain rfl := Option.some.inj hres
      have hp1 := k1.keep _ _ (by simpa using hpo.1) hp0
      walk_at "rd"
      refine ⟨_, _, rfl, .inl ⟨SqL.of hp1, fun t ht => ?_⟩⟩
      obtain ⟨a1, a2, a3⟩ := fin [] [] rem.tail H1 t (k0.trans k1) hR1 .nil ht
      exact k _ _ a1 a2 a3
end
end K14


set_option Elab.async false
set_option linter.all false
set_option maxRecDepth 100000
set_option maxHeartbeats 4000000
namespace K14
open PySem PySem.Spec PyProof.Rows L2 He Hz Cm Lx Px
local macro_rules | `(tactic| walk_at "rd") => `(tactic| repeat (first | (refine ⟨_, rfl, ?_⟩) | (refine ⟨_, _, rfl, rfl, ?_⟩) | (refine ⟨rfl, ?_⟩) | (refine ⟨szl (by omega), ?_⟩) | (refine ⟨_, _, _, _, _, rfl, (by assumption), (by assumption), (by assumption), (by rfl), ?_⟩) | (refine ⟨_, _, rfl, Or.inl (by assumption), ?_⟩)))
local macro_rules | `(tactic| walk_at "dp") => `(tactic| (repeat' (first | exact DpAll.nil | apply DpAll.cons | exact Dp.str _ | exact Dp.int _ | exact Dp.non | exact Dp.bl _ | assumption)))
section
variable {P : Program} {w : World} {K : PySem.W.Frag} {mg : Str → Option Value} {base : Heap} {H H' : Hp} {r : Addr} {ts : Addr × List Tk} {rem : List Tk} {e num : Nat} {Q : VK} {E : XK}
mutual
theorem Sm.nl : ∀ s : Sm, noL s.enc = true
  | .new x k => rfl
  | .set x v k => by
    show (true && (true && (noL v.enc && (true && true)))) = true
    rw [Vl.nl]
    rfl
  | .load x y f k => rfl
  | .add x y n k => rfl
  | .call x g vs k => by
    show (true && (true && (true && (noLs (vs.map Vl.enc) && (true && true))))) = true
    rw [vls_nl]
    rfl
  | .store x f v k => by
    show (true && (true && (true && (noL v.enc && (true && true))))) = true
    rw [Vl.nl]
    rfl
  | .out x k => rfl
  | .ret v k => by
    show (true && (noL v.enc && (true && true))) = true
    rw [Vl.nl]
    rfl
  | .ite t a b k => by
    show (true && (noL t.enc && (noLs (encs a) && (noLs (encs b) && (true && true))))) = true
    rw [Ts.nl, Sms.nl a, Sms.nl b]
    rfl
  | .whl t a k => by
    show (true && (noL t.enc && (noLs (encs a) && (true && true)))) = true
    rw [Ts.nl, Sms.nl a]
    rfl
theorem Sms.nl : ∀ l : List Sm, noLs (encs l) = true
  | [] => rfl
  | s :: l => by
    show (noL s.enc && noLs (encs l)) = true
    rw [Sm.nl s, Sms.nl l]
    rfl
end
def SOut (K : PySem.W.Frag) (H : Hp) (Q : VK) (E : XK) (r : Addr) (ts : Addr × List Tk) (e num : Nat) : Except Er (Sm × List Tk) → Prop
  | .error x => XEr K [r] H E x
  | .ok (v, rem') => ∀ u H', Kp [r] H H' → RAt K H' r ts e rem' num → Dp K H' u v.enc → Q u H'
theorem SOut.back {H1 : Hp} : ∀ {res : Except Er (Sm × List Tk)}, SOut K H Q E r ts e num res → Kp [r] H H1 → SOut K H1 Q E r ts e num res
  | .error x, k, k1 => XEr.back k k1
  | .ok (v, rem'), k, k1 => fun u H' a b c => k u H' (k1.trans a) b c
def spRight : Sp := fun vs H Q E => ∃ r ts e rem num x k f res, vs = [.ref r, .str x, .int (k : Nat)] ∧ RAt K H r ts e rem num ∧ f ≤ 90000 ∧ rdRight e f x k rem = some res ∧ SOut K H Q E r ts e num res
theorem ok_read_right (T : Tx P K mg) : OkF P w K mg base (L2.CX P w) 5 a_read_right ["reader", "x", "number"] (spRight (K := K)) := by
  have nd := sc_read_right.nd
  have cl := T.c_Reader
  have F_Reader_accept := ok_accept (P := P) (w := w) (base := base) T
  have F_Reader_peek := ok_peek (P := P) (w := w) (base := base) T
  have F_Reader_read := ok_read (P := P) (w := w) (base := base) T
  have F_read_value := ok_read_value (P := P) (w := w) (base := base) T
  have F_read_field := ok_read_field (P := P) (w := w) (base := base) T
  have F_read_values := ok_read_values (P := P) (w := w) (base := base) T
  refine T.f_read_right.ok (CX := L2.CX P w) sc_read_right (fun vs H Q E h => ?_) (fun cdv A outer s H vs Q E hr h => ?_)
  · obtain ⟨_, _, _, _, _, _, _, _, _, rfl, _⟩ := h
    rfl
  · obtain ⟨r, ts, e, rem, num, x, kk, f, res, rfl, hR, hf, hres, k⟩ := h
    obtain ⟨dx, l, n, h1⟩ := hR.ins
    refine ⟨_, (pss_cons (ps_if (pt_val (pe_meth (pv 0) T.c_Reader T.m_Reader_accept F_Reader_accept (hr.mono (by decide)) T.b_Reader_accept .nil pass0 (pa_cons pe_str (pa_cons pe_str pa_nil))) (fun _ => rfl)) (pss_one (ps_ret (pe_tup (pa_cons pe_str (pa_cons (pv 1) (pa_cons (pv 2) pa_nil)))))) pss_nil)
      (pss_cons (ps_if (pt_cmpR op_ne (pe_ix ix_tup (pe_meth0 (pv 0) T.c_Reader T.m_Reader_peek F_Reader_peek (hr.mono (by decide)) T.b_Reader_peek .nil pass0) pe_int (fun _ _ => rfl)) pe_str (nomark _)) (pss_one (ps_ret (pe_tup (pa_cons pe_str (pa_cons (pv 1) (pa_cons (pe_call F_read_value (hr.mono (by decide)) rfl T.g_read_value T.k_read_value T.b_read_value .nil (passes_call (takes_of rfl rfl rfl rfl) fun _ _ _ _ h => h) (pa_cons (pv 0) pa_nil)) (pa_cons (pv 2) pa_nil))))))) pss_nil)
      (pss_cons (ps_set (i := 3) nd rfl (Or.inl rfl) (pe_meth (pv 0) T.c_Reader T.m_Reader_read F_Reader_read (hr.mono (by decide)) T.b_Reader_read .nil (passes_call (takes_of rfl rfl rfl rfl) fun _ _ _ _ h => h) (pa_cons pe_str pa_nil)))
      (pss_cons (ps_if (pt_val (pe_meth (pv 0) T.c_Reader T.m_Reader_accept F_Reader_accept (hr.mono (by decide)) T.b_Reader_accept .nil pass0 (pa_cons pe_str (pa_cons pe_str pa_nil))) (fun _ => rfl)) (pss_one (ps_ret (pe_tup (pa_cons pe_str (pa_cons (pv 1) (pa_cons (pv 3) (pa_cons (pe_call F_read_field (hr.mono (by decide)) rfl T.g_read_field T.k_read_field T.b_read_field .nil (passes_call (takes_of rfl rfl rfl rfl) fun _ _ _ _ h => h) (pa_cons (pv 0) pa_nil)) (pa_cons (pv 2) pa_nil)))))))) pss_nil)
      (pss_cons (ps_if (pt_val (pe_meth (pv 0) T.c_Reader T.m_Reader_accept F_Reader_accept (hr.mono (by decide)) T.b_Reader_accept .nil pass0 (pa_cons pe_str (pa_cons pe_str pa_nil))) (fun _ => rfl)) (pss_one (ps_ret (pe_tup (pa_cons pe_str (pa_cons (pv 1) (pa_cons (pv 3) (pa_cons (pe_call F_read_values (hr.mono (by decide)) rfl T.g_read_values T.k_read_values T.b_read_values .nil (passes_call (takes_of rfl rfl rfl rfl) fun _ _ _ _ h => h) (pa_cons (pv 0) pa_nil)) (pa_cons (pv 2) pa_nil)))))))) pss_nil)
      (pss_cons (ps_if (pt_val (pe_meth (pv 0) T.c_Reader T.m_Reader_accept F_Reader_accept (hr.mono (by decide)) T.b_Reader_accept .nil pass0 (pa_cons pe_str (pa_cons pe_str pa_nil))) (fun _ => rfl)) (pss_one (ps_ret (pe_tup (pa_cons pe_str (pa_cons (pv 1) (pa_cons (pv 3) (pa_cons (pe_meth (pv 0) T.c_Reader T.m_Reader_read F_Reader_read (hr.mono (by decide)) T.b_Reader_read .nil (passes_call (takes_of rfl rfl rfl rfl) fun _ _ _ _ h => h) (pa_cons pe_str pa_nil)) (pa_cons (pv 2) pa_nil)))))))) pss_nil)
      (pss_cons (ps_if (pt_val (pe_meth (pv 0) T.c_Reader T.m_Reader_accept F_Reader_accept (hr.mono (by decide)) T.b_Reader_accept .nil pass0 (pa_cons pe_str (pa_cons pe_str pa_nil))) (fun _ => rfl)) (pss_one (ps_ret (pe_tup (pa_cons pe_str (pa_cons (pv 1) (pa_cons (pv 3) (pa_cons (pe_op op_mod (pe_un un_neg (pe_meth (pv 0) T.c_Reader T.m_Reader_read F_Reader_read (hr.mono (by decide)) T.b_Reader_read .nil (passes_call (takes_of rfl rfl rfl rfl) fun _ _ _ _ h => h) (pa_cons pe_str pa_nil))) pe_int) (pa_cons (pv 2) pa_nil)))))))) pss_nil)
      (pss_one (ps_ret (pe_tup (pa_cons pe_str (pa_cons (pv 1) (pa_cons (pe_tup (pa_cons pe_str (pa_cons (pv 3) pa_nil))) (pa_cons (pv 2) pa_nil)))))))))))))), ?_⟩
    unfold rdRight at hres
    -- a tuple that is told
    have fin : ∀ (s : Sm) (xs : List V) (ds : List PyData) (rem' : List Tk) (Hn : Hp), s.enc = .tuple ds → res = .ok (s, rem') → Kp [r] H Hn → RAt K Hn r ts e rem' num → DpAll K Hn xs ds → ∀ t, Hn t = none → Q (.ref t) (upd Hn t (.tup xs)) := fun s xs ds rem' Hn es er a2 a3 a4 t ht => by
      subst er
      have nl := Sm.nl s
      rw [es] at nl
      exact k _ _ (a2.trans (Kp.new ht)) (a3.kp (Kp.new ht)) (by rw [es]; exact Dp.new a4 nl ht)
    walk_at "rd"
    refine ⟨_, _, _, rfl, h1, rfl, ?_⟩
    walk_at "rd"
    refine ⟨r, ts, e, rem, num, "reserved", "new", rfl, hR, by decide, by decide +kernel, by decide +kernel, fun h H1 k1 hR1 => ?_, fun h H1 k1 hR1 => ?_⟩
    rotate_left
    · -- new
      rw [acc_t h] at hres
      obtain rfl := Option.some.inj hres
      walk_at "rd"
      refine ⟨szl (Nat.le_of_ble_eq_true rfl), fin _ _ _ _ _ rfl rfl k1 hR1 (by walk_at "dp")⟩
    rw [acc_f h] at hres
    dsimp only at hres
    clear h
    obtain ⟨dx, l, n, h1⟩ := hR1.ins
    walk_at "rd"
    refine ⟨_, _, _, rfl, h1, rfl, r, ts, e, rem, num, rfl, hR1, ?_⟩
    intro u H2 k2 hd2
    have hR2 := hR1.kp k2
    replace k2 : Kp [r] H H2 := k1.trans k2.nil
    obtain ⟨q, us, rfl, hsq, hall⟩ := Dp.tupOf hd2
    obtain ⟨v0, hv0, hz0⟩ := DpAll.get hall (i := 0) (d := .str (peekK rem)) rfl
    obtain rfl := Dp.strOf hz0
    walk_at "rd"
    refine ⟨_, _, _, _, rfl, rfl, hsq, atI_nat (j := 0) hv0, ?_⟩
    walk_at "rd"
    refine iteB (fun h => ?_) (fun h => ?_)
    · have he : peekK rem ≠ "name" := fun z => by
        rw [z] at h
        exact absurd h (by decide)
      rw [if_pos he] at hres
      walk_at "rd"
      refine ⟨r, ts, e, rem, num, rfl, hR2, ?_⟩
      cases hv : rdVal e rem with
      | error x =>
        rw [hv] at hres
        obtain rfl := Option.some.inj hres
        exact XEr.back k k2
      | ok z =>
        obtain ⟨v, rem2⟩ := z
        rw [hv] at hres
        obtain rfl := Option.some.inj hres
        intro u3 H3 k3 hR3 hd3
        walk_at "rd"
        exact ⟨szl (Nat.le_of_ble_eq_true rfl), fin (.set x v kk) _ _ _ _ rfl rfl (k2.trans k3) hR3 (by walk_at "dp")⟩
    have he : ¬ peekK rem ≠ "name" := fun z => by
      have z2 : ¬ V.str (peekK rem) = V.str "name" := fun q => z (V.str.inj q)
      have z3 : (!decide (V.str (peekK rem) = V.str "name")) = false := h
      rw [decide_eq_false z2] at z3
      cases z3
    rw [if_neg he] at hres
    clear h
    obtain ⟨dx, l, n, h2⟩ := hR2.ins
    walk_at "rd"
    refine ⟨_, _, _, rfl, h2, rfl, ?_⟩
    walk_at "rd"
    refine read_name hR2 ?_
    cases hn : rdName e rem with
    | error x =>
      rw [hn] at hres
      obtain rfl := Option.some.inj hres
      exact XEr.back k k2
    | ok z =>
      obtain ⟨y, rem2⟩ := z
      rw [hn] at hres
      dsimp only at hres
      intro H3 k3 hR3
      replace k3 := k2.trans k3
      obtain ⟨dx, l, n, h1⟩ := hR3.ins
      walk_at "rd"
      refine ⟨_, _, _, rfl, h1, rfl, ?_⟩
      walk_at "rd"
      refine ⟨r, ts, e, _, num, "sign", ".", rfl, hR3, by decide, by decide +kernel, by decide +kernel, fun h H4 k4 hR4 => ?_, fun h H4 k4 hR4 => ?_⟩
      rotate_left
      · rw [acc_t h] at hres
        dsimp only at hres
        replace k4 := k3.trans k4

        walk_at "rd"
        refine ⟨r, ts, e, _, num, rfl, hR4, ?_⟩
        cases hv : rdFld e rem2.tail with
        | error x =>
          rw [hv] at hres
          obtain rfl := Option.some.inj hres
          exact XEr.back k k4
        | ok z =>
          obtain ⟨g, rem3⟩ := z
          rw [hv] at hres
          obtain rfl := Option.some.inj hres
          intro H5 k5 hR5
          walk_at "rd"
          exact ⟨szl (Nat.le_of_ble_eq_true rfl), fin (.load x y g kk) _ _ _ _ rfl rfl (k4.trans k5) hR5 (by walk_at "dp")⟩
      rw [acc_f h] at hres
      dsimp only at hres
      replace k4 := k3.trans k4
      clear h
      obtain ⟨dx, l, n, h1⟩ := hR4.ins
      walk_at "rd"
      refine ⟨_, _, _, rfl, h1, rfl, ?_⟩
      walk_at "rd"
      refine ⟨r, ts, e, _, num, "sign", "(", rfl, hR4, by decide, by decide +kernel, by decide +kernel, fun h H5 k5 hR5 => ?_, fun h H5 k5 hR5 => ?_⟩
      rotate_left
      · rw [acc_t h] at hres
        dsimp only at hres
        replace k5 := k4.trans k5

        walk_at "rd"
        cases hv : rdVals e f rem2.tail with
        | none =>
          rw [hv] at hres
          cases hres
        | some rv =>
          refine ⟨r, ts, e, _, num, f, rv, rfl, hR5, hf, hv, ?_⟩
          rw [hv] at hres
          cases rv with
          | error x =>
            obtain rfl := Option.some.inj hres
            exact XEr.back k k5
          | ok z =>
            obtain ⟨vs, rem3⟩ := z
            obtain rfl := Option.some.inj hres
            intro u6 H6 k6 hR6 hd6
            walk_at "rd"
            exact ⟨szl (Nat.le_of_ble_eq_true rfl), fin (.call x y vs kk) _ _ _ _ rfl rfl (k5.trans k6) hR6 (by walk_at "dp")⟩
      rw [acc_f h] at hres
      dsimp only at hres
      replace k5 := k4.trans k5
      clear h
      obtain ⟨dx, l, n, h1⟩ := hR5.ins
      walk_at "rd"
      refine ⟨_, _, _, rfl, h1, rfl, ?_⟩
      walk_at "rd"
      refine ⟨r, ts, e, _, num, "sign", "+", rfl, hR5, by decide, by decide +kernel, by decide +kernel, fun h H6 k6 hR6 => ?_, fun h H6 k6 hR6 => ?_⟩
      rotate_left
      · rw [acc_t h] at hres
        dsimp only at hres
        replace k6 := k5.trans k6

        obtain ⟨dx, l, n, h6⟩ := hR6.ins
        walk_at "rd"
        refine ⟨_, _, _, rfl, h6, rfl, ?_⟩
        walk_at "rd"
        refine read_num hR6 ?_
        cases hv : rdNum e rem2.tail with
        | error x =>
          rw [hv] at hres
          obtain rfl := Option.some.inj hres
          exact XEr.back k k6
        | ok z =>
          obtain ⟨g, rem3⟩ := z
          rw [hv] at hres
          obtain rfl := Option.some.inj hres
          intro H7 k7 hR7
          walk_at "rd"
          exact ⟨szl (Nat.le_of_ble_eq_true rfl), fin (.add x y g kk) _ _ _ _ rfl rfl (k6.trans k7) hR7 (by walk_at "dp")⟩
      rw [acc_f h] at hres
      dsimp only at hres
      replace k6 := k5.trans k6
      clear h
      obtain ⟨dx, l, n, h1⟩ := hR6.ins
      walk_at "rd"
      refine ⟨_, _, _, rfl, h1, rfl, ?_⟩
      walk_at "rd"
      refine ⟨r, ts, e, _, num, "sign", "-", rfl, hR6, by decide, by decide +kernel, by decide +kernel, fun h H7 k7 hR7 => ?_, fun h H7 k7 hR7 => ?_⟩
      rotate_left
      · rw [acc_t h] at hres
        dsimp only at hres
        replace k7 := k6.trans k7

        obtain ⟨dx, l, n, h7⟩ := hR7.ins
        walk_at "rd"
        refine ⟨_, _, _, rfl, h7, rfl, ?_⟩
        walk_at "rd"
        refine read_num hR7 ?_
        cases hv : rdNum e rem2.tail with
        | error x =>
          rw [hv] at hres
          obtain rfl := Option.some.inj hres
          exact XEr.back k k7
        | ok z =>
          obtain ⟨g, rem3⟩ := z
          rw [hv] at hres
          obtain rfl := Option.some.inj hres
          intro H8 k8 hR8
          walk_at "rd"
          refine ⟨(by show (0 : Int) < 65536; decide), ?_⟩
          walk_at "rd"
          exact ⟨szl (Nat.le_of_ble_eq_true rfl), fin (.add x y (-g % 65536) kk) _ _ _ _ rfl rfl (k7.trans k8) hR8 (by walk_at "dp")⟩
      rw [acc_f h] at hres
      dsimp only at hres
      replace k7 := k6.trans k7
      clear h
      obtain rfl := Option.some.inj hres
      walk_at "rd"
      refine ⟨szl (Nat.le_of_ble_eq_true rfl), fun q hq => ?_⟩
      walk_at "rd"
      have kq : Kp [] H7 (upd H7 q (.tup [.str "name", .str y])) := Kp.new hq
      refine ⟨szl (Nat.le_of_ble_eq_true rfl), fin (.set x (.nm y) kk) _ _ _ _ rfl rfl (k7.trans kq.nil) (hR7.kp kq) ?_⟩
      exact .cons (.str _) (.cons (.str _) (.cons (Dp.new (ds := [.str "name", .str y]) (by walk_at "dp") rfl hq) (.cons (.int _) .nil)))
def spAsg : Sp := fun vs H Q E => ∃ r ts e rem num k f res, vs = [.ref r, .int (k : Nat)] ∧ RAt K H r ts e rem num ∧ f ≤ 90000 ∧ rdAsg e f k rem = some res ∧ SOut K H Q E r ts e num res
theorem ok_read_assignment (T : Tx P K mg) : OkF P w K mg base (L2.CX P w) 6 a_read_assignment ["reader", "number"] (spAsg (K := K)) := by
  have nd := sc_read_assignment.nd
  have cl := T.c_Reader
  have F_Reader_accept := ok_accept (P := P) (w := w) (base := base) T
  have F_Reader_expect := ok_expect (P := P) (w := w) (base := base) T
  have F_Reader_read := ok_read (P := P) (w := w) (base := base) T
  have F_read_value := ok_read_value (P := P) (w := w) (base := base) T
  have F_read_field := ok_read_field (P := P) (w := w) (base := base) T
  have F_read_right := ok_read_right (P := P) (w := w) (base := base) T
  refine T.f_read_assignment.ok (CX := L2.CX P w) sc_read_assignment (fun vs H Q E h => ?_) (fun cdv A outer s H vs Q E hr h => ?_)
  · obtain ⟨_, _, _, _, _, _, _, _, rfl, _⟩ := h
    rfl
  · obtain ⟨r, ts, e, rem, num, kk, f, res, rfl, hR, hf, hres, k⟩ := h
    obtain ⟨dx, l, n, h1⟩ := hR.ins
    refine ⟨_, (pss_cons (ps_set (i := 2) nd rfl (Or.inl rfl) (pe_meth (pv 0) T.c_Reader T.m_Reader_read F_Reader_read (hr.mono (by decide)) T.b_Reader_read .nil (passes_call (takes_of rfl rfl rfl rfl) fun _ _ _ _ h => h) (pa_cons pe_str pa_nil)))
      (pss_cons (ps_if (pt_val (pe_meth (pv 0) T.c_Reader T.m_Reader_accept F_Reader_accept (hr.mono (by decide)) T.b_Reader_accept .nil pass0 (pa_cons pe_str (pa_cons pe_str pa_nil))) (fun _ => rfl)) (pss_cons (ps_set (i := 3) nd rfl (Or.inl rfl) (pe_call F_read_field (hr.mono (by decide)) rfl T.g_read_field T.k_read_field T.b_read_field .nil (passes_call (takes_of rfl rfl rfl rfl) fun _ _ _ _ h => h) (pa_cons (pv 0) pa_nil)))
      (pss_cons (ps_expr (pe_meth (pv 0) T.c_Reader T.m_Reader_expect F_Reader_expect (hr.mono (by decide)) T.b_Reader_expect .nil (passes_call (takes_of rfl rfl rfl rfl) fun _ _ _ _ h => h) (pa_cons pe_str pa_nil)))
      (pss_one (ps_ret (pe_tup (pa_cons pe_str (pa_cons (pv 2) (pa_cons (pv 3) (pa_cons (pe_call F_read_value (hr.mono (by decide)) rfl T.g_read_value T.k_read_value T.b_read_value .nil (passes_call (takes_of rfl rfl rfl rfl) fun _ _ _ _ h => h) (pa_cons (pv 0) pa_nil)) (pa_cons (pv 1) pa_nil)))))))))) pss_nil)
      (pss_cons (ps_expr (pe_meth (pv 0) T.c_Reader T.m_Reader_expect F_Reader_expect (hr.mono (by decide)) T.b_Reader_expect .nil (passes_call (takes_of rfl rfl rfl rfl) fun _ _ _ _ h => h) (pa_cons pe_str pa_nil)))
      (pss_one (ps_ret (pe_call F_read_right (hr.mono (by decide)) rfl T.g_read_right T.k_read_right T.b_read_right .nil (passes_call (takes_of rfl rfl rfl rfl) fun _ _ _ _ h => h) (pa_cons (pv 0) (pa_cons (pv 2) (pa_cons (pv 1) pa_nil))))))))), ?_⟩
    unfold rdAsg at hres
    walk_at "rd"
    refine ⟨_, _, _, rfl, h1, rfl, ?_⟩
    walk_at "rd"
    refine read_name hR ?_
    cases hn : rdName e rem with
    | error x =>
      rw [hn] at hres
      obtain rfl := Option.some.inj hres
      exact k
    | ok z =>
      obtain ⟨x, rem2⟩ := z
      rw [hn] at hres
      dsimp only at hres
      intro H3 k3 hR3
      obtain ⟨dx, l, n, h1⟩ := hR3.ins
      walk_at "rd"
      refine ⟨_, _, _, rfl, h1, rfl, ?_⟩
      walk_at "rd"
      refine ⟨r, ts, e, _, num, "sign", ".", rfl, hR3, by decide, by decide +kernel, by decide +kernel, fun h H4 k4 hR4 => ?_, fun h H4 k4 hR4 => ?_⟩
      · rw [acc_f h] at hres
        dsimp only at hres
        replace k4 := k3.trans k4
        obtain ⟨dx, l, n, h4⟩ := hR4.ins
        walk_at "rd"
        refine ⟨_, _, _, rfl, h4, rfl, ?_⟩
        walk_at "rd"
        refine ⟨r, ts, e, rem2, num, "=", rfl, hR4, by decide +kernel, ?_⟩
        cases hx : expct e "=" rem2 with
        | error x =>
          rw [hx] at hres
          obtain rfl := Option.some.inj hres
          exact XEr.back k k4
        | ok r3 =>
          rw [hx] at hres
          dsimp only at hres
          intro H5 k5 hR5
          walk_at "rd"
          exact ⟨r, ts, e, r3, num, x, kk, f, res, rfl, hR5, hf, hres, k.back (k4.trans k5)⟩
      · rw [acc_t h] at hres
        dsimp only at hres
        replace k4 := k3.trans k4
        walk_at "rd"
        refine ⟨r, ts, e, _, num, rfl, hR4, ?_⟩
        cases hv : rdFld e rem2.tail with
        | error x =>
          rw [hv] at hres
          obtain rfl := Option.some.inj hres
          exact XEr.back k k4
        | ok z =>
          obtain ⟨g, rem3⟩ := z
          rw [hv] at hres
          dsimp only at hres
          intro H5 k5 hR5
          replace k5 := k4.trans k5
          obtain ⟨dx, l, n, h5⟩ := hR5.ins
          walk_at "rd"
          refine ⟨_, _, _, rfl, h5, rfl, ?_⟩
          walk_at "rd"
          refine ⟨r, ts, e, rem3, num, "=", rfl, hR5, by decide +kernel, ?_⟩
          cases hx : expct e "=" rem3 with
          | error x =>
            rw [hx] at hres
            obtain rfl := Option.some.inj hres
            exact XEr.back k k5
          | ok r4 =>
            rw [hx] at hres
            dsimp only at hres
            intro H6 k6 hR6
            replace k6 := k5.trans k6
            walk_at "rd"
            refine ⟨r, ts, e, r4, num, rfl, hR6, ?_⟩
            cases hv : rdVal e r4 with
            | error x =>
              rw [hv] at hres
              obtain rfl := Option.some.inj hres
              exact XEr.back k k6
            | ok z =>
              obtain ⟨v, r5⟩ := z
              rw [hv] at hres
              obtain rfl := Option.some.inj hres
              intro u H7 k7 hR7 hd7
              walk_at "rd"
              refine ⟨szl (Nat.le_of_ble_eq_true rfl), fun q hq => ?_⟩
              exact k _ _ ((k6.trans k7).trans (Kp.new hq)) (hR7.kp (Kp.new hq)) (Dp.new (by walk_at "dp") (Sm.nl (.store x g v kk)) hq)
end
end K14


set_option Elab.async false
set_option linter.all false
set_option maxRecDepth 100000
set_option maxHeartbeats 4000000
namespace K14
open PySem PySem.Spec PyProof.Rows L2 He Hz Cm Lx Px
local macro_rules | `(tactic| walk_at "rd") => `(tactic| repeat (first | (refine ⟨_, rfl, ?_⟩) | (refine ⟨_, _, rfl, rfl, ?_⟩) | (refine ⟨rfl, ?_⟩) | (refine ⟨szl (by omega), ?_⟩) | (refine ⟨_, _, _, _, _, rfl, (by assumption), (by assumption), (by assumption), (by rfl), ?_⟩) | (refine ⟨_, _, rfl, Or.inl (by assumption), ?_⟩)))
local macro_rules | `(tactic| walk_at "dp") => `(tactic| (repeat' (first | exact DpAll.nil | apply DpAll.cons | exact Dp.str _ | exact Dp.int _ | exact Dp.non | exact Dp.bl _ | assumption)))
section
variable {P : Program} {w : World} {K : PySem.W.Frag} {mg : Str → Option Value} {base : Heap} {H H' : Hp} {r : Addr} {ts : Addr × List Tk} {rem : List Tk} {e num : Nat} {Q : VK} {E : XK}
def MOut (K : PySem.W.Frag) (H : Hp) (Q : VK) (E : XK) (r : Addr) (ts : Addr × List Tk) (e : Nat) : Except Er (Sm × List Tk × Nat) → Prop
  | .error x => XEr K [r] H E x
  | .ok (v, rem', num') => ∀ u H', Kp [r] H H' → RAt K H' r ts e rem' num' → Dp K H' u v.enc → Q u H'
def BOut (K : PySem.W.Frag) (H : Hp) (Q : VK) (E : XK) (r : Addr) (ts : Addr × List Tk) (e : Nat) : Except Er (List Sm × List Tk × Nat) → Prop
  | .error x => XEr K [r] H E x
  | .ok (v, rem', num') => ∀ u H', Kp [r] H H' → RAt K H' r ts e rem' num' → Dp K H' u (.tuple (encs v)) → Q u H'
def spStm (d : Nat) : Sp := fun vs H Q E => ∃ r ts e rem num lv f res, vs = [.ref r, .int (lv : Nat)] ∧ RAt K H r ts e rem num ∧ lv + d = 13 ∧ lv ≤ 12 ∧ f ≤ 90000 ∧ rdStm e f lv rem num = some res ∧ MOut K H Q E r ts e res
def spBlk (d : Nat) : Sp := fun vs H Q E => ∃ r ts e rem num lv f res, vs = [.ref r, .int (lv : Nat)] ∧ RAt K H r ts e rem num ∧ lv + d = 13 ∧ f ≤ 90000 ∧ rdBlk e f lv rem num = some res ∧ BOut K H Q E r ts e res
theorem sms_app (a b : List Sm) : encs (a ++ b) = encs a ++ encs b := by rw [encs_map, encs_map, encs_map, List.map_append]
theorem ok_stm (T : Tx P K mg) (d : Nat) (F_read_block : OkF P w K mg base (L2.CX P w) (2 * d + 8) a_read_block ["reader", "level"] (spBlk (K := K) d)) : OkF P w K mg base (L2.CX P w) (2 * d + 9) a_read_statement ["reader", "level"] (spStm (K := K) (d + 1)) := by
  have nd := sc_read_statement.nd
  have cl := T.c_Reader
  have F_Reader_take_number := ok_take_number (P := P) (w := w) (base := base) T
  have F_Reader_accept := ok_accept (P := P) (w := w) (base := base) T
  have F_Reader_expect := ok_expect (P := P) (w := w) (base := base) T
  have F_Reader_read := ok_read (P := P) (w := w) (base := base) T
  have F_read_value := ok_read_value (P := P) (w := w) (base := base) T
  have F_read_test := ok_read_test (P := P) (w := w) (base := base) T
  have F_read_assignment := ok_read_assignment (P := P) (w := w) (base := base) T
  refine T.f_read_statement.ok (CX := L2.CX P w) sc_read_statement (fun vs H Q E h => ?_) (fun cdv A outer s H vs Q E hr h => ?_)
  · obtain ⟨_, _, _, _, _, _, _, _, rfl, _⟩ := h
    rfl
  · obtain ⟨r, ts, e, rem, num, lv, f, res, rfl, hR, hlv, hlv2, hf, hres, k⟩ := h
    obtain ⟨dx, l, n, h1⟩ := hR.ins
    refine ⟨_, (pss_cons (ps_set (i := 2) nd rfl (Or.inl rfl) (pe_meth0 (pv 0) T.c_Reader T.m_Reader_take_number F_Reader_take_number (hr.mono (by omega)) T.b_Reader_take_number .nil pass0))
      (pss_cons (ps_if (pt_val (pe_meth (pv 0) T.c_Reader T.m_Reader_accept F_Reader_accept (hr.mono (by omega)) T.b_Reader_accept .nil pass0 (pa_cons pe_str (pa_cons pe_str pa_nil))) (fun _ => rfl)) (pss_cons (ps_set (i := 3) nd rfl (Or.inl rfl) (pe_call F_read_test (hr.mono (by omega)) rfl T.g_read_test T.k_read_test T.b_read_test .nil (passes_call (takes_of rfl rfl rfl rfl) fun _ _ _ _ h => h) (pa_cons (pv 0) pa_nil)))
      (pss_cons (ps_set (i := 4) nd rfl (Or.inl rfl) (pe_call F_read_block (hr.mono (by omega)) rfl T.g_read_block T.k_read_block T.b_read_block .nil (passes_call (takes_of rfl rfl rfl rfl) fun _ _ _ _ h => h) (pa_cons (pv 0) (pa_cons (pe_op op_add (pv 1) pe_int) pa_nil))))
      (pss_cons (ps_set (i := 5) nd rfl (Or.inl rfl) (pe_tup pa_nil))
      (pss_cons (ps_if (pt_val (pe_meth (pv 0) T.c_Reader T.m_Reader_accept F_Reader_accept (hr.mono (by omega)) T.b_Reader_accept .nil pass0 (pa_cons pe_str (pa_cons pe_str pa_nil))) (fun _ => rfl)) (pss_one (ps_set (i := 5) nd rfl (Or.inl rfl) (pe_call F_read_block (hr.mono (by omega)) rfl T.g_read_block T.k_read_block T.b_read_block .nil (passes_call (takes_of rfl rfl rfl rfl) fun _ _ _ _ h => h) (pa_cons (pv 0) (pa_cons (pe_op op_add (pv 1) pe_int) pa_nil))))) pss_nil)
      (pss_one (ps_ret (pe_tup (pa_cons pe_str (pa_cons (pv 3) (pa_cons (pv 4) (pa_cons (pv 5) (pa_cons (pv 2) pa_nil)))))))))))) pss_nil)
      (pss_cons (ps_if (pt_val (pe_meth (pv 0) T.c_Reader T.m_Reader_accept F_Reader_accept (hr.mono (by omega)) T.b_Reader_accept .nil pass0 (pa_cons pe_str (pa_cons pe_str pa_nil))) (fun _ => rfl)) (pss_cons (ps_set (i := 3) nd rfl (Or.inl rfl) (pe_call F_read_test (hr.mono (by omega)) rfl T.g_read_test T.k_read_test T.b_read_test .nil (passes_call (takes_of rfl rfl rfl rfl) fun _ _ _ _ h => h) (pa_cons (pv 0) pa_nil)))
      (pss_one (ps_ret (pe_tup (pa_cons pe_str (pa_cons (pv 3) (pa_cons (pe_call F_read_block (hr.mono (by omega)) rfl T.g_read_block T.k_read_block T.b_read_block .nil (passes_call (takes_of rfl rfl rfl rfl) fun _ _ _ _ h => h) (pa_cons (pv 0) (pa_cons (pe_op op_add (pv 1) pe_int) pa_nil))) (pa_cons (pv 2) pa_nil)))))))) pss_nil)
      (pss_cons (ps_if (pt_val (pe_meth (pv 0) T.c_Reader T.m_Reader_accept F_Reader_accept (hr.mono (by omega)) T.b_Reader_accept .nil pass0 (pa_cons pe_str (pa_cons pe_str pa_nil))) (fun _ => rfl)) (pss_one (ps_set (i := 6) nd rfl (Or.inl rfl) (pe_tup (pa_cons pe_str (pa_cons (pe_meth (pv 0) T.c_Reader T.m_Reader_read F_Reader_read (hr.mono (by omega)) T.b_Reader_read .nil (passes_call (takes_of rfl rfl rfl rfl) fun _ _ _ _ h => h) (pa_cons pe_str pa_nil)) (pa_cons (pv 2) pa_nil)))))) (pss_one (ps_if (pt_val (pe_meth (pv 0) T.c_Reader T.m_Reader_accept F_Reader_accept (hr.mono (by omega)) T.b_Reader_accept .nil pass0 (pa_cons pe_str (pa_cons pe_str pa_nil))) (fun _ => rfl)) (pss_one (ps_set (i := 6) nd rfl (Or.inl rfl) (pe_tup (pa_cons pe_str (pa_cons (pe_call F_read_value (hr.mono (by omega)) rfl T.g_read_value T.k_read_value T.b_read_value .nil (passes_call (takes_of rfl rfl rfl rfl) fun _ _ _ _ h => h) (pa_cons (pv 0) pa_nil)) (pa_cons (pv 2) pa_nil)))))) (pss_one (ps_set (i := 6) nd rfl (Or.inl rfl) (pe_call F_read_assignment (hr.mono (by omega)) rfl T.g_read_assignment T.k_read_assignment T.b_read_assignment .nil (passes_call (takes_of rfl rfl rfl rfl) fun _ _ _ _ h => h) (pa_cons (pv 0) (pa_cons (pv 2) pa_nil))))))))
      (pss_cons (ps_expr (pe_meth (pv 0) T.c_Reader T.m_Reader_expect F_Reader_expect (hr.mono (by omega)) T.b_Reader_expect .nil (passes_call (takes_of rfl rfl rfl rfl) fun _ _ _ _ h => h) (pa_cons pe_str pa_nil)))
      (pss_one (ps_ret (pv 6)))))))), ?_⟩
    obtain ⟨f, rfl⟩ : ∃ m, f = m + 1 := by
      cases f with
      | zero =>
        unfold rdStm at hres
        cases hres
      | succ m => exact ⟨m, rfl⟩
    unfold rdStm at hres
    walk_at "rd"
    refine ⟨_, _, _, rfl, h1, rfl, r, ts, e, rem, num, rfl, hR, ?_⟩
    intro H1 k1 hR1
    obtain ⟨dx, l, n, h1⟩ := hR1.ins
    walk_at "rd"
    refine ⟨_, _, _, rfl, h1, rfl, ?_⟩
    walk_at "rd"
    refine ⟨r, ts, e, rem, _, "reserved", "if", rfl, hR1, by decide, by decide +kernel, by decide +kernel, fun h H2 k2 hR2 => ?_, fun h H2 k2 hR2 => ?_⟩
    rotate_left
    · rw [acc_t h] at hres
      dsimp only at hres
      replace k2 := k1.trans k2
      walk_at "rd"
      refine ⟨r, ts, e, _, _, rfl, hR2, ?_⟩
      cases hv : rdTest e rem.tail with
      | error x =>
        rw [hv] at hres
        obtain rfl := Option.some.inj hres
        exact XEr.back k k2
      | ok z =>
        obtain ⟨t, rem2⟩ := z
        rw [hv] at hres
        dsimp only at hres
        intro u3 H3 k3 hR3 hd3
        replace k3 := k2.trans k3
        walk_at "rd"
        cases hb : rdBlk e f (lv + 1) rem2 (num + 1) with
        | none =>
          rw [hb] at hres
          cases hres
        | some rb =>
          refine ⟨r, ts, e, rem2, num + 1, lv + 1, f, rb, rfl, hR3, by omega, by omega, hb, ?_⟩
          rw [hb] at hres
          cases rb with
          | error x =>
            obtain rfl := Option.some.inj hres
            exact XEr.back k k3
          | ok z =>
            obtain ⟨a, r3, k2'⟩ := z
            dsimp only at hres
            intro u4 H4 k4 hR4 hd4
            have hd34 := Dp.kp k4 _ _ (Ts.nl t) hd3
            replace k4 := k3.trans k4
            walk_at "rd"
            refine ⟨szl (Nat.zero_le _), fun q hq => ?_⟩
            have kq : Kp [] H4 (upd H4 q (.tup [])) := Kp.new hq
            have hR5 := hR4.kp kq
            have hd5 : Dp K (upd H4 q (.tup [])) (.ref q) (.tuple (encs [])) := Dp.new .nil rfl hq
            have hd35 := Dp.kp kq _ _ (Ts.nl t) hd34
            have hd45 := Dp.kp kq (.tuple (encs a)) _ (Sms.nl a) hd4
            have k5 := k4.trans kq.nil
            generalize upd H4 q (.tup []) = H5 at hR5 hd5 hd35 hd45 k5
            obtain ⟨dx, l, n, h5⟩ := hR5.ins
            walk_at "rd"
            refine ⟨_, _, _, rfl, h5, rfl, ?_⟩
            walk_at "rd"
            refine ⟨r, ts, e, _, _, "reserved", "else", rfl, hR5, by decide, by decide +kernel, by decide +kernel, fun h H6 k6 hR6 => ?_, fun h H6 k6 hR6 => ?_⟩
            · rw [acc_f h] at hres
              obtain rfl := Option.some.inj hres
              walk_at "rd"
              refine ⟨szl (Nat.le_of_ble_eq_true rfl), fun p hp => ?_⟩
              exact k _ _ ((k5.trans k6).trans (Kp.new hp)) (hR6.kp (Kp.new hp)) (Dp.new (.cons (.str _) (.cons (Dp.kp k6 _ _ (Ts.nl t) hd35) (.cons (Dp.kp k6 (.tuple (encs a)) _ (Sms.nl a) hd45) (.cons (Dp.kp k6 _ _ rfl hd5) (.cons (.int _) .nil))))) (Sm.nl (.ite t a [] num)) hp)
            · rw [acc_t h] at hres
              dsimp only at hres
              walk_at "rd"
              cases hb2 : rdBlk e f (lv + 1) r3.tail k2' with
              | none =>
                rw [hb2] at hres
                cases hres
              | some rb2 =>
                refine ⟨r, ts, e, _, _, lv + 1, f, rb2, rfl, hR6, by omega, by omega, hb2, ?_⟩
                rw [hb2] at hres
                cases rb2 with
                | error x =>
                  obtain rfl := Option.some.inj hres
                  exact XEr.back k (k5.trans k6)
                | ok z =>
                  obtain ⟨b, r5, k3'⟩ := z
                  obtain rfl := Option.some.inj hres
                  intro u7 H7 k7 hR7 hd7
                  walk_at "rd"
                  refine ⟨szl (Nat.le_of_ble_eq_true rfl), fun p hp => ?_⟩
                  exact k _ _ (((k5.trans k6).trans k7).trans (Kp.new hp)) (hR7.kp (Kp.new hp)) (Dp.new (.cons (.str _) (.cons (Dp.kp k7 _ _ (Ts.nl t) (Dp.kp k6 _ _ (Ts.nl t) hd35)) (.cons (Dp.kp k7 (.tuple (encs a)) _ (Sms.nl a) (Dp.kp k6 (.tuple (encs a)) _ (Sms.nl a) hd45)) (.cons hd7 (.cons (.int _) .nil))))) (Sm.nl (.ite t a b num)) hp)
    rw [acc_f h] at hres
    dsimp only at hres
    clear h
    replace k2 := k1.trans k2
    obtain ⟨dx, l, n, h1⟩ := hR2.ins
    walk_at "rd"
    refine ⟨_, _, _, rfl, h1, rfl, ?_⟩
    walk_at "rd"
    refine ⟨r, ts, e, rem, _, "reserved", "while", rfl, hR2, by decide, by decide +kernel, by decide +kernel, fun h H3 k3 hR3 => ?_, fun h H3 k3 hR3 => ?_⟩
    rotate_left
    · rw [acc_t h] at hres
      dsimp only at hres
      replace k3 := k2.trans k3
      walk_at "rd"
      refine ⟨r, ts, e, _, _, rfl, hR3, ?_⟩
      cases hv : rdTest e rem.tail with
      | error x =>
        rw [hv] at hres
        obtain rfl := Option.some.inj hres
        exact XEr.back k k3
      | ok z =>
        obtain ⟨t, rem2⟩ := z
        rw [hv] at hres
        dsimp only at hres
        intro u4 H4 k4 hR4 hd4
        replace k4 := k3.trans k4
        walk_at "rd"
        cases hb : rdBlk e f (lv + 1) rem2 (num + 1) with
        | none =>
          rw [hb] at hres
          cases hres
        | some rb =>
          refine ⟨r, ts, e, rem2, num + 1, lv + 1, f, rb, rfl, hR4, by omega, by omega, hb, ?_⟩
          rw [hb] at hres
          cases rb with
          | error x =>
            obtain rfl := Option.some.inj hres
            exact XEr.back k k4
          | ok z =>
            obtain ⟨a, r3, k2'⟩ := z
            obtain rfl := Option.some.inj hres
            intro u5 H5 k5 hR5 hd5
            walk_at "rd"
            refine ⟨szl (Nat.le_of_ble_eq_true rfl), fun p hp => ?_⟩
            exact k _ _ ((k4.trans k5).trans (Kp.new hp)) (hR5.kp (Kp.new hp)) (Dp.new (.cons (.str _) (.cons (Dp.kp k5 _ _ (Ts.nl t) hd4) (.cons hd5 (.cons (.int _) .nil)))) (Sm.nl (.whl t a num)) hp)
    rw [acc_f h] at hres
    dsimp only at hres
    clear h
    replace k3 := k2.trans k3
    unfold rdPlain at hres
    obtain ⟨dx, l, n, h1⟩ := hR3.ins
    walk_at "rd"
    refine ⟨_, _, _, rfl, h1, rfl, ?_⟩
    walk_at "rd"
    refine ⟨r, ts, e, rem, _, "reserved", "out", rfl, hR3, by decide, by decide +kernel, by decide +kernel, fun h H4 k4 hR4 => ?_, fun h H4 k4 hR4 => ?_⟩
    rotate_left
    · rw [acc_t h] at hres
      dsimp only at hres
      replace k4 := k3.trans k4
      obtain ⟨dx, l, n, h1⟩ := hR4.ins
      walk_at "rd"
      refine ⟨_, _, _, rfl, h1, rfl, ?_⟩
      walk_at "rd"
      refine read_name hR4 ?_
      cases hv : rdName e rem.tail with
      | error x =>
        rw [hv] at hres
        obtain rfl := Option.some.inj hres
        exact XEr.back k k4
      | ok z =>
        obtain ⟨x, rem2⟩ := z
        rw [hv] at hres
        dsimp only at hres
        intro H5 k5 hR5
        replace k5 := k4.trans k5
        walk_at "rd"
        refine ⟨szl (Nat.le_of_ble_eq_true rfl), fun p hp => ?_⟩
        replace k5 := k5.trans (Kp.new (M := [r]) (o := .tup [.str "out", .str x, .int (num : Nat)]) hp)
        have hR6 := hR5.kp (Kp.new (o := .tup [.str "out", .str x, .int (num : Nat)]) hp)
        have hd6 : Dp K _ (.ref p) (Sm.out x num).enc := Dp.new (vs := [.str "out", .str x, .int (num : Nat)]) (by walk_at "dp") (Sm.nl (.out x num)) hp
        obtain ⟨dx, l, n, h6⟩ := hR6.ins
        walk_at "rd"
        refine ⟨_, _, _, rfl, h6, rfl, ?_⟩
        walk_at "rd"
        refine ⟨r, ts, e, rem2, _, ";", rfl, hR6, by decide +kernel, ?_⟩
        cases hx : expct e ";" rem2 with
        | error x =>
          rw [hx] at hres
          obtain rfl := Option.some.inj hres
          exact XEr.back k k5
        | ok r4 =>
          rw [hx] at hres
          obtain rfl := Option.some.inj hres
          intro H7 k7 hR7
          walk_at "rd"
          exact k _ _ (k5.trans k7) hR7 (Dp.kp k7 _ _ (Sm.nl (.out x num)) hd6)
    rw [acc_f h] at hres
    dsimp only at hres
    clear h
    replace k4 := k3.trans k4
    obtain ⟨dx, l, n, h1⟩ := hR4.ins
    walk_at "rd"
    refine ⟨_, _, _, rfl, h1, rfl, ?_⟩
    walk_at "rd"
    refine ⟨r, ts, e, rem, _, "reserved", "return", rfl, hR4, by decide, by decide +kernel, by decide +kernel, fun h H5 k5 hR5 => ?_, fun h H5 k5 hR5 => ?_⟩
    rotate_left
    · rw [acc_t h] at hres
      dsimp only at hres
      replace k5 := k4.trans k5
      walk_at "rd"
      refine ⟨r, ts, e, _, _, rfl, hR5, ?_⟩
      cases hv : rdVal e rem.tail with
      | error x =>
        rw [hv] at hres
        obtain rfl := Option.some.inj hres
        exact XEr.back k k5
      | ok z =>
        obtain ⟨v, rem2⟩ := z
        rw [hv] at hres
        dsimp only at hres
        intro u6 H6 k6 hR6 hd6
        replace k6 := k5.trans k6
        walk_at "rd"
        refine ⟨szl (Nat.le_of_ble_eq_true rfl), fun p hp => ?_⟩
        have hd7 : Dp K _ (.ref p) (Sm.ret v num).enc := Dp.new (vs := [.str "return", u6, .int (num : Nat)]) (by walk_at "dp") (Sm.nl (.ret v num)) hp
        have k7 := k6.trans (Kp.new (M := [r]) (o := .tup [.str "return", u6, .int (num : Nat)]) hp)
        have hR7 := hR6.kp (Kp.new (o := .tup [.str "return", u6, .int (num : Nat)]) hp)
        obtain ⟨dx, l, n, h7⟩ := hR7.ins
        walk_at "rd"
        refine ⟨_, _, _, rfl, h7, rfl, ?_⟩
        walk_at "rd"
        refine ⟨r, ts, e, rem2, _, ";", rfl, hR7, by decide +kernel, ?_⟩
        cases hx : expct e ";" rem2 with
        | error x =>
          rw [hx] at hres
          obtain rfl := Option.some.inj hres
          exact XEr.back k k7
        | ok r4 =>
          rw [hx] at hres
          obtain rfl := Option.some.inj hres
          intro H8 k8 hR8
          walk_at "rd"
          exact k _ _ (k7.trans k8) hR8 (Dp.kp k8 _ _ (Sm.nl (.ret v num)) hd7)
    rw [acc_f h] at hres
    dsimp only at hres
    clear h
    replace k5 := k4.trans k5
    walk_at "rd"
    cases ha : rdAsg e f num rem with
    | none =>
      rw [ha] at hres
      cases hres
    | some ra =>
      refine ⟨r, ts, e, rem, _, num, f, ra, rfl, hR5, by omega, ha, ?_⟩
      rw [ha] at hres
      cases ra with
      | error x =>
        obtain rfl := Option.some.inj hres
        exact XEr.back k k5
      | ok z =>
        obtain ⟨st, rem2⟩ := z
        dsimp only at hres
        intro u6 H6 k6 hR6 hd6
        replace k6 := k5.trans k6
        obtain ⟨dx, l, n, h6⟩ := hR6.ins
        walk_at "rd"
        refine ⟨_, _, _, rfl, h6, rfl, ?_⟩
        walk_at "rd"
        refine ⟨r, ts, e, rem2, _, ";", rfl, hR6, by decide +kernel, ?_⟩
        cases hx : expct e ";" rem2 with
        | error x =>
          rw [hx] at hres
          obtain rfl := Option.some.inj hres
          exact XEr.back k k6
        | ok r4 =>
          rw [hx] at hres
          obtain rfl := Option.some.inj hres
          intro H7 k7 hR7
          walk_at "rd"
          exact k _ _ (k6.trans k7) hR7 (Dp.kp k7 _ _ (Sm.nl st) hd6)
theorem ok_block (T : Tx P K mg) (d : Nat) (F_read_statement : OkF P w K mg base (L2.CX P w) (2 * d + 7) a_read_statement ["reader", "level"] (spStm (K := K) d)) : OkF P w K mg base (L2.CX P w) (2 * d + 8) a_read_block ["reader", "level"] (spBlk (K := K) d) := by
  have nd := sc_read_block.nd
  have cl := T.c_Reader
  have F_Reader_accept := ok_accept (P := P) (w := w) (base := base) T
  have F_Reader_expect := ok_expect (P := P) (w := w) (base := base) T
  have F_Reader_peek := ok_peek (P := P) (w := w) (base := base) T
  refine T.f_read_block.ok (CX := L2.CX P w) sc_read_block (fun vs H Q E h => ?_) (fun cdv A outer s H vs Q E hr h => ?_)
  · obtain ⟨_, _, _, _, _, _, _, _, rfl, _⟩ := h
    rfl
  · obtain ⟨r, ts, e, rem, num, lv, f, res, rfl, hR, hlv, hf, hres, k⟩ := h
    obtain ⟨dx, l, n, h1⟩ := hR.ins
    refine ⟨_, (pss_cons (ps_if (PW.pt (pw_and (pt_cmpR op_gt (pv 1) (pe_gint T.i_MAX_LEVELS) (nomark _)) (pw_and1 (pt_cmpR (op_eqD hr.units) (pe_meth0 (pv 0) T.c_Reader T.m_Reader_peek F_Reader_peek (hr.mono (by omega)) T.b_Reader_peek .nil pass0) (pe_tup (pa_cons pe_str (pa_cons pe_str pa_nil))) (nomark _))))) (pss_one (ps_raiseSx rfl T.g_Oversized T.x_Oversized hr (by omega) strR_scal (takes_of rfl rfl rfl rfl) (by exact (pa_cons pe_str pa_nil)))) pss_nil)
      (pss_cons (ps_expr (pe_meth (pv 0) T.c_Reader T.m_Reader_expect F_Reader_expect (hr.mono (by omega)) T.b_Reader_expect .nil (passes_call (takes_of rfl rfl rfl rfl) fun _ _ _ _ h => h) (pa_cons pe_str pa_nil)))
      (pss_cons (ps_set (i := 2) nd rfl (Or.inl rfl) (pe_lst pa_nil))
      (pss_cons (ps_while (passes_of rfl) (pt_not (pt_val (pe_meth (pv 0) T.c_Reader T.m_Reader_accept F_Reader_accept (hr.mono (by omega)) T.b_Reader_accept .nil pass0 (pa_cons pe_str (pa_cons pe_str pa_nil))) (fun _ => rfl))) (pss_one (ps_expr (pe_bm PySem.F.plainAttrs_list PySem.F.slot_list_append PySem.F.type_list_append mt_append (pv 2) (pa_cons (pe_call F_read_statement (hr.mono (by omega)) rfl T.g_read_statement T.k_read_statement T.b_read_statement .nil (passes_call (takes_of rfl rfl rfl rfl) fun _ _ _ _ h => h) (pa_cons (pv 0) (pa_cons (pv 1) pa_nil))) pa_nil)))))
      (pss_one (ps_ret (pe_callTy call_tuple_of (by rfl) T.n_tuple (by decide +kernel) (pa_cons (pv 2) pa_nil)))))))), ?_⟩
    obtain ⟨f, rfl⟩ : ∃ m, f = m + 1 := by
      cases f with
      | zero =>
        unfold rdBlk at hres
        cases hres
      | succ m => exact ⟨m, rfl⟩
    unfold rdBlk at hres
    walk_at "rd"
    refine iteB (fun h => ?_) (fun h => ?_)
    · have hl : 12 < lv := by
        have := of_decide_eq_true h
        omega
      walk_at "rd"
      refine ⟨_, _, _, rfl, h1, rfl, r, ts, e, rem, num, rfl, hR, ?_⟩
      intro u H2 k2 hd2
      have hR2 := hR.kp k2
      walk_at "rd"
      refine ⟨szl (Nat.le_of_ble_eq_true rfl), fun p hp => ?_⟩
      have k3 : Kp [] H2 (upd H2 p (.tup [.str "sign", .str "{"])) := Kp.new hp
      refine ⟨_, _, Dp.kp k3 _ _ ?_ hd2, Dp.new (ds := [.str "sign", .str "{"]) (by walk_at "dp") rfl hp, peek_sh hR.mem, sh2 (by decide +kernel) (by decide +kernel), _, rfl, ?_⟩
      · cases rem with
        | nil => rfl
        | cons t r' =>
          show (true && (noL t.val && true)) = true
          rw [(hR.mem t List.mem_cons_self).nl]
          rfl
      rw [eqv_isTk (by decide)]
      refine iteB (fun h2 => ?_) (fun h2 => ?_)
      · rw [if_pos ⟨hl, h2⟩] at hres
        obtain rfl := Option.some.inj hres
        walk_at "rd"
        exact ⟨trivial, fun d hd => (XEr.back k ((k2.trans k3).nil)).new hd⟩
      · rw [if_neg (fun z => by rw [h2] at z; exact absurd z.2 (by decide))] at hres
        have hR3 := hR2.kp k3
        obtain ⟨dx, l, n, h3⟩ := hR3.ins
        have ea : expct e "{" rem = .error (.mal (plc e rem)) := by
          unfold expct
          rw [acc_f h2]
        rw [ea] at hres
        obtain rfl := Option.some.inj hres
        walk_at "rd"
        refine ⟨_, _, _, rfl, h3, rfl, ?_⟩
        walk_at "rd"
        refine ⟨r, ts, e, rem, num, "{", rfl, hR3, by decide +kernel, ?_⟩
        rw [ea]
        exact XEr.back k ((k2.trans k3).nil)
    have hl : lv ≤ 12 := by
      have := of_decide_eq_false h
      omega
    rw [if_neg (fun z => by omega)] at hres
    walk_at "rd"
    refine ⟨_, _, _, rfl, h1, rfl, ?_⟩
    walk_at "rd"
    refine ⟨r, ts, e, rem, num, "{", rfl, hR, by decide +kernel, ?_⟩
    cases hx : expct e "{" rem with
    | error x =>
      rw [hx] at hres
      obtain rfl := Option.some.inj hres
      exact k
    | ok rem2 =>
      rw [hx] at hres
      dsimp only at hres
      intro H1 k1 hR1
      walk_at "rd"
      refine ⟨Nat.zero_le _, fun p hp => ?_⟩
      have hpo := hR1.old hp
      have hpH := k1.fresh (l := p) (by simpa using hpo.1) hp
      have grow : ∀ (done : List Sm) (xs : List V) (v : Sm) (u : V) (Hn : Hp), Hn p = some (.lst xs) → Kp [r] H Hn → DpAll K Hn xs (encs done) → Dp K Hn u v.enc → Kp [r] H (upd Hn p (.lst (xs ++ [u]))) ∧ (upd Hn p (.lst (xs ++ [u]))) p = some (.lst (xs ++ [u])) ∧ DpAll K (upd Hn p (.lst (xs ++ [u]))) (xs ++ [u]) (encs (done ++ [v])) := fun done xs v u Hn a1 a2 a3 a4 => by
        have kk : Kp [p] Hn (upd Hn p (.lst (xs ++ [u]))) := Kp.put a1 nt_lst (by simp)
        refine ⟨a2.mine hpH, upd_same, ?_⟩
        rw [sms_app]
        exact DpAll.snoc (Dp.kps kk _ _ (Sms.nl done) a3) (Dp.kp kk _ _ (Sm.nl v) a4)
      refine ⟨fun f' σ H' => ∃ (done : List Sm) (xs : List V) (rem' : List Tk) (num' : Nat) (res' : Except Er (List Sm × List Tk × Nat)), done.length + f' ≤ 90001 ∧ σ = [some (.ref r), some (.int (lv : Nat)), some (.ref p)] ∧ Kp [r] H H' ∧ H' p = some (.lst xs) ∧ DpAll K H' xs (encs done) ∧ RAt K H' r ts e rem' num' ∧ rdStms e f' lv rem' num' = some res' ∧ (match res' with
          | .error x => XEr K [r] H E x
          | .ok (vs, rem3, num3) => ∀ u Hn, Kp [r] H Hn → RAt K Hn r ts e rem3 num3 → Dp K Hn u (.tuple (encs (done ++ vs))) → Q u Hn), ⟨f, [], [], rem2, num, res, by show 0 + f ≤ 90001; omega, rfl, k1.trans (Kp.new hp), upd_same, .nil, hR1.kp (Kp.new hp), hres, ?_⟩, ?_⟩
      · cases res with
        | error x => exact k
        | ok z => exact k
      rintro f' σ H' ⟨done, xs, rem', num', res', hfl, rfl, k3, hp3, hd3, hR3, hm, kr⟩
      obtain ⟨dx, l, n, h3⟩ := hR3.ins
      obtain ⟨f', rfl⟩ : ∃ m, f' = m + 1 := by
        cases f' with
        | zero =>
          unfold rdStms at hm
          cases hm
        | succ m => exact ⟨m, rfl⟩
      unfold rdStms at hm
      walk_at "rd"
      refine ⟨_, _, _, rfl, h3, rfl, ?_⟩
      walk_at "rd"
      refine ⟨r, ts, e, rem', num', "sign", "}", rfl, hR3, by decide, by decide +kernel, by decide +kernel, fun h H4 k4 hR4 => ?_, fun h H4 k4 hR4 => ?_⟩
      · rw [acc_f h] at hm
        dsimp only at hm
        have hp4 := k4.keep _ _ (by simpa using hpo.1) hp3
        walk_at "rd"
        refine ⟨_, fun _ _ z => z, ?_⟩
        walk_at "rd"
        refine ⟨.inl ⟨rfl, _, SqL.of hp4⟩, ?_⟩
        walk_at "rd"
        cases hs : rdStm e f' lv rem' num' with
        | none =>
          rw [hs] at hm
          cases hm
        | some rs =>
          refine ⟨r, ts, e, _, _, lv, f', rs, rfl, hR4, hlv, hl, by omega, hs, ?_⟩
          rw [hs] at hm
          cases rs with
          | error x =>
            obtain rfl := Option.some.inj hm
            exact XEr.back kr (k3.trans k4)
          | ok z =>
            obtain ⟨st, rem3, num3⟩ := z
            dsimp only at hm
            intro u5 H5 k5 hR5 hd5
            have hp5 := k5.keep _ _ (by simpa using hpo.1) hp4
            have hxl : xs.length = done.length := by rw [DpAll.length hd3, encs_map, List.length_map]
            refine ⟨_, _, _, rfl, rfl, hp5, szt (by omega), ?_⟩
            walk_at "rd"
            obtain ⟨g1, g2, g3⟩ := grow done xs st u5 H5 hp5 ((k3.trans k4).trans k5) (Dp.kps k5 _ _ (Sms.nl _) (Dp.kps k4 _ _ (Sms.nl _) hd3)) hd5
            cases hm2 : rdStms e f' lv rem3 num3 with
            | none =>
              rw [hm2] at hm
              cases hm
            | some res2 =>
              rw [hm2] at hm
              refine ⟨f', Nat.lt_succ_self _, done ++ [st], xs ++ [u5], rem3, num3, res2, by rw [List.length_append]; show done.length + 1 + f' ≤ 90001; omega, rfl, g1, g2, g3, hR5.mine hpo hp5 nt_lst, hm2, ?_⟩
              cases res2 with
              | error x =>
                obtain rfl := Option.some.inj hm
                exact kr
              | ok z =>
                obtain ⟨vs, rem4, num4⟩ := z
                obtain rfl := Option.some.inj hm
                dsimp only at kr ⊢
                rw [List.append_assoc]
                exact kr
      · rw [acc_t h] at hm
        obtain rfl := Option.some.inj hm
        have hp4 := k4.keep _ _ (by simpa using hpo.1) hp3
        walk_at "rd"
        refine ⟨_, _, rfl, .inl ⟨SqL.of hp4, fun t ht => ?_⟩⟩
        refine kr _ _ ((k3.trans k4).trans (Kp.new ht)) (hR4.kp (Kp.new ht)) ?_
        rw [List.append_nil]
        exact Dp.new (Dp.kps k4 _ _ (Sms.nl _) hd3) (Sms.nl _) ht
/-- what is never asked -/
def spNo : Sp := fun _ _ _ _ => False
theorem ok_blocks (T : Tx P K mg) : ∀ d, OkF P w K mg base (L2.CX P w) (2 * d + 8) a_read_block ["reader", "level"] (spBlk (K := K) d)
  | 0 => ok_block T 0 (T.f_read_statement.ok (CX := L2.CX P w) sc_read_statement (fun vs H Q E h => by
      obtain ⟨_, _, _, _, _, _, _, _, _, _, h1, h2, _⟩ := h
      omega) (fun cdv A outer s H vs Q E hr h => by
      obtain ⟨_, _, _, _, _, _, _, _, _, _, h1, h2, _⟩ := h
      omega))
  | d + 1 => ok_block T (d + 1) (ok_stm T d (ok_blocks T d))
end
end K14


set_option Elab.async false
set_option linter.all false
set_option maxRecDepth 100000
set_option maxHeartbeats 4000000
namespace K14
open PySem PySem.Spec PyProof.Rows L2 He Hz Cm Lx Px
local macro_rules | `(tactic| walk_at "rd") => `(tactic| repeat (first | (refine ⟨_, rfl, ?_⟩) | (refine ⟨_, _, rfl, rfl, ?_⟩) | (refine ⟨rfl, ?_⟩) | (refine ⟨szl (by omega), ?_⟩) | (refine ⟨_, _, _, _, _, rfl, (by assumption), (by assumption), (by assumption), (by rfl), ?_⟩) | (refine ⟨_, _, rfl, Or.inl (by assumption), ?_⟩)))
local macro_rules | `(tactic| walk_at "dp") => `(tactic| (repeat' (first | exact DpAll.nil | apply DpAll.cons | exact Dp.str _ | exact Dp.int _ | exact Dp.non | exact Dp.bl _ | assumption)))
section
variable {P : Program} {w : World} {K : PySem.W.Frag} {mg : Str → Option Value} {base : Heap} {H H' : Hp} {r : Addr} {ts : Addr × List Tk} {rem : List Tk} {e num : Nat} {Q : VK} {E : XK}
theorem strs_nl : ∀ l : List Str, noLs (l.map PyData.str) = true
  | [] => rfl
  | a :: l => by
    show (true && noLs (l.map PyData.str)) = true
    rw [strs_nl l]
    rfl
theorem Fd.nl (f : Fd) : noL f.enc = true := by
  show (true && (noLs (f.ps.map PyData.str) && (noLs (encs f.body) && true))) = true
  rw [strs_nl, Sms.nl]
  rfl
def spFn : Sp := fun vs H Q E => ∃ r ts e rem num f res, vs = [.ref r] ∧ RAt K H r ts e rem num ∧ f ≤ 90000 ∧ rdFn e f rem = some res ∧ match res with
  | .error x => XEr K [r] H E x
  | .ok (g, rem', num') => ∀ u H', Kp [r] H H' → RAt K H' r ts e rem' num' → Dp K H' u g.enc → Q u H'
theorem ok_read_function (T : Tx P K mg) : OkF P w K mg base (L2.CX P w) 33 a_read_function ["reader"] (spFn (K := K)) := by
  have nd := sc_read_function.nd
  have cl := T.c_Reader
  have F_Reader_start_function := ok_start_function (P := P) (w := w) (base := base) T
  have F_Reader_accept := ok_accept (P := P) (w := w) (base := base) T
  have F_Reader_expect := ok_expect (P := P) (w := w) (base := base) T
  have F_Reader_read := ok_read (P := P) (w := w) (base := base) T
  have F_read_block := ok_blocks (P := P) (w := w) (base := base) T 12
  refine T.f_read_function.ok (CX := L2.CX P w) sc_read_function (fun vs H Q E h => ?_) (fun cdv A outer s H vs Q E hr h => ?_)
  · obtain ⟨_, _, _, _, _, _, _, rfl, _⟩ := h
    rfl
  · obtain ⟨r, ts, e, rem, num, f, res, rfl, hR, hf, hres, k⟩ := h
    obtain ⟨dx, l, n, h1⟩ := hR.ins
    refine ⟨_, (pss_cons (ps_expr (pe_meth0 (pv 0) T.c_Reader T.m_Reader_start_function F_Reader_start_function (hr.mono (by decide)) T.b_Reader_start_function .nil pass0))
      (pss_cons (ps_set (i := 1) nd rfl (Or.inl rfl) (pe_meth (pv 0) T.c_Reader T.m_Reader_read F_Reader_read (hr.mono (by decide)) T.b_Reader_read .nil (passes_call (takes_of rfl rfl rfl rfl) fun _ _ _ _ h => h) (pa_cons pe_str pa_nil)))
      (pss_cons (ps_expr (pe_meth (pv 0) T.c_Reader T.m_Reader_expect F_Reader_expect (hr.mono (by decide)) T.b_Reader_expect .nil (passes_call (takes_of rfl rfl rfl rfl) fun _ _ _ _ h => h) (pa_cons pe_str pa_nil)))
      (pss_cons (ps_set (i := 2) nd rfl (Or.inl rfl) (pe_lst pa_nil))
      (pss_cons (ps_if (pt_not (pt_val (pe_meth (pv 0) T.c_Reader T.m_Reader_accept F_Reader_accept (hr.mono (by decide)) T.b_Reader_accept .nil pass0 (pa_cons pe_str (pa_cons pe_str pa_nil))) (fun _ => rfl))) (pss_cons (ps_expr (pe_bm PySem.F.plainAttrs_list PySem.F.slot_list_append PySem.F.type_list_append mt_append (pv 2) (pa_cons (pe_meth (pv 0) T.c_Reader T.m_Reader_read F_Reader_read (hr.mono (by decide)) T.b_Reader_read .nil (passes_call (takes_of rfl rfl rfl rfl) fun _ _ _ _ h => h) (pa_cons pe_str pa_nil)) pa_nil)))
      (pss_cons (ps_while (passes_of rfl) (pt_val (pe_meth (pv 0) T.c_Reader T.m_Reader_accept F_Reader_accept (hr.mono (by decide)) T.b_Reader_accept .nil pass0 (pa_cons pe_str (pa_cons pe_str pa_nil))) (fun _ => rfl)) (pss_one (ps_expr (pe_bm PySem.F.plainAttrs_list PySem.F.slot_list_append PySem.F.type_list_append mt_append (pv 2) (pa_cons (pe_meth (pv 0) T.c_Reader T.m_Reader_read F_Reader_read (hr.mono (by decide)) T.b_Reader_read .nil (passes_call (takes_of rfl rfl rfl rfl) fun _ _ _ _ h => h) (pa_cons pe_str pa_nil)) pa_nil)))))
      (pss_one (ps_expr (pe_meth (pv 0) T.c_Reader T.m_Reader_expect F_Reader_expect (hr.mono (by decide)) T.b_Reader_expect .nil (passes_call (takes_of rfl rfl rfl rfl) fun _ _ _ _ h => h) (pa_cons pe_str pa_nil)))))) pss_nil)
      (pss_one (ps_ret (pe_tup (pa_cons (pv 1) (pa_cons (pe_callTy call_tuple_of (by rfl) T.n_tuple (by decide +kernel) (pa_cons (pv 2) pa_nil)) (pa_cons (pe_call F_read_block (hr.mono (by decide)) rfl T.g_read_block T.k_read_block T.b_read_block .nil (passes_call (takes_of rfl rfl rfl rfl) fun _ _ _ _ h => h) (pa_cons (pv 0) (pa_cons pe_int pa_nil))) pa_nil))))))))))), ?_⟩
    unfold rdFn at hres
    walk_at "rd"
    refine ⟨_, _, _, rfl, h1, rfl, r, ts, e, rem, num, rfl, hR, ?_⟩
    intro H1 k1 hR1
    obtain ⟨dx, l, n, h1⟩ := hR1.ins
    walk_at "rd"
    refine ⟨_, _, _, rfl, h1, rfl, ?_⟩
    walk_at "rd"
    refine read_name hR1 ?_
    cases hn : rdName e rem with
    | error x =>
      rw [hn] at hres
      obtain rfl := Option.some.inj hres
      exact XEr.back k k1
    | ok z =>
      obtain ⟨name, rem2⟩ := z
      rw [hn] at hres
      dsimp only at hres
      intro H2 k2 hR2
      replace k2 := k1.trans k2
      obtain ⟨dx, l, n, h2⟩ := hR2.ins
      walk_at "rd"
      refine ⟨_, _, _, rfl, h2, rfl, ?_⟩
      walk_at "rd"
      refine ⟨r, ts, e, rem2, _, "(", rfl, hR2, by decide +kernel, ?_⟩
      cases hx : expct e "(" rem2 with
      | error x =>
        rw [hx] at hres
        obtain rfl := Option.some.inj hres
        exact XEr.back k k2
      | ok rem3 =>
        rw [hx] at hres
        dsimp only at hres
        intro H3 k3 hR3
        replace k3 := k2.trans k3
        walk_at "rd"
        refine ⟨Nat.zero_le _, fun p hp => ?_⟩
        have hpo := hR3.old hp
        have hpH := k3.fresh (l := p) (by simpa using hpo.1) hp
        have k4 : Kp [r] H (upd H3 p (.lst [])) := k3.trans (Kp.new hp)
        have hR4 := hR3.kp (Kp.new (o := .lst []) hp)
        have hp4 : (upd H3 p (.lst [])) p = some (.lst []) := upd_same
        generalize upd H3 p (.lst []) = H4 at k4 hR4 hp4
        have grow : ∀ (done : List Str) (xs : List V) (v : Str) (Hn : Hp), Hn p = some (.lst xs) → Kp [r] H Hn → DpAll K Hn xs (done.map .str) → Kp [r] H (upd Hn p (.lst (xs ++ [.str v]))) ∧ (upd Hn p (.lst (xs ++ [.str v]))) p = some (.lst (xs ++ [.str v])) ∧ DpAll K (upd Hn p (.lst (xs ++ [.str v]))) (xs ++ [.str v]) ((done ++ [v]).map .str) := fun done xs v Hn a1 a2 a3 => by
          have kk : Kp [p] Hn (upd Hn p (.lst (xs ++ [.str v]))) := Kp.put a1 nt_lst (by simp)
          refine ⟨a2.mine hpH, upd_same, ?_⟩
          rw [List.map_append]
          exact DpAll.snoc (Dp.kps kk _ _ (strs_nl done) a3) (.str _)
        obtain ⟨dx, l, n, h4⟩ := hR4.ins
        walk_at "rd"
        refine ⟨_, _, _, rfl, h4, rfl, ?_⟩
        walk_at "rd"
        unfold rdPs at hres
        refine ⟨r, ts, e, rem3, _, "sign", ")", rfl, hR4, by decide, by decide +kernel, by decide +kernel, fun h H5 k5 hR5 => ?_, fun h H5 k5 hR5 => ?_⟩
        · rw [acc_f h] at hres
          dsimp only at hres
          have hp5 := k5.keep _ _ (by simpa using hpo.1) hp4
          replace k5 := k4.trans k5
          obtain ⟨dx, l, n, h5⟩ := hR5.ins
          walk_at "rd"
          refine ⟨.inl ⟨rfl, _, SqL.of hp5⟩, ?_⟩
          walk_at "rd"
          refine ⟨_, _, _, rfl, h5, rfl, ?_⟩
          walk_at "rd"
          refine read_name hR5 ?_
          cases hv : rdName e rem3 with
          | error x =>
            rw [hv] at hres
            obtain rfl := Option.some.inj hres
            exact XEr.back k k5
          | ok z =>
            obtain ⟨v, rem4⟩ := z
            rw [hv] at hres
            dsimp only at hres
            intro H6 k6 hR6
            have hp6 := k6.keep _ _ (by simpa using hpo.1) hp5
            replace k6 := k5.trans k6
            refine ⟨_, _, _, rfl, rfl, hp6, szt (by decide), ?_⟩
            walk_at "rd"
            obtain ⟨g1, g2, g3⟩ := grow [] [] v H6 hp6 k6 .nil
            refine ⟨fun f' σ H' => ∃ (done : List Str) (xs : List V) (rem' : List Tk) (res' : Except Er (List Str × List Tk)), done.length + f' ≤ 90001 ∧ σ = [some (.ref r), some (.str name), some (.ref p)] ∧ Kp [r] H H' ∧ H' p = some (.lst xs) ∧ DpAll K H' xs (done.map .str) ∧ RAt K H' r ts e rem' 0 ∧ rdNms e f' rem' = some res' ∧ (match res' with
                | .error x => res = .error x
                | .ok (vs, rem3) => match expct e ")" rem3 with
                  | .error x => res = .error x
                  | .ok r3 => (match rdBlk e f 1 r3 0 with
                    | none => none
                    | some (.error x) => some (.error x)
                    | some (.ok (b, r4, k)) => some (.ok (⟨name, done ++ vs, b⟩, r4, k))) = some res), ⟨f, ?_⟩, ?_⟩
            · cases hm : rdNms e f rem4 with
              | none =>
                rw [hm] at hres
                cases hres
              | some res' =>
                rw [hm] at hres
                refine ⟨[v], [.str v], rem4, res', by show 1 + f ≤ 90001; omega, rfl, g1, g2, g3, hR6.mine hpo hp6 nt_lst, hm, ?_⟩
                cases res' with
                | error x => exact (Option.some.inj hres).symm
                | ok z =>
                  obtain ⟨vs, rem3⟩ := z
                  dsimp only at hres ⊢
                  cases hx : expct e ")" rem3 with
                  | error x =>
                    rw [hx] at hres
                    exact (Option.some.inj hres).symm
                  | ok r3 =>
                    rw [hx] at hres
                    exact hres
            clear hres
            rintro f' σ H' ⟨done, xs, rem', res', hfl, rfl, k7, hp7, hd7, hR7, hm, kr⟩
            obtain ⟨dx, l, n, h7⟩ := hR7.ins
            obtain ⟨f', rfl⟩ : ∃ m, f' = m + 1 := by
              cases f' with
              | zero => cases hm
              | succ m => exact ⟨m, rfl⟩
            unfold rdNms at hm
            walk_at "rd"
            refine ⟨_, _, _, rfl, h7, rfl, ?_⟩
            walk_at "rd"
            refine ⟨r, ts, e, rem', _, "sign", ",", rfl, hR7, by decide, by decide +kernel, by decide +kernel, fun h H8 k8 hR8 => ?_, fun h H8 k8 hR8 => ?_⟩
            · rw [acc_f h] at hm
              obtain rfl := Option.some.inj hm
              dsimp only at kr
              obtain ⟨dx, l, n, h8⟩ := hR8.ins
              have hp8 := k8.keep _ _ (by simpa using hpo.1) hp7
              have hd8 := Dp.kps k8 _ _ (strs_nl _) hd7
              replace k8 := k7.trans k8
              walk_at "rd"
              refine ⟨_, _, _, rfl, h8, rfl, ?_⟩
              walk_at "rd"
              refine ⟨r, ts, e, rem', _, ")", rfl, hR8, by decide +kernel, ?_⟩
              cases hx : expct e ")" rem' with
              | error x =>
                rw [hx] at kr
                subst kr
                exact XEr.back k k8
              | ok r3 =>
                rw [hx] at kr
                dsimp only at kr
                rw [List.append_nil] at kr
                intro H9 k9 hR9
                have hp9 := k9.keep _ _ (by simpa using hpo.1) hp8
                have hd9 := Dp.kps k9 _ _ (strs_nl _) hd8
                replace k9 := k8.trans k9
                have hres := kr
                obtain ⟨dx, l, n, hC⟩ := hR9.ins
                walk_at "rd"
                refine ⟨_, _, rfl, .inl ⟨SqL.of hp9, fun t ht => ?_⟩⟩
                have kt : Kp [] H9 (upd H9 t (.tup xs)) := Kp.new ht
                have hRt := hR9.kp kt
                have hdt : Dp K (upd H9 t (.tup xs)) (.ref t) (.tuple (done.map .str)) := Dp.new hd9 (strs_nl done) ht
                replace kt := k9.trans kt.nil
                generalize upd H9 t (.tup xs) = HT at kt hRt hdt
                walk_at "rd"
                cases hb : rdBlk e f 1 r3 0 with
                | none =>
                  rw [hb] at hres
                  cases hres
                | some rb =>
                  refine ⟨r, ts, e, r3, 0, 1, f, rb, rfl, hRt, rfl, hf, hb, ?_⟩
                  rw [hb] at hres
                  cases rb with
                  | error x =>
                    obtain rfl := Option.some.inj hres
                    exact XEr.back k kt
                  | ok z =>
                    obtain ⟨body, r4, num4⟩ := z
                    obtain rfl := Option.some.inj hres
                    intro u5 H5 k5 hR5 hd5
                    walk_at "rd"
                    refine ⟨szl (Nat.le_of_ble_eq_true rfl), fun t2 ht2 => ?_⟩
                    exact k _ _ ((kt.trans k5).trans (Kp.new ht2)) (hR5.kp (Kp.new ht2)) (Dp.new (.cons (.str _) (.cons (Dp.kp k5 (.tuple (done.map .str)) _ (strs_nl done) hdt) (.cons hd5 .nil))) (Fd.nl ⟨name, done, body⟩) ht2)
            · rw [acc_t h] at hm
              dsimp only at hm
              obtain ⟨dx, l, n, h8⟩ := hR8.ins
              have hp8 := k8.keep _ _ (by simpa using hpo.1) hp7
              have hd8 := Dp.kps k8 _ _ (strs_nl _) hd7
              replace k8 := k7.trans k8
              walk_at "rd"
              refine ⟨_, fun _ _ z => z, ?_⟩
              walk_at "rd"
              refine ⟨.inl ⟨rfl, _, SqL.of hp8⟩, ?_⟩
              walk_at "rd"
              refine ⟨_, _, _, rfl, h8, rfl, ?_⟩
              walk_at "rd"
              refine read_name hR8 ?_
              cases hv2 : rdName e rem'.tail with
              | error x =>
                rw [hv2] at hm
                obtain rfl := Option.some.inj hm
                dsimp only at kr
                subst kr
                exact XEr.back k k8
              | ok z =>
                obtain ⟨v2, rem3⟩ := z
                rw [hv2] at hm
                dsimp only at hm
                intro H9 k9 hR9
                have hp9 := k9.keep _ _ (by simpa using hpo.1) hp8
                have hd9 := Dp.kps k9 _ _ (strs_nl _) hd8
                replace k9 := k8.trans k9
                have hxl : xs.length = done.length := by rw [DpAll.length hd9, List.length_map]
                refine ⟨_, _, _, rfl, rfl, hp9, szt (by omega), ?_⟩
                walk_at "rd"
                obtain ⟨g1, g2, g3⟩ := grow done xs v2 H9 hp9 k9 hd9
                cases hm2 : rdNms e f' rem3 with
                | none =>
                  rw [hm2] at hm
                  cases hm
                | some res2 =>
                  rw [hm2] at hm
                  refine ⟨f', Nat.lt_succ_self _, done ++ [v2], xs ++ [.str v2], rem3, res2, by rw [List.length_append]; show done.length + 1 + f' ≤ 90001; omega, rfl, g1, g2, g3, hR9.mine hpo hp9 nt_lst, hm2, ?_⟩
                  cases res2 with
                  | error x =>
                    obtain rfl := Option.some.inj hm
                    exact kr
                  | ok z =>
                    obtain ⟨vs, rem4⟩ := z
                    obtain rfl := Option.some.inj hm
                    dsimp only at kr ⊢
                    rw [List.append_assoc]
                    exact kr
        · rw [acc_t h] at hres
          dsimp only at hres
          have hp5 := k5.keep _ _ (by simpa using hpo.1) hp4
          replace k5 := k4.trans k5
          have hd5 : DpAll K H5 [] (([] : List Str).map PyData.str) := .nil
          obtain ⟨dx, l, n, hC⟩ := hR5.ins
          walk_at "rd"
          refine ⟨_, _, rfl, .inl ⟨SqL.of hp5, fun t ht => ?_⟩⟩
          have kt : Kp [] H5 (upd H5 t (.tup [])) := Kp.new ht
          have hRt := hR5.kp kt
          have hdt : Dp K (upd H5 t (.tup [])) (.ref t) (.tuple (([] : List Str).map .str)) := Dp.new hd5 (strs_nl ([] : List Str)) ht
          replace kt := k5.trans kt.nil
          generalize upd H5 t (.tup []) = HT at kt hRt hdt
          walk_at "rd"
          cases hb : rdBlk e f 1 rem3.tail 0 with
          | none =>
            rw [hb] at hres
            cases hres
          | some rb =>
            refine ⟨r, ts, e, rem3.tail, 0, 1, f, rb, rfl, hRt, rfl, hf, hb, ?_⟩
            rw [hb] at hres
            cases rb with
            | error x =>
              obtain rfl := Option.some.inj hres
              exact XEr.back k kt
            | ok z =>
              obtain ⟨body, r4, num4⟩ := z
              obtain rfl := Option.some.inj hres
              intro u5 H5 k5 hR5 hd5
              walk_at "rd"
              refine ⟨szl (Nat.le_of_ble_eq_true rfl), fun t2 ht2 => ?_⟩
              exact k _ _ ((kt.trans k5).trans (Kp.new ht2)) (hR5.kp (Kp.new ht2)) (Dp.new (.cons (.str _) (.cons (Dp.kp k5 (.tuple (([] : List Str).map .str)) _ (strs_nl ([] : List Str)) hdt) (.cons hd5 .nil))) (Fd.nl ⟨name, [], body⟩) ht2)
def spWord : Sp := fun vs H Q E => ∃ r ts e rem num v, vs = [.ref r, .str v] ∧ RAt K H r ts e rem num ∧ PyData.strOk v = true ∧ match wrd e v rem with
  | .error x => XEr K [r] H E x
  | .ok rem' => ∀ H', Kp [r] H H' → RAt K H' r ts e rem' num → Q .non H'
theorem ok_expect_word (T : Tx P K mg) : OkF P w K mg base (L2.CX P w) 3 a_expect_word ["reader", "word"] (spWord (K := K)) := by
  have nd := sc_expect_word.nd
  have cl := T.c_Reader
  have F_Reader_accept := ok_accept (P := P) (w := w) (base := base) T
  have F_Reader_place := ok_place (P := P) (w := w) (base := base) T
  refine T.f_expect_word.ok (CX := L2.CX P w) sc_expect_word (fun vs H Q E h => ?_) (fun cdv A outer s H vs Q E hr h => ?_)
  · obtain ⟨_, _, _, _, _, _, rfl, _⟩ := h
    rfl
  · obtain ⟨r, ts, e, rem, num, v, rfl, hR, ok2, k⟩ := h
    obtain ⟨dx, l, n, h1⟩ := hR.ins
    refine ⟨_, (pss_one (ps_if (pt_not (pt_val (pe_meth (pv 0) T.c_Reader T.m_Reader_accept F_Reader_accept (hr.mono (by decide)) T.b_Reader_accept .nil pass0 (pa_cons pe_str (pa_cons (pv 1) pa_nil))) (fun _ => rfl))) (pss_one (ps_raiseSx rfl T.g_Malformed T.x_Malformed hr (by decide) strR_scal (takes_of rfl rfl rfl rfl) (by exact (pa_cons (pe_meth0 (pv 0) T.c_Reader T.m_Reader_place F_Reader_place (hr.mono (by decide)) T.b_Reader_place .nil pass0) pa_nil)))) pss_nil)), ?_⟩
    unfold wrd at k
    walk_at "rd"
    refine ⟨_, _, _, rfl, h1, rfl, ?_⟩
    walk_at "rd"
    refine ⟨r, ts, e, rem, num, "reserved", v, rfl, hR, by decide, by decide +kernel, ok2, fun h H1 k1 hR1 => ?_, fun h H1 k1 hR1 => ?_⟩
    · rw [acc_f h] at k
      obtain ⟨dx, l, n, h1⟩ := hR1.ins
      walk_at "rd"
      refine ⟨_, _, _, rfl, h1, rfl, r, ts, e, rem, num, rfl, hR1, ?_⟩
      walk_at "rd"
      exact ⟨soInt hR.plc_le, fun d hd => (XEr.back k k1).new hd⟩
    · rw [acc_t h] at k
      walk_at "rd"
      exact k _ k1 hR1
end
end K14


set_option Elab.async false
set_option linter.all false
set_option maxRecDepth 100000
set_option maxHeartbeats 4000000
namespace K14
open PySem PySem.Spec PyProof.Rows L2 He Hz Cm Lx Px
local macro_rules | `(tactic| walk_at "rd") => `(tactic| repeat (first | (refine ⟨_, rfl, ?_⟩) | (refine ⟨_, _, rfl, rfl, ?_⟩) | (refine ⟨rfl, ?_⟩) | (refine ⟨szl (by omega), ?_⟩) | (refine ⟨_, _, _, _, _, rfl, (by assumption), (by assumption), (by assumption), (by rfl), ?_⟩) | (refine ⟨_, _, rfl, Or.inl (by assumption), ?_⟩)))
local macro_rules | `(tactic| walk_at "dp") => `(tactic| (repeat' (first | exact DpAll.nil | apply DpAll.cons | exact Dp.str _ | exact Dp.int _ | exact Dp.non | exact Dp.bl _ | assumption)))
section
variable {P : Program} {w : World} {K : PySem.W.Frag} {mg : Str → Option Value} {base : Heap} {H H1 H' : Hp} {r : Addr} {ts : Addr × List Tk} {rem : List Tk} {e num : Nat} {Q : VK} {E : XK}
theorem Kp.own {p : Addr} (k0 : Kp [] H H1) (hp : H p = none) (k : Kp [p] H1 H') : Kp [] H H' := ⟨fun b o _ h => k.keep b o (by
  intro m
  obtain rfl := List.mem_singleton.mp m
  rw [hp] at h
  cases h) (k0.keep b o (by simp) h), fun b xs h => k.tup b xs (k0.tup b xs h)⟩
theorem Itm.nl : ∀ i : Itm, noL i.enc = true
  | .glo x => rfl
  | .fn f => by
    show (true && (noL f.enc && true)) = true
    rw [Fd.nl]
    rfl
theorem Itms.nl (l : List Itm) : noLs (l.map Itm.enc) = true := noLs_map (List.all_eq_true.mpr fun i _ => Itm.nl i)
def IOut (K : PySem.W.Frag) (H : Hp) (Q : VK) (E : XK) : Except Er (List Itm) → Prop
  | .error x => XEr K [] H E x
  | .ok its => LOut K H Q (its.map Itm.enc)
/-- what parse tells -/
def prs (f : Nat) (x : Str) : Pr (List Itm) := match lex x.cps.toList with
  | .error er => some (.error er)
  | .ok ts => rdItms x.length f ts
def spParse : Sp := fun vs H Q E => ∃ x f res, vs = [.str x] ∧ x.length ≤ 400000 ∧ f ≤ 90000 ∧ prs f x = some res ∧ IOut K H Q E res
theorem ok_parse (T : Tx P K mg) : OkF P w K mg base (L2.CX P w) 34 a_parse ["text"] (spParse (K := K)) := by
  have nd := sc_parse.nd
  have cl := T.c_Reader
  have F_Reader___init__ := ok_Reader_init (P := P) (w := w) (base := base) T
  have F_Reader_accept := ok_accept (P := P) (w := w) (base := base) T
  have F_Reader_at_end := ok_at_end (P := P) (w := w) (base := base) T
  have F_Reader_expect := ok_expect (P := P) (w := w) (base := base) T
  have F_Reader_read := ok_read (P := P) (w := w) (base := base) T
  have F_expect_word := ok_expect_word (P := P) (w := w) (base := base) T
  have F_read_function := ok_read_function (P := P) (w := w) (base := base) T
  refine T.f_parse.ok (CX := L2.CX P w) sc_parse (fun vs H Q E h => ?_) (fun cdv A outer s H vs Q E hr h => ?_)
  · obtain ⟨_, _, _, rfl, _⟩ := h
    rfl
  · obtain ⟨x, f, res, rfl, hx, hf, hres, k⟩ := h
    refine ⟨_, (pss_cons (ps_set (i := 1) nd rfl (Or.inl rfl) (pe_make T.mk_Reader F_Reader___init__ (hr.mono (by decide)) rfl T.g_Reader T.b_Reader___init__ .nil (passes_call (takes_of rfl rfl rfl rfl) fun _ _ _ _ h => h) (pa_cons (pv 0) pa_nil)))
      (pss_cons (ps_set (i := 2) nd rfl (Or.inl rfl) (pe_lst pa_nil))
      (pss_cons (ps_while (passes_of rfl) (pt_not (pt_val (pe_meth0 (pv 1) T.c_Reader T.m_Reader_at_end F_Reader_at_end (hr.mono (by decide)) T.b_Reader_at_end .nil pass0) (fun _ => rfl))) (pss_one (ps_if (pt_val (pe_meth (pv 1) T.c_Reader T.m_Reader_accept F_Reader_accept (hr.mono (by decide)) T.b_Reader_accept .nil pass0 (pa_cons pe_str (pa_cons pe_str pa_nil))) (fun _ => rfl)) (pss_cons (ps_expr (pe_bm PySem.F.plainAttrs_list PySem.F.slot_list_append PySem.F.type_list_append mt_append (pv 2) (pa_cons (pe_tup (pa_cons pe_str (pa_cons (pe_meth (pv 1) T.c_Reader T.m_Reader_read F_Reader_read (hr.mono (by decide)) T.b_Reader_read .nil (passes_call (takes_of rfl rfl rfl rfl) fun _ _ _ _ h => h) (pa_cons pe_str pa_nil)) pa_nil))) pa_nil)))
      (pss_one (ps_expr (pe_meth (pv 1) T.c_Reader T.m_Reader_expect F_Reader_expect (hr.mono (by decide)) T.b_Reader_expect .nil (passes_call (takes_of rfl rfl rfl rfl) fun _ _ _ _ h => h) (pa_cons pe_str pa_nil))))) (pss_cons (ps_expr (pe_call F_expect_word (hr.mono (by decide)) rfl T.g_expect_word T.k_expect_word T.b_expect_word .nil (passes_call (takes_of rfl rfl rfl rfl) fun _ _ _ _ h => h) (pa_cons (pv 1) (pa_cons pe_str pa_nil))))
      (pss_one (ps_expr (pe_bm PySem.F.plainAttrs_list PySem.F.slot_list_append PySem.F.type_list_append mt_append (pv 2) (pa_cons (pe_tup (pa_cons pe_str (pa_cons (pe_call F_read_function (hr.mono (by decide)) rfl T.g_read_function T.k_read_function T.b_read_function .nil (passes_call (takes_of rfl rfl rfl rfl) fun _ _ _ _ h => h) (pa_cons (pv 1) pa_nil)) pa_nil))) pa_nil))))))))
      (pss_one (ps_ret (pv 2)))))), ?_⟩
    unfold prs at hres
    walk_at "rd"
    intro r dx hr0 hd0 hne
    have k0 : Kp [] H (upd (upd H dx (.own r)) r (.ins (ga K "Reader") dx [])) := (Kp.new hd0).trans (Kp.new (by rw [upd_ne (Ne.symm hne)]; exact hr0))
    refine ⟨r, dx, x, rfl, upd_same, hx, ?_⟩
    generalize upd (upd H dx (.own r)) r (.ins (ga K "Reader") dx []) = H0 at k0
    cases hl : lex x.cps.toList with
    | error er =>
      rw [hl] at hres
      obtain rfl := Option.some.inj hres
      exact fun d H' kk hd => k d H' (Kp.own k0 hr0 kk) hd
    | ok tl =>
      rw [hl] at hres
      dsimp only at hres
      intro l H1 hl1 k1 hR1
      walk_at "rd"
      refine ⟨Nat.zero_le _, fun p hp => ?_⟩
      have hpo := hR1.old hp
      have kr0 := Kp.own k0 hr0 k1
      have hpH := kr0.fresh (l := p) (by simp) hp
      -- all that the reader does
      have kx : ∀ (Hn Hm : Hp), Kp [] H Hn → Kp [r] Hn Hm → Kp [] H Hm := fun Hn Hm a b => Kp.own a hr0 b
      have grow : ∀ (done : List Itm) (xs : List V) (v : Itm) (u : V) (Hn : Hp), Hn p = some (.lst xs) → Kp [] H Hn → DpAll K Hn xs (done.map Itm.enc) → Dp K Hn u v.enc → Kp [] H (upd Hn p (.lst (xs ++ [u]))) ∧ (upd Hn p (.lst (xs ++ [u]))) p = some (.lst (xs ++ [u])) ∧ DpAll K (upd Hn p (.lst (xs ++ [u]))) (xs ++ [u]) ((done ++ [v]).map Itm.enc) := fun done xs v u Hn a1 a2 a3 a4 => by
        have kk : Kp [p] Hn (upd Hn p (.lst (xs ++ [u]))) := Kp.put a1 nt_lst (by simp)
        refine ⟨a2.mine hpH, upd_same, ?_⟩
        rw [List.map_append]
        exact DpAll.snoc (Dp.kps kk _ _ (Itms.nl done) a3) (Dp.kp kk _ _ (Itm.nl v) a4)
      have xb : ∀ {er : Er} {Hn Hm : Hp}, XEr K [] H E er → Kp [] H Hn → XEr K [r] Hn E er := fun kk a d H' b hd => kk d H' (kx _ _ a b) hd
      refine ⟨fun f' σ H' => ∃ (done : List Itm) (xs : List V) (rem' : List Tk) (num' : Nat) (res' : Except Er (List Itm)), done.length + f' ≤ 90001 ∧ σ = [some (.str x), some (.ref r), some (.ref p)] ∧ Kp [] H H' ∧ H' p = some (.lst xs) ∧ DpAll K H' xs (done.map Itm.enc) ∧ RAt K H' r (l, tl) x.length rem' num' ∧ rdItms x.length f' rem' = some res' ∧ (match res' with
          | .error x => XEr K [] H E x
          | .ok its => LOut K H Q ((done ++ its).map Itm.enc)), ⟨f, [], [], tl, 0, res, by show 0 + f ≤ 90001; omega, rfl, kr0.trans (Kp.new hp), upd_same, .nil, hR1.kp (Kp.new hp), hres, ?_⟩, ?_⟩
      · cases res with
        | error x => exact k
        | ok z => exact k
      clear hres
      rintro f' σ H' ⟨done, xs, rem', num', res', hfl, rfl, k3, hp3, hd3, hR3, hm, kr⟩
      have hxl : xs.length = done.length := by rw [DpAll.length hd3, List.length_map]
      obtain ⟨dx, l', n, h3⟩ := hR3.ins
      obtain ⟨f', rfl⟩ : ∃ m, f' = m + 1 := by
        cases f' with
        | zero =>
          unfold rdItms at hm
          cases hm
        | succ m => exact ⟨m, rfl⟩
      unfold rdItms at hm
      walk_at "rd"
      refine ⟨_, _, _, rfl, h3, rfl, r, (l, tl), x.length, rem', num', rfl, hR3, ?_⟩
      walk_at "rd"
      by_cases hend : rem' = []
      · subst hend
        rw [if_pos rfl] at hm
        obtain rfl := Option.some.inj hm
        have e1 : decide (([] : List Tk) = []) = true := decide_eq_true rfl
        rw [e1]
        walk_at "rd"
        dsimp only at kr
        rw [List.append_nil] at kr
        exact kr p xs H' hpH k3 hp3 hd3
      · rw [if_neg hend] at hm
        rw [decide_eq_false hend]
        walk_at "rd"
        refine ⟨_, fun _ _ z => z, ?_⟩
        walk_at "rd"
        refine ⟨_, _, _, rfl, h3, rfl, ?_⟩
        walk_at "rd"
        refine ⟨r, (l, tl), x.length, rem', num', "reserved", "global", rfl, hR3, by decide, by decide +kernel, by decide +kernel, fun h H4 k4 hR4 => ?_, fun h H4 k4 hR4 => ?_⟩
        · -- a function
          rw [acc_f h] at hm
          dsimp only at hm
          have hp4 := k4.keep _ _ (by simpa using hpo.1) hp3
          have hd4 := Dp.kps k4 _ _ (Itms.nl _) hd3
          replace k4 := kx _ _ k3 k4
          walk_at "rd"
          refine ⟨r, (l, tl), x.length, rem', num', "fn", rfl, hR4, by decide +kernel, ?_⟩
          cases hw : wrd x.length "fn" rem' with
          | error er =>
            rw [hw] at hm
            obtain rfl := Option.some.inj hm
            exact xb (Hm := H) kr k4
          | ok rem2 =>
            rw [hw] at hm
            dsimp only at hm
            intro H5 k5 hR5
            have hp5 := k5.keep _ _ (by simpa using hpo.1) hp4
            have hd5 := Dp.kps k5 _ _ (Itms.nl _) hd4
            replace k5 := kx _ _ k4 k5
            walk_at "rd"
            refine ⟨.inl ⟨rfl, _, SqL.of hp5⟩, ?_⟩
            walk_at "rd"
            cases hfn : rdFn x.length f' rem2 with
            | none =>
              rw [hfn] at hm
              cases hm
            | some rf =>
              refine ⟨r, (l, tl), x.length, rem2, num', f', rf, rfl, hR5, by omega, hfn, ?_⟩
              rw [hfn] at hm
              cases rf with
              | error er =>
                obtain rfl := Option.some.inj hm
                exact xb (Hm := H) kr k5
              | ok z =>
                obtain ⟨g, rem3, num3⟩ := z
                dsimp only at hm
                intro u6 H6 k6 hR6 hd6
                have hp6 := k6.keep _ _ (by simpa using hpo.1) hp5
                have hd65 := Dp.kps k6 _ _ (Itms.nl _) hd5
                replace k6 := kx _ _ k5 k6
                walk_at "rd"
                refine ⟨szl (Nat.le_of_ble_eq_true rfl), fun q hq => ?_⟩
                have kq : Kp [] H6 (upd H6 q (.tup [.str "fn", u6])) := Kp.new hq
                have hdq : Dp K (upd H6 q (.tup [.str "fn", u6])) (.ref q) (Itm.fn g).enc := Dp.new (by walk_at "dp") (Itm.nl (.fn g)) hq
                have hpq := kq.keep _ _ (by simp) hp6
                have hdx := Dp.kps kq _ _ (Itms.nl _) hd65
                have hRq := hR6.kp kq
                replace kq := k6.trans kq
                generalize upd H6 q (.tup [.str "fn", u6]) = H7 at kq hdq hpq hdx hRq
                refine ⟨_, _, _, rfl, rfl, hpq, szt (by omega), ?_⟩
                walk_at "rd"
                obtain ⟨g1, g2, g3⟩ := grow done xs (.fn g) (.ref q) H7 hpq kq hdx hdq
                cases hm2 : rdItms x.length f' rem3 with
                | none =>
                  rw [hm2] at hm
                  cases hm
                | some res2 =>
                  rw [hm2] at hm
                  refine ⟨f', Nat.lt_succ_self _, done ++ [.fn g], xs ++ [.ref q], rem3, num3, res2, by rw [List.length_append]; show done.length + 1 + f' ≤ 90001; omega, rfl, g1, g2, g3, hRq.mine hpo hpq nt_lst, hm2, ?_⟩
                  cases res2 with
                  | error x =>
                    obtain rfl := Option.some.inj hm
                    exact kr
                  | ok its =>
                    obtain rfl := Option.some.inj hm
                    dsimp only at kr ⊢
                    rw [List.append_assoc]
                    exact kr
        · -- a global
          rw [acc_t h] at hm
          dsimp only at hm
          have hp4 := k4.keep _ _ (by simpa using hpo.1) hp3
          have hd4 := Dp.kps k4 _ _ (Itms.nl _) hd3
          replace k4 := kx _ _ k3 k4
          obtain ⟨dx, l', n, h4⟩ := hR4.ins
          walk_at "rd"
          refine ⟨.inl ⟨rfl, _, SqL.of hp4⟩, ?_⟩
          walk_at "rd"
          refine ⟨_, _, _, rfl, h4, rfl, ?_⟩
          walk_at "rd"
          refine read_name hR4 ?_
          cases hv : rdName x.length rem'.tail with
          | error er =>
            rw [hv] at hm
            obtain rfl := Option.some.inj hm
            exact xb (Hm := H) kr k4
          | ok z =>
            obtain ⟨g, rem3⟩ := z
            rw [hv] at hm
            dsimp only at hm
            intro H6 k6 hR6
            have hp6 := k6.keep _ _ (by simpa using hpo.1) hp4
            have hd65 := Dp.kps k6 _ _ (Itms.nl _) hd4
            replace k6 := kx _ _ k4 k6
            walk_at "rd"
            refine ⟨szl (Nat.le_of_ble_eq_true rfl), fun q hq => ?_⟩
            have kq : Kp [] H6 (upd H6 q (.tup [.str "global", .str g])) := Kp.new hq
            have hdq : Dp K (upd H6 q (.tup [.str "global", .str g])) (.ref q) (Itm.glo g).enc := Dp.new (by walk_at "dp") (Itm.nl (.glo g)) hq
            have hpq := kq.keep _ _ (by simp) hp6
            have hdx := Dp.kps kq _ _ (Itms.nl _) hd65
            have hRq := hR6.kp kq
            replace kq := k6.trans kq
            generalize upd H6 q (.tup [.str "global", .str g]) = H7 at kq hdq hpq hdx hRq
            refine ⟨_, _, _, rfl, rfl, hpq, szt (by omega), ?_⟩
            walk_at "rd"
            obtain ⟨g1, g2, g3⟩ := grow done xs (.glo g) (.ref q) H7 hpq kq hdx hdq
            have hR8 := hRq.mine (o := .lst (xs ++ [.ref q])) hpo hpq nt_lst
            obtain ⟨dx, l', n, h8⟩ := hR8.ins
            walk_at "rd"
            refine ⟨_, _, _, rfl, h8, rfl, ?_⟩
            walk_at "rd"
            refine ⟨r, (l, tl), x.length, rem3, _, ";", rfl, hR8, by decide +kernel, ?_⟩
            cases hx : expct x.length ";" rem3 with
            | error er =>
              rw [hx] at hm
              obtain rfl := Option.some.inj hm
              exact xb (Hm := H) kr g1
            | ok rem4 =>
              rw [hx] at hm
              dsimp only at hm
              intro H9 k9 hR9
              have hp9 := k9.keep _ _ (by simpa using hpo.1) g2
              have hd9 := Dp.kps k9 _ _ (Itms.nl _) g3
              replace k9 := kx _ _ g1 k9
              walk_at "rd"
              cases hm2 : rdItms x.length f' rem4 with
              | none =>
                rw [hm2] at hm
                cases hm
              | some res2 =>
                rw [hm2] at hm
                refine ⟨f', Nat.lt_succ_self _, done ++ [.glo g], xs ++ [.ref q], rem4, num', res2, by rw [List.length_append]; show done.length + 1 + f' ≤ 90001; omega, rfl, k9, hp9, hd9, hR9, hm2, ?_⟩
                cases res2 with
                | error x =>
                  obtain rfl := Option.some.inj hm
                  exact kr
                | ok its =>
                  obtain rfl := Option.some.inj hm
                  dsimp only at kr ⊢
                  rw [List.append_assoc]
                  exact kr
end
end K14


set_option Elab.async false
set_option linter.all false
set_option maxRecDepth 100000
set_option maxHeartbeats 4000000
namespace K14
open PySem PySem.Spec PyProof.Rows L2 He Hz Cm Lx Px
local macro_rules | `(tactic| walk_at "rd") => `(tactic| repeat (first | (refine ⟨_, rfl, ?_⟩) | (refine ⟨_, _, rfl, rfl, ?_⟩) | (refine ⟨rfl, ?_⟩) | (refine ⟨szl (by omega), ?_⟩) | (refine ⟨_, _, _, _, _, rfl, (by assumption), (by assumption), (by assumption), (by rfl), ?_⟩) | (refine ⟨_, _, rfl, Or.inl (by assumption), ?_⟩)))
local macro_rules | `(tactic| walk_at "dp") => `(tactic| (repeat' (first | exact DpAll.nil | apply DpAll.cons | exact Dp.str _ | exact Dp.int _ | exact Dp.non | exact Dp.bl _ | assumption)))
section
variable {P : Program} {w : World} {K : PySem.W.Frag} {mg : Str → Option Value} {base : Heap} {H H1 H' : Hp} {r : Addr} {ts : Addr × List Tk} {rem : List Tk} {e num : Nat} {Q : VK} {E : XK}
/-- what parse_function tells -/
def pfn (f : Nat) (x : Str) : Pr Fd := match lex x.cps.toList with
  | .error er => some (.error er)
  | .ok ts => match wrd x.length "fn" ts with
    | .error er => some (.error er)
    | .ok r => match rdFn x.length f r with
      | none => none
      | some (.error er) => some (.error er)
      | some (.ok (g, r2, _)) => if r2 = [] then some (.ok g) else some (.error (.mal (plc x.length r2)))
def spPF : Sp := fun vs H Q E => ∃ x f res, vs = [.str x] ∧ x.length ≤ 400000 ∧ f ≤ 90000 ∧ pfn f x = some res ∧ match res with
  | .error er => XEr K [] H E er
  | .ok g => ∀ u H', Kp [] H H' → Dp K H' u g.enc → Q u H'
theorem ok_parse_function (T : Tx P K mg) : OkF P w K mg base (L2.CX P w) 34 a_parse_function ["text"] (spPF (K := K)) := by
  have nd := sc_parse_function.nd
  have cl := T.c_Reader
  have F_Reader___init__ := ok_Reader_init (P := P) (w := w) (base := base) T
  have F_Reader_at_end := ok_at_end (P := P) (w := w) (base := base) T
  have F_Reader_place := ok_place (P := P) (w := w) (base := base) T
  have F_expect_word := ok_expect_word (P := P) (w := w) (base := base) T
  have F_read_function := ok_read_function (P := P) (w := w) (base := base) T
  refine T.f_parse_function.ok (CX := L2.CX P w) sc_parse_function (fun vs H Q E h => ?_) (fun cdv A outer s H vs Q E hr h => ?_)
  · obtain ⟨_, _, _, rfl, _⟩ := h
    rfl
  · obtain ⟨x, f, res, rfl, hx, hf, hres, k⟩ := h
    refine ⟨_, (pss_cons (ps_set (i := 1) nd rfl (Or.inl rfl) (pe_make T.mk_Reader F_Reader___init__ (hr.mono (by decide)) rfl T.g_Reader T.b_Reader___init__ .nil (passes_call (takes_of rfl rfl rfl rfl) fun _ _ _ _ h => h) (pa_cons (pv 0) pa_nil)))
      (pss_cons (ps_expr (pe_call F_expect_word (hr.mono (by decide)) rfl T.g_expect_word T.k_expect_word T.b_expect_word .nil (passes_call (takes_of rfl rfl rfl rfl) fun _ _ _ _ h => h) (pa_cons (pv 1) (pa_cons pe_str pa_nil))))
      (pss_cons (ps_set (i := 2) nd rfl (Or.inl rfl) (pe_call F_read_function (hr.mono (by decide)) rfl T.g_read_function T.k_read_function T.b_read_function .nil (passes_call (takes_of rfl rfl rfl rfl) fun _ _ _ _ h => h) (pa_cons (pv 1) pa_nil)))
      (pss_cons (ps_if (pt_not (pt_val (pe_meth0 (pv 1) T.c_Reader T.m_Reader_at_end F_Reader_at_end (hr.mono (by decide)) T.b_Reader_at_end .nil pass0) (fun _ => rfl))) (pss_one (ps_raiseSx rfl T.g_Malformed T.x_Malformed hr (by decide) strR_scal (takes_of rfl rfl rfl rfl) (by exact (pa_cons (pe_meth0 (pv 1) T.c_Reader T.m_Reader_place F_Reader_place (hr.mono (by decide)) T.b_Reader_place .nil pass0) pa_nil)))) pss_nil)
      (pss_one (ps_ret (pv 2))))))), ?_⟩
    unfold pfn at hres
    walk_at "rd"
    intro r dx hr0 hd0 hne
    have k0 : Kp [] H (upd (upd H dx (.own r)) r (.ins (ga K "Reader") dx [])) := (Kp.new hd0).trans (Kp.new (by rw [upd_ne (Ne.symm hne)]; exact hr0))
    refine ⟨r, dx, x, rfl, upd_same, hx, ?_⟩
    generalize upd (upd H dx (.own r)) r (.ins (ga K "Reader") dx []) = H0 at k0
    cases hl : lex x.cps.toList with
    | error er =>
      rw [hl] at hres
      obtain rfl := Option.some.inj hres
      exact fun d H' kk hd => k d H' (Kp.own k0 hr0 kk) hd
    | ok tl =>
      rw [hl] at hres
      dsimp only at hres
      intro l H1 hl1 k1 hR1
      have kr0 := Kp.own k0 hr0 k1
      have kx : ∀ (Hn Hm : Hp), Kp [] H Hn → Kp [r] Hn Hm → Kp [] H Hm := fun Hn Hm a b => Kp.own a hr0 b
      have xb : ∀ {er : Er} {Hn : Hp}, XEr K [] H E er → Kp [] H Hn → XEr K [r] Hn E er := fun kk a d H' b hd => kk d H' (kx _ _ a b) hd
      walk_at "rd"
      refine ⟨r, (l, tl), x.length, tl, 0, "fn", rfl, hR1, by decide +kernel, ?_⟩
      cases hw : wrd x.length "fn" tl with
      | error er =>
        rw [hw] at hres
        obtain rfl := Option.some.inj hres
        exact xb k kr0
      | ok rem2 =>
        rw [hw] at hres
        dsimp only at hres
        intro H5 k5 hR5
        replace k5 := kx _ _ kr0 k5
        walk_at "rd"
        cases hfn : rdFn x.length f rem2 with
        | none =>
          rw [hfn] at hres
          cases hres
        | some rf =>
          refine ⟨r, (l, tl), x.length, rem2, 0, f, rf, rfl, hR5, by omega, hfn, ?_⟩
          rw [hfn] at hres
          cases rf with
          | error er =>
            obtain rfl := Option.some.inj hres
            exact xb k k5
          | ok z =>
            obtain ⟨g, rem3, num3⟩ := z
            dsimp only at hres
            intro u6 H6 k6 hR6 hd6
            replace k6 := kx _ _ k5 k6
            obtain ⟨dx6, l6, n6, h6⟩ := hR6.ins
            walk_at "rd"
            refine ⟨_, _, _, rfl, h6, rfl, r, (l, tl), x.length, rem3, num3, rfl, hR6, ?_⟩
            walk_at "rd"
            by_cases hend : rem3 = []
            · rw [if_pos hend] at hres
              obtain rfl := Option.some.inj hres
              rw [decide_eq_true hend]
              walk_at "rd"
              exact k _ _ k6 hd6
            · rw [if_neg hend] at hres
              obtain rfl := Option.some.inj hres
              rw [decide_eq_false hend]
              walk_at "rd"
              refine ⟨_, _, _, rfl, h6, rfl, r, (l, tl), x.length, rem3, num3, rfl, hR6, ?_⟩
              skip
              exact ⟨_, rfl, soInt hR6.plc_le, fun d hd => (XEr.back k k6).new hd⟩
def spPgInit : Sp := fun vs H Q _ => ∃ p dx, vs = [.ref p] ∧ H p = some (.ins (ga K "Program") dx []) ∧ ∀ H', Kp [p] H H' → Q .non H'
theorem ok_Program_init (T : Tx P K mg) : OkF P w K mg base CX0 1 a_Program___init__ ["self"] (spPgInit (K := K)) := by
  have nd := sc_Program___init__.nd
  have cl := T.c_Program
  have na1 := T.na_Program_globals
  have na2 := T.na_Program_functions
  refine T.f_Program___init__.ok (CX := CX0) sc_Program___init__ (fun vs H Q E h => ?_) (fun cdv A outer s H vs Q E hr h => ?_)
  · obtain ⟨_, _, rfl, _⟩ := h
    rfl
  · obtain ⟨p, dx, rfl, hp, k⟩ := h
    refine ⟨_, PSs.nox (pss_cons (ps_fld (pv 0) (pe_lst pa_nil) rfl)
      (pss_one (ps_fld (pv 0) pe_dnewK rfl))), ?_⟩
    walk_at "rd"
    refine ⟨Nat.zero_le _, fun lg hlg => ?_⟩
    have nlg : lg ≠ p := fun z => by rw [z, hp] at hlg; cases hlg
    walk_at "rd"
    have h1 : (upd H lg (.lst [])) p = some (.ins (ga K "Program") dx []) := (upd_ne nlg.symm).trans hp
    refine ⟨_, _, dx, _, rfl, h1, cl, na1, (by show 0 < 1000; decide), ?_⟩
    intro df hdf
    have ndf : df ≠ p := fun z => by
      rw [z, upd_same] at hdf
      cases hdf
    rw [upd_ne ndf] at hdf
    have ndl : df ≠ lg := fun z => by
      rw [z, upd_same] at hdf
      cases hdf
    have hdfH : H df = none := by
      rw [upd_ne ndl] at hdf
      exact hdf
    walk_at "rd"
    refine ⟨_, _, dx, _, rfl, (upd_ne ndf.symm).trans upd_same, cl, na2, (by show 1 < 1000; decide), ?_⟩
    have k1 : Kp [p] H (upd H lg (.lst [])) := Kp.new hlg
    have k2 := k1.trans (Kp.put (M := [p]) (o := .ins (ga K "Program") dx (putF "_globals" (.ref lg) [])) h1 nt_ins (by simp))
    have hdf2 : (upd (upd H lg (.lst [])) p (.ins (ga K "Program") dx (putF "_globals" (.ref lg) []))) df = none := by
      rw [upd_ne ndf]
      exact hdf
    have k3 := k2.trans (Kp.new (M := [p]) (o := .dK []) hdf2)
    have k4 := k3.trans (Kp.put (M := [p]) (o := .ins (ga K "Program") dx (putF "_functions" (.ref df) (putF "_globals" (.ref lg) []))) ((upd_ne ndf.symm).trans upd_same) nt_ins (by simp))
    exact k _ k4
/-- what is not reached -/
theorem len_no {n : Nat} (vs : List V) (H : Hp) (Q : VK) (E : XK) (h : spNo vs H Q E) : vs.length = n := h.elim
theorem ok_add_global (T : Tx P K mg) : OkF P w K mg base (L2.CX P w) 2 a_Program_add_global ["self", "name"] spNo := T.f_Program_add_global.ok (CX := L2.CX P w) sc_Program_add_global (fun _ _ _ _ h => h.elim) (fun _ _ _ _ _ _ _ _ _ h => h.elim)
theorem ok_add_function (T : Tx P K mg) : OkF P w K mg base (L2.CX P w) 2 a_Program_add_function ["self", "function"] spNo := T.f_Program_add_function.ok (CX := L2.CX P w) sc_Program_add_function (fun _ _ _ _ h => h.elim) (fun _ _ _ _ _ _ _ _ _ h => h.elim)
theorem ok_check (T : Tx P K mg) : OkF P w K mg base (L2.CX P w) 7 a_Program_check ["self"] spNo := T.f_Program_check.ok (CX := L2.CX P w) sc_Program_check (fun _ _ _ _ h => h.elim) (fun _ _ _ _ _ _ _ _ _ h => h.elim)
def spProg : Sp := fun vs H Q E => ∃ x f e, vs = [.str x] ∧ x.length ≤ 400000 ∧ f ≤ 90000 ∧ prs f x = some (.error e) ∧ XEr K [] H E e
theorem ok_program_of (T : Tx P K mg) : OkF P w K mg base (L2.CX P w) 35 a_program_of ["text"] (spProg (K := K)) := by
  have nd := sc_program_of.nd
  have cl := T.c_Program
  have F_Program___init__ := ok_Program_init (P := P) (w := w) (base := base) T
  have F_Program_add_global := ok_add_global (P := P) (w := w) (base := base) T
  have F_Program_add_function := ok_add_function (P := P) (w := w) (base := base) T
  have F_Program_check := ok_check (P := P) (w := w) (base := base) T
  have F_parse := ok_parse (P := P) (w := w) (base := base) T
  refine T.f_program_of.ok (CX := L2.CX P w) sc_program_of (fun vs H Q E h => ?_) (fun cdv A outer s H vs Q E hr h => ?_)
  · obtain ⟨_, _, _, rfl, _⟩ := h
    rfl
  · obtain ⟨x, f, er, rfl, hx, hf, hres, k⟩ := h
    refine ⟨_, (pss_cons (ps_set (i := 1) nd rfl (Or.inl rfl) (pe_make0 T.mk_Program F_Program___init__ (hr.mono (by decide)) rfl T.g_Program T.b_Program___init__ .nil pass0))
      (pss_cons (ps_for (passes_of rfl) rfl (pi_list (pe_call F_parse (hr.mono (by decide)) rfl T.g_parse T.k_parse T.b_parse .nil (passes_call (takes_of rfl rfl rfl rfl) fun _ _ _ _ h => h) (pa_cons (pv 0) pa_nil))) (pg_name (i := 2) nd rfl (Or.inl rfl)) (pss_one (ps_if (pt_cmpR op_eq (pe_ix ix_tup (pv 2) pe_int (fun _ _ => rfl)) pe_str (nomark _)) (pss_one (ps_expr (pe_meth (pv 1) T.c_Program T.m_Program_add_global F_Program_add_global (hr.mono (by decide)) T.b_Program_add_global .nil (passes_call (takes_of rfl rfl rfl rfl) fun _ _ _ _ h => h) (pa_cons (pe_ix ix_tup (pv 2) pe_int (fun _ _ => rfl)) pa_nil)))) (pss_one (ps_expr (pe_meth (pv 1) T.c_Program T.m_Program_add_function F_Program_add_function (hr.mono (by decide)) T.b_Program_add_function .nil (passes_call (takes_of rfl rfl rfl rfl) fun _ _ _ _ h => h) (pa_cons (pe_ix ix_tup (pv 2) pe_int (fun _ _ => rfl)) pa_nil)))))))
      (pss_cons (ps_expr (pe_meth0 (pv 1) T.c_Program T.m_Program_check F_Program_check (hr.mono (by decide)) T.b_Program_check .nil (passes_call (takes_of rfl rfl rfl rfl) fun _ _ _ _ h => h)))
      (pss_one (ps_ret (pv 1)))))), ?_⟩
    walk_at "rd"
    intro r dx hr0 hd0 hne
    have k0 : Kp [] H (upd (upd H dx (.own r)) r (.ins (ga K "Program") dx [])) := (Kp.new hd0).trans (Kp.new (by rw [upd_ne (Ne.symm hne)]; exact hr0))
    refine ⟨r, dx, rfl, upd_same, ?_⟩
    generalize upd (upd H dx (.own r)) r (.ins (ga K "Program") dx []) = H0 at k0
    intro H1 k1
    replace k1 : Kp [] H H1 := Kp.own k0 hr0 k1
    walk_at "rd"
    refine ⟨x, f, _, rfl, hx, hf, hres, ?_⟩
    exact XEr.back k k1
end
end K14


set_option Elab.async false
set_option linter.all false
set_option maxRecDepth 100000
set_option maxHeartbeats 4000000
/-! own rules: several clauses 'except X as n', a call of a parameter that may raise, str * int -/
namespace Tm
open PySem PySem.Spec PyProof.Rows L2
/-- a clause: its class, the slot of its name, what its suite asks -/
structure Cl where
  c : Value
  i : Nat
  ts : Addr → Value → Option Addr → TS
/-- at the end of a suite slot i is empty -/
def endOf (i : Nat) (D : Ends) : Ends := { nx := fun σ H => D.nx (σ.set i none) H, rt := D.rt, bk := fun σ H => D.bk (σ.set i none) H, ct := fun σ H => D.ct (σ.set i none) H }
def wCls (K : PySem.W.Frag) (Wout : WX) (D : Ends) : List Cl → WX
  | [] => Wout
  | k :: r => fun cls d σ H => ∃ b, PySem.W.exmOne K cls k.c = some b ∧ (b = true → ∀ a, H a = none → k.ts a cls d (endOf k.i D) (σ.set k.i (some (.ref a))) H) ∧ (b = false → wCls K Wout D r cls d σ H)
inductive ClsOk (X : Cx) : List ExceptHandler → List Cl → Prop
  | nil : ClsOk X [] []
  | cons {x n : Str} {k : Cl} {b₀ : Stmt} {rest : List Stmt} {p1 p2 : Pos} {hds : List ExceptHandler} {l : List Cl} (nm : Names X x k.c) (hi : X.N[k.i]? = some n) (hl : X.env.kindOf n = some .local)
      (su : ∀ (a : Addr) (oe : Obj) (cls : Value) (d : Option Addr) (pn : List (Addr × Obj)), Zc cls d oe → (∃ vs, oe.data = .fields vs) → PSs (X.suite a ((a, oe) :: pn)) (b₀ :: rest) (k.ts a cls d)) (r : ClsOk X hds l) :
      ClsOk X (.ExceptHandler (some (.Name x p1)) (some n) (b₀ :: rest) p2 :: hds) (k :: l)
section
variable {X : Cx} {body : List Stmt} {h₀ : ExceptHandler} {hds : List ExceptHandler} {l : List Cl} {pos : Pos} {tb : WX → TS} {Wout : WX}
theorem ps_tryAs (hs : X.stack = X.env :: X.outer) (hf : X.env.frame = some X.env.locals) (nd : X.N.Nodup) (tk : Takes X Wout)
    (hb : ∀ (W : WX) (pn : List (Addr × Obj)) (xe : Value → Shared → Prop), Takes (X.tr pn xe) W → PassesOwn (model X.prog X.w) X.A X.env xe → PSs (X.tr pn xe) body (tb W))
    (hh : ClsOk X (h₀ :: hds) l) : PS X (.Try body (h₀ :: hds) [] [] pos) (fun D σ H => tb (wCls X.K Wout D l) D σ H) := by
  refine ⟨fun pins s σ H D I h => ?_⟩
  have okX := I.ok
  have frs_ : X.A.frames = some (X.env :: X.outer) := by rw [okX.frames, hs]
  refine wpAny_Try_except (wpAny_mono ((hb (wCls X.K Wout D l) (X.pn ++ pins) (fun e s₁ => wpAny (model X.prog X.w) X.A (noteFrame e X.env) (fun _ s₂ => wpAny (model X.prog X.w) X.A (setFlight e none)
    (fun _ s₃ => wpAny (model X.prog X.w) X.A (handleBy e X.env (h₀ :: hds)) (SP X pins D) X.xe s₃) X.xe s₂) X.xe s₁) (fun u s' xx => ?_) PassesOwn.looking).run [] s σ H D (I.toTry _) h) (fun f s1 hsp => ?_) (fun e s1 he => he))
  · obtain ⟨a, B, sI, pins', σ', H', cls, d, rfl, J', nb, up, sky, na, os, ag, want⟩ := xx
    have J : Inv X pins σ' H' sI := J'.ofTry okX
    have sky2 : Sky B (X.env :: X.outer) a (Zc cls d) X.env.locals s'.heap := by rw [← hs]; exact sky
    show wpAny (model X.prog X.w) X.A (noteFrame (.ref a) X.env) _ _ _
    refine Sky.land Zc.steady frs_ hf sky2 fun hp fly up2 => ?_
    have Jl : Inv X pins σ' H' { s' with heap := hp } := J.landed nb fly.1 (up.trans up2) os ag
    obtain ⟨oe, vs, he, hz, hd⟩ := fly.there
    have off : a ∉ frs (X.env :: X.outer) := fun hm => by
      obtain ⟨_, o', e', hn⟩ := fly.2.2.1.mem hm
      rw [he] at e'
      cases e'
      exact hn _ hd
    have nL : a ≠ X.env.locals := fun z => off (List.mem_filterMap.mpr ⟨X.env, List.mem_cons_self, by rw [hf, z]⟩)
    have nF : a ∉ X.fs := fun hm => by
      obtain ⟨e, he, q⟩ := List.mem_filterMap.mp hm
      exact off (List.mem_filterMap.mpr ⟨e, List.mem_cons_of_mem _ he, q⟩)
    have Js := Jl.suite he hd na nL nF
    -- clause by clause
    have each : ∀ {hs' : List ExceptHandler} {l' : List Cl}, ClsOk X hs' l' → wCls X.K Wout D l' cls d σ' H' → wpAny (model X.prog X.w) X.A (handleBy (.ref a) X.env hs') (SP X pins D) X.xe { s' with heap := hp } := by
      intro hs' l' ok
      induction ok with
      | nil =>
        intro out
        refine wpAny_handleBy_nil ?_
        obtain ⟨_, _, _, _, _, T, _, _, he2, _, hd2, hv, _⟩ := id fly
        unfold PySem.passOn
        refine wpAny_bind (wpAny_field he2 hd2 hv ?_)
        rw [if_neg (show ¬ ((Value.ref T == Value.none) = true) from by simp)]
        have last : wpAny (model X.prog X.w) X.A (setFlight (.ref a) X.env.frame) (fun _ s4 => wpAny (model X.prog X.w) X.A (throw (.ref a) : Sem Flow) (SP X pins D) X.xe s4) X.xe { s' with heap := hp } := by
          rw [hf]
          exact HandSPX.setFlight_upZ fly fun h4 hh4 up4 => wpAny_throw (tk _ _ ⟨a, B, sI, pins, σ', H', cls, d, rfl, J, nb, (up.trans up2).trans up4, .inr (.inr (by rw [hs]; exact hh4)), na, os, ag, out⟩)
        first
          | exact wpAny_bind (wpAny_pure (wpAny_bind last))
          | exact wpAny_bind last
      | @cons x n k b₀ rest p1 p2 hs2 l2 nm hi hl su r ih =>
        intro w
        obtain ⟨b, hb1, yes, no⟩ := w
        refine wpAny_handleBy_cons (codeAny_handlers_test ?_) (by intro q; cases q)
        have T1 : PySem.W.Looks (model X.prog X.w) hp (typeOf (.ref a)) cls := fun A Q E s k q => wpAny_typeOf_ref (k _ _ he) (by rw [hz.1]; exact q)
        have T2 := PySem.W.exm_one (M := model X.prog X.w) (Jl.kIn) T1 hb1
        have look : ∀ {Q : Value → Shared → Prop} {E : Value → Shared → Prop}, Q k.c { s' with heap := hp } → wpAny (model X.prog X.w) (X.A.mark (some (.ref a))) (eval (.Name x p1) X.env) Q E { s' with heap := hp } := fun {Q E} q => by
          obtain ⟨hg, hdbg, hm | ⟨hm, hv, hnn⟩⟩ := nm
          · exact ld_glob (X := X.suite a ((a, oe) :: (X.pn ++ pins))) Js hg hm q hdbg
          · exact ld_blt (X := X.suite a ((a, oe) :: (X.pn ++ pins))) Js hg hm hv q hnn hdbg
        refine look (T2.here ?_)
        cases b with
        | false => exact ih (no rfl)
        | true =>
          refine codeAny_handlers_suite_as (HandSPX.lands_againZ fly fun h4 fl4 up4 => ?_)
          have J4 : Inv X pins σ' H' { s' with heap := h4 } := J.landed nb fl4.1 ((up.trans up2).trans up4) os ag
          obtain ⟨oe4, vs4, he4, hz4, hd4⟩ := fl4.there
          have S4 := J4.suite he4 hd4 na nL nF
          refine store_ok (X := X.suite a ((a, oe4) :: (X.pn ++ pins))) (v := .ref a) S4 nd hi (.inl hl) rfl (fun s5 S5 => ?_) (.inr hl)
          refine wpAny_mono ((su a oe4 cls d (X.pn ++ pins) hz4 ⟨_, hd4⟩).run [] s5 _ H' _ S5 (yes rfl a na)) (fun f s6 hsp => ?_) (fun _ _ z => False.elim z)
          have away : ∀ {σ6 : L2.St} {H6 : Hp} {Q : Shared → Prop}, Inv (X.suite a ((a, oe4) :: (X.pn ++ pins))) [] σ6 H6 s6 → (∀ s7, Inv X pins (σ6.set k.i none) H6 s7 → Q s7) →
              wpAny (model X.prog X.w) X.A (do bindName X.env n .none; unbindBehindTheSuite X.env n p2) (fun _ s7 => Q s7) X.xe s6 := fun {σ6 H6 Q} S6 hq => gone_ok (S6.unsuite okX) nd hi hl hq
          cases f with
          | ret u =>
            obtain ⟨v6, σ6, H6, S6, r6, q6⟩ := hsp
            exact away S6 fun s7 J7 => ⟨_, _, _, J7, r6, q6⟩
          | next =>
            obtain ⟨σ6, H6, S6, q6⟩ := hsp
            exact away S6 fun s7 J7 => ⟨_, _, J7, q6⟩
          | brk =>
            obtain ⟨σ6, H6, S6, q6⟩ := hsp
            exact away S6 fun s7 J7 => ⟨_, _, J7, q6⟩
          | cont =>
            obtain ⟨σ6, H6, S6, q6⟩ := hsp
            exact away S6 fun s7 J7 => ⟨_, _, J7, q6⟩
    exact each hh want
  · cases f with
    | ret u =>
      obtain ⟨v, σ', H', J', r, q⟩ := hsp
      exact ⟨v, σ', H', J'.ofTry okX, r, q⟩
    | next =>
      obtain ⟨σ', H', J', q⟩ := hsp
      exact wpAny_execs_nil ⟨σ', H', J'.ofTry okX, q⟩
    | brk =>
      obtain ⟨σ', H', J', q⟩ := hsp
      exact ⟨σ', H', J'.ofTry okX, q⟩
    | cont =>
      obtain ⟨σ', H', J', q⟩ := hsp
      exact ⟨σ', H', J'.ofTry okX, q⟩
end
theorem ps_tryAs2 {X : Cx} {x y m n : Str} {c e : Value} {i j : Nat} {body r1 r2 : List Stmt} {b1 b2 : Stmt} {q1 q2 q3 q4 pos : Pos} {tb : WX → TS} {t1 t2 : Addr → Value → Option Addr → TS} {Wout : WX} (hs : X.stack = X.env :: X.outer) (hf : X.env.frame = some X.env.locals) (nd : X.N.Nodup)
    (n1 : Names X x c) (hi1 : X.N[i]? = some m) (hl1 : X.env.kindOf m = some .local) (n2 : Names X y e) (hi2 : X.N[j]? = some n) (hl2 : X.env.kindOf n = some .local) (tk : Takes X Wout)
    (hb : ∀ (W : WX) (pn : List (Addr × Obj)) (xe : Value → Shared → Prop), Takes (X.tr pn xe) W → PassesOwn (model X.prog X.w) X.A X.env xe → PSs (X.tr pn xe) body (tb W))
    (s1 : ∀ (a : Addr) (oe : Obj) (cls : Value) (d : Option Addr) (pn : List (Addr × Obj)), Zc cls d oe → (∃ vs, oe.data = .fields vs) → PSs (X.suite a ((a, oe) :: pn)) (b1 :: r1) (t1 a cls d))
    (s2 : ∀ (a : Addr) (oe : Obj) (cls : Value) (d : Option Addr) (pn : List (Addr × Obj)), Zc cls d oe → (∃ vs, oe.data = .fields vs) → PSs (X.suite a ((a, oe) :: pn)) (b2 :: r2) (t2 a cls d)) :
    PS X (.Try body [.ExceptHandler (some (.Name x q1)) (some m) (b1 :: r1) q2, .ExceptHandler (some (.Name y q3)) (some n) (b2 :: r2) q4] [] [] pos) (fun D σ H => tb (wCls X.K Wout D [⟨c, i, t1⟩, ⟨e, j, t2⟩]) D σ H) :=
  ps_tryAs hs hf nd tk hb (.cons n1 hi1 hl1 s1 (.cons n2 hi2 hl2 s2 .nil))
/-! ### a call of a local name that holds one of several defs, which may raise -/
section
variable {X : Cx} {CX : CXT} {n i : Nat} {S : Addr → Sp → Prop} {E : L2.St → XK} {x : Str} {p pos : Pos} {e : Expr} {es : List Expr} {t : TA}
def tCallV (i : Nat) (S : Addr → Sp → Prop) (E : L2.St → XK) (t : TA) : TE := fun σ H Q => ∃ f sp, σ[i]? = some (some (.ref f)) ∧ S f sp ∧ t σ H fun vs H1 => sp vs H1 Q (E σ)
theorem pe_callV (F : ∀ f sp, S f sp → ∃ (fd : FuncData) (ps : List Str), FnOk X.prog X.w X.K X.mg X.base CX n f fd ps sp ∧ PySem.W.keepIn X.K (.ref f) = true ∧ Binds X.K fd ps []) (hr : Room n X.A) (hN : X.N[i]? = some x) (hv : Vis X.env.scope x)
    (hx : ∀ σ, PassesAt CX X σ (E σ)) (ha : PA X (e :: es) t) (hdb : (x == ("__debug__" : Str)) = false := by decide) (hcd : (x == ("__classdict__" : Str)) = false := by decide)
    (he : starEach (e :: es) X.env = (false, eval e X.env) :: starEach es X.env := by rfl) (hpl : (backTo pos (starEach es X.env)).any (·.1) = false := by rfl) : PE X (.Call (.Name x p) (e :: es) [] pos) (tCallV i S E t) := by
  refine ⟨fun pins s σ H Q I h => ?_⟩
  obtain ⟨f, sp, hs, hS, ht⟩ := h
  obtain ⟨fd, ps, Fn, hk, hb⟩ := F f sp hS
  refine wpAny_Call_Name_kw (thn ((pe_var (pos := p) hN hv hdb hcd).run pins s σ H (fun v H1 => v = .ref f ∧ H1 = H) I ⟨.ref f, hs, rfl, rfl⟩) fun u s1 ⟨v, H1, I1, r1, q1⟩ => ?_)
  obtain ⟨rfl, rfl⟩ := q1
  cases r1
  refine PySem.W.callWith_K (h₀ := X.base) I.ok.mod.kin hk (thn (ha.run pos pins s1 σ _ _ I1 ht) fun us s2 ⟨vs, H2, I2, r, q⟩ => ⟨I2.kIn, ?_⟩) he hpl
  exact run_fnS Fn hr hb (hx σ) I2 r q
end
/-! ### str * int -/
def rep (x : Str) (n : Nat) : Str := ⟨(List.replicate n x.cps).foldl (· ++ ·) #[]⟩
theorem fold_rep (x : Array Nat) : ∀ (n : Nat) (a : Array Nat), ((List.replicate n x).foldl (· ++ ·) a).toList = a.toList ++ (List.replicate n x.toList).flatten
  | 0, a => by simp
  | n + 1, a => by
    rw [List.replicate_succ, List.foldl_cons, fold_rep x n, List.replicate_succ, List.flatten_cons, Array.toList_append, List.append_assoc]
theorem rep_list (x : Str) (n : Nat) : (rep x n).cps.toList = (List.replicate n x.cps.toList).flatten := by
  show ((List.replicate n x.cps).foldl (· ++ ·) #[]).toList = _
  rw [fold_rep]
  rfl
theorem rep_len (x : Str) (n : Nat) : (rep x n).length = n * x.length := by
  have h : (rep x n).length = (rep x n).cps.toList.length := rfl
  rw [h, rep_list, List.length_flatten, List.map_replicate, List.sum_replicate_nat]
  rfl
variable {X : Cx}
theorem op_mulS : OpR X (binaryOp .Mult) (fun x y H Q => ∃ (z : Str) (k : Int) (n : Nat), x = .str z ∧ y = .int k ∧ k = (n : Int) ∧ 2 ≤ n ∧ 1 ≤ z.length ∧ z.length ≤ 1000 ∧ n ≤ 10000 ∧ Q (.str (rep z n)) H) := by
  intro pins s σ H x y v u Q I rx ry h
  obtain ⟨z, k, n, rfl, rfl, rfl, h2, h1, hz, hn, q⟩ := h
  obtain ⟨t, rfl⟩ := rx
  obtain ⟨t', rfl⟩ := ry
  have e1 : ((n : Int) == 1 || z.length == 0) = false := by
    rw [Bool.or_eq_false_iff]
    exact ⟨beq_eq_false_iff_ne.mpr (by omega), beq_eq_false_iff_ne.mpr (by omega)⟩
  refine P.mul_str ?_ (fun _ _ => ?_) (fun _ _ => ?_) ?_
  · rw [decide_eq_false (by omega), decide_eq_false (by omega)]
    rfl
  · intro c
    have := Int.ediv_mul_le (2 ^ 63 - 1) (show (n : Int) ≠ 0 by omega)
    have h3 : ((2 : Int) ^ 63 - 1) / (n : Int) < 1000 := by omega
    have h4 := Int.lt_ediv_add_one_mul_self (2 ^ 63 - 1) (show (0 : Int) < (n : Int) by omega)
    have h5 : ((2 : Int) ^ 63 - 1) / (n : Int) + 1 ≤ 1000 := by omega
    have h6 : (((2 : Int) ^ 63 - 1) / (n : Int) + 1) * (n : Int) ≤ 1000 * 10000 := by
      refine Int.le_trans (Int.mul_le_mul_of_nonneg_right h5 (by omega)) ?_
      omega
    omega
  · unfold Builtin.Str.tooLong
    have hm := Nat.mul_le_mul hz hn
    rw [Int.toNat_natCast]
    exact decide_eq_false (by rw [sizeLine_eq] <;> omega)
  · rw [if_neg (by omega), e1, if_neg (by decide), Int.toNat_natCast]
    refine ⟨?_, ?_⟩
    · have hm := Nat.mul_le_mul hz hn
      have e2 := rep_len z n
      have hm2 := Nat.mul_comm n z.length
      show (rep z n).length ≤ sizeLine
      rw [e2, hm2, sizeLine_eq]
      omega
    · exact ⟨.str (rep z n), H, I.tok _, ⟨_, rfl⟩, q⟩
end Tm


set_option Elab.async false
set_option linter.all false
set_option maxRecDepth 100000
set_option maxHeartbeats 4000000
namespace K14
open PySem PySem.Spec PyProof.Rows L2 He Hz Cm Lx Px
local macro_rules | `(tactic| walk_at "rd") => `(tactic| repeat (first | (refine ⟨_, rfl, ?_⟩) | (refine ⟨_, _, rfl, rfl, ?_⟩) | (refine ⟨rfl, ?_⟩) | (refine ⟨szl (by omega), ?_⟩) | (refine ⟨_, _, _, _, _, rfl, (by assumption), (by assumption), (by assumption), (by rfl), ?_⟩) | (refine ⟨_, _, rfl, Or.inl (by assumption), ?_⟩)))
local macro_rules | `(tactic| walk_at "dp") => `(tactic| (repeat' (first | exact DpAll.nil | apply DpAll.cons | exact Dp.str _ | exact Dp.int _ | exact Dp.non | exact Dp.bl _ | assumption)))
local macro_rules | `(tactic| walk_at "dr") => `(tactic| repeat (first | (refine ⟨_, rfl, ?_⟩) | (refine ⟨_, _, rfl, rfl, ?_⟩) | (refine ⟨rfl, ?_⟩) | (refine .inl ⟨_, rfl, ?_⟩) | (refine ⟨.inr ⟨by decide, by decide⟩, ?_⟩) | (refine ⟨(by decide : (0 : Int) < 2305843009213693951), ?_⟩) | (refine ⟨(show CDiv _ 1000003 from ⟨by decide, by decide⟩), ?_⟩) |
  (refine ⟨_, _, _, _, rfl, rfl, SqL.of (by assumption), atI_nat (j := 0) rfl, ?_⟩) | (refine ⟨_, _, _, _, rfl, rfl, SqL.of (by assumption), atI_nat (j := 1) rfl, ?_⟩) | (refine ⟨_, _, _, _, rfl, rfl, SqL.of (by assumption), atI_nat (j := 2) rfl, ?_⟩)))
section
variable {P : Program} {w : World} {K : PySem.W.Frag} {mg : Str → Option Value} {base : Heap} {H H1 H' : Hp} {Q : VK} {E : XK}
def spWide : Sp := fun vs H Q _ => ∃ (sc : Addr) (ns : List Int) (k : Nat), vs = [.ref sc, .int (k : Nat)] ∧ SqL K H sc (ns.map V.int) ∧ ∀ t : Int, Q (.int t) H
theorem ok_law_wide (T : Tx P K mg) : OkF P w K mg base CX0 1 a__law_wide ["script", "k"] (spWide (K := K)) := by
  have nd := sc__law_wide.nd
  refine T.f__law_wide.ok (CX := CX0) sc__law_wide (fun vs H Q E h => ?_) (fun cdv A outer s H vs Q E hr h => ?_)
  · obtain ⟨_, _, _, rfl, _⟩ := h
    rfl
  · obtain ⟨sc, ns, k, rfl, hs, kq⟩ := h
    refine ⟨_, PSs.nox (pss_cons (ps_set (i := 2) nd rfl (Or.inl rfl) pe_int)
      (pss_cons (ps_if (pt_cmpR op_lt (pv 1) (pe_callB call_len_seq (by rfl) T.n_len PySem.boot_len (pa_cons (pv 0) pa_nil)) (nomark _)) (pss_one (ps_set (i := 2) nd rfl (Or.inl rfl) (pe_callB call_abs (by rfl) T.n_abs (by decide +kernel) (pa_cons (pe_ix ix_list (pv 0) (pv 1) (fun _ _ => rfl)) pa_nil)))) pss_nil)
      (pss_cons (ps_if (pt_cmpR op_ge (pv 2) pe_int (nomark _)) (pss_one (ps_ret (pv 2))) pss_nil)
      (pss_cons (ps_set (i := 3) nd rfl (Or.inl rfl) (pe_op op_mod (pe_callTy call_int1 (by rfl) T.n_int (by decide +kernel) (pa_cons (pe_op op_add (pe_op op_mul (pe_op op_add (pv 2) pe_int) pe_int) (pe_op op_mul (pe_op op_add (pv 1) pe_int) pe_int)) pa_nil)) pe_int))
      (pss_one (ps_ret (pe_op op_mod (pe_callTy call_int1 (by rfl) T.n_int (by decide +kernel) (pa_cons (pe_op op_add (pe_op op_mul (pv 3) pe_int) (pe_op op_fdiv (pv 3) pe_int)) pa_nil)) pe_int))))))), ?_⟩
    walk_at "dr"
    refine ⟨_, _, rfl, .inl hs, ?_⟩
    walk_at "dr"
    rw [List.length_map]
    refine iteB (fun hlt => ?_) (fun hlt => ?_)
    · have hal : k < ns.length := by
        have := of_decide_eq_true hlt
        omega
      have hcell : atI (ns.map V.int) (k : Int) = some (.int ns[k]) := atI_nat (by rw [List.getElem?_map, List.getElem?_eq_getElem hal]; rfl)
      walk_at "dr"
      refine ⟨_, _, _, _, rfl, rfl, hs, hcell, ?_⟩
      generalize ns[k] = cell
      walk_at "dr"
      refine iteB (fun hc => ?_) (fun hc => ?_)
      · walk_at "dr"
        exact kq _
      · walk_at "dr"
        exact kq _
    · walk_at "dr"
      exact kq _
/-- the pool -/
def PoolAt (K : PySem.W.Frag) (H : Hp) (st sc : Addr) : Prop := ∃ (ns : List Int) (a c : Int), H st = some (.lst [.int a, .ref sc, .int c]) ∧ (∀ H', Kp [st] H H' → SqL K H' sc (ns.map V.int)) ∧ -1 ≤ c
theorem PoolAt.old {st sc D : Addr} (h : PoolAt K H st sc) (n : H D = none) : D ≠ st := fun z => by
  obtain ⟨ns, a, c, h1, _⟩ := h
  rw [z, h1] at n
  cases n
theorem PoolAt.mine {st sc D : Addr} {o : HO} (hH : PoolAt K H st sc) (n : H D = none) (k : Kp [st] H H') (h : PoolAt K H' st sc) : PoolAt K (upd H' D o) st sc := by
  have nd := hH.old n
  obtain ⟨ns, _, _, _, h2, _⟩ := hH
  obtain ⟨_, a, c, h1, _, h4⟩ := h
  exact ⟨ns, a, c, (upd_ne nd.symm).trans h1, fun H2 k2 => h2 _ ((k.mine n).trans k2), h4⟩
theorem PoolAt.kp {st sc : Addr} (h : PoolAt K H st sc) (k : Kp [] H H') : PoolAt K H' st sc := by
  obtain ⟨ns, a, c, h1, h2, h4⟩ := h
  exact ⟨ns, a, c, k.keep _ _ (by simp) h1, fun H2 k2 => h2 _ (k.nil.trans k2), h4⟩
def spTk : Sp := fun vs H Q _ => ∃ st sc m, vs = [.ref st, .int (m : Nat)] ∧ 1 ≤ m ∧ m ≤ 100000 ∧ PoolAt K H st sc ∧ ∀ t, t < m → ∀ H', Kp [st] H H' → PoolAt K H' st sc → Q (.int (t : Nat)) H'
theorem ok_law_take (T : Tx P K mg) : OkF P w K mg base CX0 2 a__law_take ["pool", "most"] (spTk (K := K)) := by
  have nd := sc__law_take.nd
  have F__law_wide := ok_law_wide (P := P) (w := w) (base := base) T
  refine T.f__law_take.ok (CX := CX0) sc__law_take (fun vs H Q E h => ?_) (fun cdv A outer s H vs Q E hr h => ?_)
  · obtain ⟨_, _, _, rfl, _⟩ := h
    rfl
  · obtain ⟨st, sc, m, rfl, hm, hm2, ⟨ns, a, c, hS0, h2, h4⟩, k⟩ := h
    have kS0 : Kp [st] H H := Kp.refl
    refine ⟨_, PSs.nox (pss_cons (ps_if (pt_cmpR op_lt (pe_ix ix_list (pv 0) pe_int (fun _ _ => rfl)) pe_int (nomark _)) (pss_cons (ps_asg (pe_op op_add (pe_ix ix_list (pv 0) pe_int (fun _ _ => rfl)) pe_int) (pg_sub (pv 0) pe_int set_list))
      (pss_one (ps_asg (pe_call F__law_wide (hr.mono (by decide)) rfl T.g__law_wide T.k__law_wide T.b__law_wide .nil pass0 (pa_cons (pe_ix ix_list (pv 0) pe_int (fun _ _ => rfl)) (pa_cons (pe_ix ix_list (pv 0) pe_int (fun _ _ => rfl)) pa_nil))) (pg_sub (pv 0) pe_int set_list)))) pss_nil)
      (pss_cons (ps_set (i := 2) nd rfl (Or.inl rfl) (pe_op op_mod (pe_callTy call_int1 (by rfl) T.n_int (by decide +kernel) (pa_cons (pe_ix ix_list (pv 0) pe_int (fun _ _ => rfl)) pa_nil)) (pv 1)))
      (pss_cons (ps_asg (pe_op op_fdiv (pe_ix ix_list (pv 0) pe_int (fun _ _ => rfl)) (pv 1)) (pg_sub (pv 0) pe_int set_list))
      (pss_one (ps_ret (pv 2)))))), ?_⟩
    have last : ∀ (Hn : Hp) (a c : Int), Kp [st] H Hn → Hn st = some (.lst [.int a, .ref sc, .int c]) → -1 ≤ c → Q (.int (a % (m : Int))) (upd Hn st (.lst [.int (a / (m : Int)), .ref sc, .int c])) := fun Hn a c k1 h1 hc => by
      have e1 : (a % ((m : Nat) : Int)) = ((a % ((m : Nat) : Int)).toNat : Int) := (Int.toNat_of_nonneg (Int.emod_nonneg _ (by omega))).symm
      rw [e1]
      have kk : Kp [st] H (upd Hn st (.lst [.int (a / (m : Int)), .ref sc, .int c])) := k1.trans (Kp.put h1 nt_lst (by simp))
      refine k _ ?_ _ kk ⟨ns, _, c, upd_same, fun H2 k2 => h2 _ (kk.trans k2), hc⟩
      have z := Int.emod_lt_of_pos a (show (0 : Int) < ((m : Nat) : Int) by omega)
      omega
    walk_at "dr"
    refine iteB (fun h => ?_) (fun h => ?_)
    · walk_at "dr"
      refine ⟨_, _, _, 2, rfl, rfl, hS0, rfl, ?_⟩
      have kS1 : Kp [st] H (upd H st (.lst [.int a, .ref sc, .int (c + 1)])) := kS0.trans (Kp.put hS0 nt_lst (by simp))
      have hS1 : (upd H st (.lst [.int a, .ref sc, .int (c + 1)])) st = some (.lst [.int a, .ref sc, .int (c + 1)]) := upd_same
      clear hS0
      walk_at "dr"
      obtain ⟨cn, hcn⟩ : ∃ n : Nat, c + 1 = n := ⟨(c + 1).toNat, (Int.toNat_of_nonneg (by omega)).symm⟩
      refine ⟨sc, ns, cn, by rw [hcn] <;> rfl, h2 _ kS1, fun t => ?_⟩
      walk_at "dr"
      refine ⟨_, _, _, 0, rfl, rfl, hS1, rfl, ?_⟩
      have kS2 : Kp [st] H (upd (upd H st (.lst [.int a, .ref sc, .int (c + 1)])) st (.lst [.int t, .ref sc, .int (c + 1)])) := kS1.trans (Kp.put hS1 nt_lst (by simp))
      have hS2 : (upd (upd H st (.lst [.int a, .ref sc, .int (c + 1)])) st (.lst [.int t, .ref sc, .int (c + 1)])) st = some (.lst [.int t, .ref sc, .int (c + 1)]) := upd_same
      clear hS1
      walk_at "dr"
      refine ⟨show (0 : Int) < (m : Nat) by omega, ?_⟩
      walk_at "dr"
      refine ⟨show CDiv _ (m : Nat) from ⟨by omega, by omega⟩, ?_⟩
      walk_at "dr"
      refine ⟨_, _, _, 0, rfl, rfl, hS2, rfl, ?_⟩
      walk_at "dr"
      exact last _ t (c + 1) kS2 hS2 (by omega)
    · walk_at "dr"
      refine ⟨show (0 : Int) < (m : Nat) by omega, ?_⟩
      walk_at "dr"
      refine ⟨show CDiv _ (m : Nat) from ⟨by omega, by omega⟩, ?_⟩
      walk_at "dr"
      refine ⟨_, _, _, 0, rfl, rfl, hS0, rfl, ?_⟩
      walk_at "dr"
      exact last _ a c kS0 hS0 h4
def oddL : Str := "\t!\"#$&'*/:<>?@ABMZ[\\]^_`|~"
theorem odd_len : oddL.length = 26 := by decide +kernel
def spOdd : Sp := fun vs H Q _ => ∃ st sc, vs = [.ref st] ∧ PoolAt K H st sc ∧ ∀ c : Nat, ∀ H', Kp [st] H H' → PoolAt K H' st sc → Q (.str ⟨#[c]⟩) H'
theorem ok_law_odd (T : Tx P K mg) : OkF P w K mg base CX0 3 a__law_odd ["pool"] (spOdd (K := K)) := by
  have nd := sc__law_odd.nd
  have F__law_take := ok_law_take (P := P) (w := w) (base := base) T
  refine T.f__law_odd.ok (CX := CX0) sc__law_odd (fun vs H Q E h => ?_) (fun cdv A outer s H vs Q E hr h => ?_)
  · obtain ⟨_, _, rfl, _⟩ := h
    rfl
  · obtain ⟨st, sc, rfl, s0, k⟩ := h
    refine ⟨_, PSs.nox (pss_cons (ps_set (i := 1) nd rfl (Or.inl rfl) pe_str)
      (pss_one (ps_ret (pe_ix ix_str (pv 1) (pe_call F__law_take (hr.mono (by decide)) rfl T.g__law_take T.k__law_take T.b__law_take .nil pass0 (pa_cons (pv 0) (pa_cons (pe_callB call_len_str (by rfl) T.n_len PySem.boot_len (pa_cons (pv 1) pa_nil)) pa_nil))) (fun _ _ => rfl))))), ?_⟩
    walk_at "rd"
    refine ⟨szl (show oddL.length ≤ _ by rw [odd_len]; decide), ?_⟩
    walk_at "rd"
    refine ⟨st, sc, 26, (by
      show [V.ref st, V.int ((oddL.length : Nat) : Int)] = _
      rw [odd_len]), by decide, by decide, s0, fun t ht H1 r1 s1 => ?_⟩
    walk_at "rd"
    have hl : t < oddL.cps.toList.length := by
      have : oddL.cps.toList.length = oddL.length := rfl
      rw [this, odd_len]
      exact ht
    refine ⟨oddL, _, _, rfl, rfl, szl (by rw [odd_len]; decide), atI_at hl, ?_⟩
    exact k _ _ r1 s1
end
end K14


set_option Elab.async false
set_option linter.all false
set_option maxRecDepth 100000
set_option maxHeartbeats 4000000
/-! the law's lexer in plain Lean: it is the program's -/
namespace Ly
open PySem Lx
def sg1 : List Str := ["=", "+", "-", ".", ",", ";", "(", ")", "{", "}"]
def ch (c : Nat) : Str := ⟨#[c]⟩
def dLen (r : List Nat) : Nat := (r.takeWhile isDig).length
def dOf (r : List Nat) : Str := ⟨(r.takeWhile isDig).toArray⟩
def nextW : List Nat → Bool
  | x :: _ => inW x
  | [] => false
def numS (n : Nat) : Str := Str.ofString (toString ((n : Nat) : Int))
def lTok (r : List Nat) (n : Nat) : Option (Tk × Nat) := match r with
  | [] => none
  | c :: _ => if isLet c = true then (if wordOf r ∈ reserved then some (⟨"reserved", .str (wordOf r), n⟩, wLen r) else if wLen r ≤ 10 then some (⟨"name", .str (wordOf r), n⟩, wLen r) else none)
    else if isDig c = true then (if nextW (r.drop (dLen r)) = true ∨ 5 < dLen r then none else
      if decs (r.takeWhile isDig) ≤ 65535 ∧ numS (decs (r.takeWhile isDig)) = dOf r then some (⟨"number", .int (decs (r.takeWhile isDig) : Nat), n⟩, dLen r) else none)
    else if r.take 2 = [61, 61] then some (⟨"sign", .str "==", n⟩, 2) else if ch c ∈ sg1 then some (⟨"sign", .str (ch c), n⟩, 1) else none
theorem lTok_let {c n : Nat} {r : List Nat} (h : isLet c = true) : lTok (c :: r) n = if wordOf (c :: r) ∈ reserved then some (⟨"reserved", .str (wordOf (c :: r)), n⟩, wLen (c :: r)) else if wLen (c :: r) ≤ 10 then some (⟨"name", .str (wordOf (c :: r)), n⟩, wLen (c :: r)) else none := by
  unfold lTok
  dsimp only
  rw [if_pos h]
theorem lTok_dig {c n : Nat} {r : List Nat} (h : isLet c = false) (hd : isDig c = true) : lTok (c :: r) n = if nextW ((c :: r).drop (dLen (c :: r))) = true ∨ 5 < dLen (c :: r) then none else
      if decs ((c :: r).takeWhile isDig) ≤ 65535 ∧ numS (decs ((c :: r).takeWhile isDig)) = dOf (c :: r) then some (⟨"number", .int (decs ((c :: r).takeWhile isDig) : Nat), n⟩, dLen (c :: r)) else none := by
  unfold lTok
  dsimp only
  rw [if_neg (by rw [h]; decide), if_pos hd]
theorem lTok_sgn {c n : Nat} {r : List Nat} (h : isLet c = false) (hd : isDig c = false) : lTok (c :: r) n = if (c :: r).take 2 = [61, 61] then some (⟨"sign", .str "==", n⟩, 2) else if ch c ∈ sg1 then some (⟨"sign", .str (ch c), n⟩, 1) else none := by
  unfold lTok
  dsimp only
  rw [if_neg (by rw [h]; decide), if_neg (by rw [hd]; decide)]
theorem dig_in {c : Nat} (h : isDig c = true) : inW c = true := by
  unfold inW
  rw [h]
  simp
theorem same_word : ∀ r : List Nat, nextW (r.drop (dLen r)) = false → r.takeWhile inW = r.takeWhile isDig
  | [], _ => rfl
  | c :: r, h => by
    by_cases hc : isDig c = true
    · unfold dLen at h
      rw [List.takeWhile_cons, if_pos hc, List.length_cons, List.drop_succ_cons] at h
      rw [List.takeWhile_cons, if_pos (dig_in hc), List.takeWhile_cons, if_pos hc, same_word r h]
    · unfold dLen at h
      rw [List.takeWhile_cons, if_neg hc] at h
      have h2 : inW c = false := h
      rw [List.takeWhile_cons, if_neg (by rw [h2]; decide), List.takeWhile_cons, if_neg hc]
theorem bad_word : ∀ r : List Nat, nextW (r.drop (dLen r)) = true → (r.takeWhile inW).all isDig = false
  | [], h => by cases h
  | c :: r, h => by
    by_cases hc : isDig c = true
    · unfold dLen at h
      rw [List.takeWhile_cons, if_pos hc, List.length_cons, List.drop_succ_cons] at h
      rw [List.takeWhile_cons, if_pos (dig_in hc), List.all_cons, hc, bad_word r h]
      rfl
    · unfold dLen at h
      rw [List.takeWhile_cons, if_neg hc] at h
      have h2 : inW c = true := h
      rw [List.takeWhile_cons, if_pos h2, List.all_cons, Bool.eq_false_iff.mpr hc]
      rfl
theorem all_tw (p : Nat → Bool) : ∀ r : List Nat, ∀ c ∈ r.takeWhile p, p c = true
  | [], _, h => by cases h
  | c :: r, x, h => by
    rw [List.takeWhile_cons] at h
    split at h
    · rename_i hc
      rcases List.mem_cons.mp h with rfl | h
      · exact hc
      · exact all_tw p r x h
    · cases h
theorem ofNat_back : ∀ c : Nat, 48 ≤ c → c ≤ 57 → (Char.ofNat c).toNat = c := by
  intro c h1 h2
  have : ∀ d : Nat, d < 10 → (Char.ofNat (48 + d)).toNat = 48 + d := by decide
  have h := this (c - 48) (by omega)
  rwa [show 48 + (c - 48) = c by omega] at h
theorem map_back : ∀ l : List Nat, NumText.AllDigits l → (l.map Char.ofNat).map Char.toNat = l
  | [], _ => rfl
  | c :: l, h => by
    rw [List.map_cons, List.map_cons, ofNat_back c h.head.1 h.head.2, map_back l h.tail]
theorem numS_list (m : Nat) : (numS m).cps.toList = (Nat.toDigits 10 m).map Char.toNat := PySem.W.KIN.signs_num m
/-- a numeral without needless 0 is what str tells of its number -/
theorem num_text {D : List Nat} (hd : NumText.AllDigits D) (hne : D ≠ []) : numS (decs D) = ⟨D.toArray⟩ ↔ ¬ (D.head? = some 48 ∧ 1 < D.length) := by
  have e0 : decs D = NumText.digitsVal D := rfl
  constructor
  · rintro h ⟨h1, h2⟩
    have e := congrArg (fun s : Str => s.cps.toList.length) h
    dsimp only at e
    rw [numS_list, e0, NumText.toDigits_all D hd, List.length_map] at e
    match D, hne, h1, h2, e with
    | c :: r, _, h1, h2, e =>
      have hc : c = 48 := Option.some.inj h1
      subst hc
      rw [List.dropWhile_cons, if_pos (by decide)] at e
      have hl := (List.dropWhile_suffix (fun x : Nat => x == 48) (l := r)).length_le
      rw [List.length_cons] at h2
      generalize r.dropWhile (fun x => x == 48) = z at e hl
      cases z with
      | nil =>
        have e' : 1 = r.length + 1 := e
        omega
      | cons a z =>
        rw [List.length_map] at e
        have e' : (a :: z).length = r.length + 1 := e
        omega
  · intro h
    have e : (numS (decs D)).cps.toList = D := by
      rw [numS_list, e0, NumText.toDigits_digitsVal (D.length - 1) D ?_ hd ?_, map_back D hd]
      · have : 0 < D.length := List.length_pos_iff.mpr hne
        omega
      · match D, hne, h, hd with
        | [c], _, h, _ => exact .inl rfl
        | c :: c2 :: r, _, h, hd =>
          refine .inr ⟨c, c2 :: r, rfl, ?_⟩
          have hc := hd.head.1
          by_cases h48 : c = 48
          · exact absurd ⟨by rw [h48]; rfl, by rw [List.length_cons, List.length_cons]; omega⟩ h
          · omega
    have e2 : (numS (decs D)).cps = D.toArray := Array.toList_inj.mp e
    generalize numS (decs D) = z at e2
    obtain ⟨z⟩ := z
    exact congrArg Str.mk e2
theorem find1 {c : Nat} {r : List Nat} : ∀ L : List Str, (∀ s ∈ L, s.length = 1) → (L.find? fun s => (c :: r).take s.length == s.cps.toList) = if ch c ∈ L then some (ch c) else none
  | [], _ => rfl
  | s :: L, h => by
    have hs := h s List.mem_cons_self
    have e1 : ((c :: r).take s.length == s.cps.toList) = decide (s = ch c) := by
      rw [hs]
      show ([c] == s.cps.toList) = _
      by_cases e : s = ch c
      · subst e
        rw [decide_eq_true rfl]
        exact beq_self_eq_true _
      · rw [decide_eq_false e]
        refine beq_eq_false_iff_ne.mpr fun z => e ?_
        obtain ⟨a⟩ := s
        have z2 : a = #[c] := Array.toList_inj.mp z.symm
        rw [z2]
        rfl
    rw [List.find?_cons, e1]
    by_cases e : s = ch c
    · rw [decide_eq_true e, if_pos (by rw [e]; exact List.mem_cons_self), e]
    · rw [decide_eq_false e, find1 L fun x m => h x (List.mem_cons_of_mem _ m)]
      by_cases m : ch c ∈ L
      · rw [if_pos m, if_pos (List.mem_cons_of_mem _ m)]
      · rw [if_neg m, if_neg (fun z : ch c ∈ s :: L => Or.elim (List.mem_cons.mp z) (fun q => e q.symm) m)]
theorem lTok_eq (r : List Nat) (n : Nat) : lTok r n = tok1 r n := by
  cases r with
  | nil => rfl
  | cons c r =>
    unfold lTok tok1
    dsimp only
    by_cases hl : isLet c = true
    · rw [if_pos hl, if_pos hl]
      unfold tkWord
      by_cases h1 : wordOf (c :: r) ∈ reserved
      · rw [if_pos h1, if_pos h1]
        rfl
      · rw [if_neg h1, if_neg h1]
        by_cases h2 : wLen (c :: r) ≤ 10
        · rw [if_pos h2, if_neg (by omega)]
          rfl
        · rw [if_neg h2, if_pos (by omega)]
          rfl
    · rw [if_neg hl, if_neg hl]
      by_cases hd : isDig c = true
      · rw [if_pos hd, if_pos hd]
        unfold tkNum
        cases hn : nextW ((c :: r).drop (dLen (c :: r))) with
        | true =>
          rw [if_pos (.inl rfl), if_pos (.inr (bad_word _ hn))]
          rfl
        | false =>
          have hw := same_word _ hn
          have hwl : wLen (c :: r) = dLen (c :: r) := by
            unfold wLen dLen
            rw [hw]
          have hall : ((c :: r).takeWhile isDig).all isDig = true := List.all_eq_true.mpr (all_tw isDig _)
          rw [hw, hwl, hall]
          by_cases h5 : 5 < dLen (c :: r)
          · rw [if_pos (.inr h5), if_pos (.inl h5)]
            rfl
          · rw [if_neg (show ¬ (false = true ∨ 5 < dLen (c :: r)) by simp [h5]), if_neg (show ¬ (5 < dLen (c :: r) ∨ true = false) by simp [h5])]
            have hD : NumText.AllDigits ((c :: r).takeWhile isDig) := fun x hx => by
              have z := all_tw isDig _ x hx
              unfold isDig at z
              simpa using z
            have hne : (c :: r).takeWhile isDig ≠ [] := by
              rw [List.takeWhile_cons, if_pos hd]
              simp
            have hhd : ((c :: r).takeWhile isDig).head? = (c :: r).head? := by
              rw [List.takeWhile_cons, if_pos hd]
              rfl
            have ht := num_text hD hne
            rw [hhd] at ht
            by_cases h6 : 65535 < decs ((c :: r).takeWhile isDig)
            · rw [if_neg (fun z => by omega), if_pos (.inl h6)]
              rfl
            · by_cases h7 : (c :: r).head? = some 48 ∧ 1 < dLen (c :: r)
              · rw [if_neg (fun z => (ht.mp z.2) h7), if_pos (.inr h7)]
                rfl
              · rw [if_pos ⟨by omega, ht.mpr h7⟩, if_neg (not_or.mpr ⟨h6, h7⟩)]
                rfl
      · rw [if_neg hd, if_neg hd]
        have es : sgn (c :: r) = if (c :: r).take 2 = [61, 61] then some ("==" : Str) else if ch c ∈ sg1 then some (ch c) else none := by
          unfold sgn
          have e1 : sgns = ("==" : Str) :: sg1 := rfl
          rw [e1, List.find?_cons]
          have e2 : ((c :: r).take ("==" : Str).length == ("==" : Str).cps.toList) = decide ((c :: r).take 2 = [61, 61]) := by
            by_cases q : (c :: r).take 2 = [61, 61]
            · rw [decide_eq_true q]
              exact beq_iff_eq.mpr q
            · rw [decide_eq_false q]
              exact beq_eq_false_iff_ne.mpr q
          rw [e2]
          by_cases q : (c :: r).take 2 = [61, 61]
          · rw [decide_eq_true q, if_pos q]
          · rw [decide_eq_false q, if_neg q]
            exact find1 sg1 (by decide +kernel)
        rw [es]
        by_cases q : (c :: r).take 2 = [61, 61]
        · rw [if_pos q, if_pos q]
          rfl
        · rw [if_neg q, if_neg q]
          by_cases m : ch c ∈ sg1
          · rw [if_pos m, if_pos m]
            rfl
          · rw [if_neg m, if_neg m]
            rfl
end Ly


set_option Elab.async false
set_option linter.all false
set_option maxRecDepth 100000
set_option maxHeartbeats 4000000
namespace K14
open PySem PySem.Spec PyProof.Rows L2 He Hz Cm Lx Px Ly
local macro_rules | `(tactic| walk_at "rd") => `(tactic| repeat (first | (refine ⟨_, rfl, ?_⟩) | (refine ⟨_, _, rfl, rfl, ?_⟩) | (refine ⟨rfl, ?_⟩) | (refine ⟨szl (by omega), ?_⟩) | (refine ⟨_, _, _, _, _, rfl, (by assumption), (by assumption), (by assumption), (by rfl), ?_⟩) | (refine ⟨_, _, rfl, Or.inl (by assumption), ?_⟩)))
local macro_rules | `(tactic| walk_at "dp") => `(tactic| (repeat' (first | exact DpAll.nil | apply DpAll.cons | exact Dp.str _ | exact Dp.int _ | exact Dp.non | exact Dp.bl _ | assumption)))
/-! ### the pieces -/
theorem log_small {t : Nat} (h : t ≤ 200000) : ((t : Int)).natAbs.log2 < 1920 := soInt (H := fun _ => none) h
theorem jlen {y : Str} {B : Nat} : ∀ (ps : List Str), (∀ p ∈ ps, p.length ≤ B) → (Txt.join y ps).length ≤ ps.length * (B + y.length) := by
  intro ps h
  rw [TL.join_eq]
  induction ps with
  | nil => exact Nat.zero_le _
  | cons p r ih =>
    cases r with
    | nil =>
      have := h p List.mem_cons_self
      show p.length ≤ 1 * _
      omega
    | cons q r =>
      have h1 := h p List.mem_cons_self
      have h2 := ih fun x hx => h x (List.mem_cons_of_mem _ hx)
      show (p ++ y ++ Str.join y (q :: r)).length ≤ _
      rw [Str.length_append, Str.length_append]
      show _ ≤ ((q :: r).length + 1) * (B + y.length)
      rw [Nat.succ_mul]
      omega
theorem sum_le {B : Nat} : ∀ (ps : List Str), (∀ p ∈ ps, p.length ≤ B) → (ps.map (·.length)).sum ≤ ps.length * B
  | [], _ => Nat.zero_le _
  | p :: r, h => by
    have h1 := h p List.mem_cons_self
    have h2 := sum_le r fun x hx => h x (List.mem_cons_of_mem _ hx)
    rw [List.map_cons, List.sum_cons, List.length_cons, Nat.succ_mul]
    omega
theorem pick_at (L : List Str) {t : Nat} (h : t < L.length) : ∃ x, L[t]? = some x ∧ x ∈ L := ⟨L[t], List.getElem?_eq_getElem h, List.getElem_mem h⟩
theorem rng_lo (n : Nat) : -(2 ^ 62 : Int) ≤ (n : Int) := Int.le_trans (by decide) (Int.natCast_nonneg n)
theorem rng_hi {n : Nat} (h : n ≤ 100000) : (n : Int) < 2 ^ 62 := Int.lt_of_le_of_lt (show (n : Int) ≤ 100000 by omega) (by decide)
def W1 : List Str := ["else", "fn", "global", "if", "new", "nil", "out", "return", "while", "whiles", "ne"]
def W3 : List Str := ["==", "=", "+", "-", ".", ",", ";", "(", ")", "{", "}", "==="]
def W4 : List Str := [" ", "\n", "  "]
theorem num_len {t : Nat} (h : t < 10 ^ 10) : (Str.ofString (toString ((t : Nat) : Int))).length ≤ 10 := by
  have e : (Str.ofString (toString ((t : Nat) : Int))).length = (Nat.toDigits 10 t).length := by
    have := congrArg List.length (PySem.W.KIN.signs_num t)
    rw [List.length_map] at this
    exact this
  rw [e]
  exact digits10_le (by decide) h
section
variable {P : Program} {w : World} {K : PySem.W.Frag} {mg : Str → Option Value} {base : Heap} {H H1 H' : Hp} {Q : VK} {E : XK}
def spPiece : Sp := fun vs H Q _ => ∃ st sc, vs = [.ref st] ∧ PoolAt K H st sc ∧ ∀ x : Str, x.length ≤ 6000 → ∀ H', Kp [st] H H' → PoolAt K H' st sc → Q (.str x) H'
theorem ok_law_piece (T : Tx P K mg) : OkF P w K mg base CX0 4 a__law_piece ["pool"] (spPiece (K := K)) := by
  have nd := sc__law_piece.nd
  have F__law_take := ok_law_take (P := P) (w := w) (base := base) T
  have F__law_odd := ok_law_odd (P := P) (w := w) (base := base) T
  refine T.f__law_piece.ok (CX := CX0) sc__law_piece (fun vs H Q E h => ?_) (fun cdv A outer s H vs Q E hr h => ?_)
  · obtain ⟨_, _, rfl, _⟩ := h
    rfl
  · obtain ⟨st, sc, rfl, s0, k⟩ := h
    have k0 : Kp [st] H H := Kp.refl
    refine ⟨_, PSs.nox (pss_cons (ps_set (i := 1) nd rfl (Or.inl rfl) (pe_call F__law_take (hr.mono (by decide)) rfl T.g__law_take T.k__law_take T.b__law_take .nil pass0 (pa_cons (pv 0) (pa_cons pe_int pa_nil))))
      (pss_cons (ps_if (pt_cmpR op_lt (pv 1) pe_int (nomark _)) (pss_cons (ps_set (i := 2) nd rfl (Or.inl rfl) (pe_op op_add pe_int (pe_call F__law_take (hr.mono (by decide)) rfl T.g__law_take T.k__law_take T.b__law_take .nil pass0 (pa_cons (pv 0) (pa_cons pe_int pa_nil)))))
      (pss_one (ps_ret (pe_op op_add_str (pe_ix ix_str pe_str (pe_call F__law_take (hr.mono (by decide)) rfl T.g__law_take T.k__law_take T.b__law_take .nil pass0 (pa_cons (pv 0) (pa_cons pe_int pa_nil))) (fun _ _ => rfl)) (pe_bm PySem.F.plainAttrs_str PySem.F.slot_str_join PySem.F.type_str_join mt_join pe_str (pa_cons (pe_lc (own := [("k", 3)]) (g := gName 3) (tt := tYes) rfl nd (pi_range1 rfl T.n_range (pa_cons (pe_op op_sub (pv 2) pe_int) pa_nil)) (blkOk_by (N := (["pool", "kind", "size", "k"] : List Str)) (sc := defScope s__law_piece) (by decide +kernel)) (fun _ _ _ _ _ => pg_name (i := 3) nd rfl (Or.inl rfl)) (fun _ _ _ _ _ => pts_nil) (fun _ _ _ _ _ => by exact (pe_ix ix_str pe_str (pe_call F__law_take (hr.mono (by decide)) rfl T.g__law_take T.k__law_take T.b__law_take .nil pass0 (pa_cons (pv 0) (pa_cons pe_int pa_nil))) (fun _ _ => rfl)))) pa_nil)))))) pss_nil)
      (pss_cons (ps_if (pt_cmpR op_lt (pv 1) pe_int (nomark _)) (pss_one (ps_ret (pe_ix ix_list (pe_lst (pa_cons pe_str (pa_cons pe_str (pa_cons pe_str (pa_cons pe_str (pa_cons pe_str (pa_cons pe_str (pa_cons pe_str (pa_cons pe_str (pa_cons pe_str (pa_cons pe_str (pa_cons pe_str pa_nil)))))))))))) (pe_call F__law_take (hr.mono (by decide)) rfl T.g__law_take T.k__law_take T.b__law_take .nil pass0 (pa_cons (pv 0) (pa_cons pe_int pa_nil))) (fun _ _ => rfl)))) pss_nil)
      (pss_cons (ps_if (pt_cmpR op_lt (pv 1) pe_int (nomark _)) (pss_cons (ps_if (pt_cmpR op_eq (pe_call F__law_take (hr.mono (by decide)) rfl T.g__law_take T.k__law_take T.b__law_take .nil pass0 (pa_cons (pv 0) (pa_cons pe_int pa_nil))) pe_int (nomark _)) (pss_one (ps_ret (pe_op Tm.op_mulS pe_str (pe_op op_add pe_int (pe_call F__law_take (hr.mono (by decide)) rfl T.g__law_take T.k__law_take T.b__law_take .nil pass0 (pa_cons (pv 0) (pa_cons pe_int pa_nil))))))) pss_nil)
      (pss_one (ps_ret (pe_ix ix_list (pe_lst (pa_cons pe_str (pa_cons pe_str (pa_cons pe_str (pa_cons pe_str (pa_cons pe_str (pa_cons (pe_callTy call_str_int (by rfl) T.n_str (by decide +kernel) (pa_cons (pe_call F__law_take (hr.mono (by decide)) rfl T.g__law_take T.k__law_take T.b__law_take .nil pass0 (pa_cons (pv 0) (pa_cons pe_int pa_nil))) pa_nil)) (pa_cons pe_str pa_nil)))))))) (pe_call F__law_take (hr.mono (by decide)) rfl T.g__law_take T.k__law_take T.b__law_take .nil pass0 (pa_cons (pv 0) (pa_cons pe_int pa_nil))) (fun _ _ => rfl))))) pss_nil)
      (pss_cons (ps_if (pt_cmpR op_lt (pv 1) pe_int (nomark _)) (pss_one (ps_ret (pe_ix ix_list (pe_lst (pa_cons pe_str (pa_cons pe_str (pa_cons pe_str (pa_cons pe_str (pa_cons pe_str (pa_cons pe_str (pa_cons pe_str (pa_cons pe_str (pa_cons pe_str (pa_cons pe_str (pa_cons pe_str (pa_cons pe_str pa_nil))))))))))))) (pe_call F__law_take (hr.mono (by decide)) rfl T.g__law_take T.k__law_take T.b__law_take .nil pass0 (pa_cons (pv 0) (pa_cons pe_int pa_nil))) (fun _ _ => rfl)))) pss_nil)
      (pss_cons (ps_if (pt_cmpR op_lt (pv 1) pe_int (nomark _)) (pss_one (ps_ret (pe_ix ix_list (pe_lst (pa_cons pe_str (pa_cons pe_str (pa_cons pe_str pa_nil)))) (pe_call F__law_take (hr.mono (by decide)) rfl T.g__law_take T.k__law_take T.b__law_take .nil pass0 (pa_cons (pv 0) (pa_cons pe_int pa_nil))) (fun _ _ => rfl)))) pss_nil)
      (pss_one (ps_ret (pe_call F__law_odd (hr.mono (by decide)) rfl T.g__law_odd T.k__law_odd T.b__law_odd .nil pass0 (pa_cons (pv 0) pa_nil)))))))))), ?_⟩
    walk_at "rd"
    refine ⟨st, sc, 16, rfl, by decide, by decide, s0, fun t1 ht1 H1 r1 s1 => ?_⟩
    have k1 := k0.trans r1
    walk_at "rd"
    refine iteB (fun h => ?_) (fun h => ?_)
    · walk_at "rd"
      refine ⟨st, sc, 12, rfl, by decide, by decide, s1, fun t2 ht2 H2 r2 s2 => ?_⟩
      have k2 := k1.trans r2
      walk_at "rd"
      refine ⟨st, sc, 5, rfl, by decide, by decide, s2, fun t3 ht3 H3 r3 s3 => ?_⟩
      have k3 := k2.trans r3
      walk_at "rd"
      refine ⟨("abxyz" : Str), _, _, rfl, rfl, szl (show ("abxyz" : Str).length ≤ _ by decide +kernel), atI_at (show t3 < ("abxyz" : Str).cps.toList.length from Nat.lt_of_lt_of_eq ht3 (show 5 = ("abxyz" : Str).length by decide +kernel)), ?_⟩
      walk_at "rd"
      have en : (1 + (t2 : Int) - 1) = ((t2 : Nat) : Int) := by omega
      rw [en]
      refine ⟨rng_lo _, rng_hi (by omega), ?_⟩
      intro D hD
      refine lc_range (n := t2) (lo := 0) (fun i H' => ∃ l : List Str, l.length = i ∧ (∀ x ∈ l, x.length ≤ 1) ∧ Kp [st] H3 H' ∧ PoolAt K H' st sc ∧ H' D = some (.lst (l.map V.str))) ⟨[], rfl, fun x m => absurd m List.not_mem_nil, Kp.new hD, s3.kp (Kp.new hD), upd_same⟩ ?_ ?_
      · rintro i H4 hi ⟨l, hl, hA, k4, s4, hD4⟩
        refine ⟨rfl, ?_⟩
        walk_at "rd"
        refine ⟨st, sc, 8, rfl, by decide, by decide, s4, fun t5 ht5 H5 r5 s5 => ?_⟩
        have k5 := k4.trans r5
        walk_at "rd"
        refine ⟨("abz019_q" : Str), _, _, rfl, rfl, szl (show ("abz019_q" : Str).length ≤ _ by decide +kernel), atI_at (show t5 < ("abz019_q" : Str).cps.toList.length from Nat.lt_of_lt_of_eq ht5 (show 8 = ("abz019_q" : Str).length by decide +kernel)), ?_⟩
        walk_at "rd"
        generalize (Str.ofString "abz019_q").cps.toList[t5] = c5
        refine ⟨_, r5.keep _ _ (by simpa using s3.old hD) hD4, by rw [List.length_map]; exact szt (by omega), l ++ [⟨#[c5]⟩], by rw [List.length_append, hl]; rfl, fun y m => ?_, k5.mine hD, s3.mine hD k5 s5, ?_⟩
        · rcases List.mem_append.mp m with m | m
          · exact hA y m
          · rw [List.mem_singleton.mp m]
            exact Nat.le_refl 1
        · rw [upd_same, List.map_append]
          rfl
      · rintro H4 ⟨l, hl, hA, k4, s4, hD4⟩
        have hsum := sum_le l hA
        have hj := jlen (y := "") l hA
        have ez : ("" : Str).length = 0 := rfl
        rw [ez] at hj
        refine ⟨_, _, l, rfl, rfl, .inl (SqL.of hD4), by rw [ez]; omega, ?_⟩
        walk_at "rd"
        generalize (Str.ofString "abxyz").cps.toList[t3] = c3
        have e1 : (⟨#[c3]⟩ : Str).length = 1 := rfl
        refine ⟨szl (by rw [e1]; omega), ?_⟩
        exact k _ (by rw [Str.length_append, e1]; omega) _ (k3.trans k4) s4
    walk_at "rd"
    refine iteB (fun h => ?_) (fun h => ?_)
    · walk_at "rd"
      refine ⟨szl (Nat.le_of_ble_eq_true rfl), fun p2 hp2 => ?_⟩
      have k2 : Kp [st] H (upd H1 p2 (.lst [.str "else", .str "fn", .str "global", .str "if", .str "new", .str "nil", .str "out", .str "return", .str "while", .str "whiles", .str "ne"])) := k1.trans (Kp.new hp2)
      have s2 : PoolAt K (upd H1 p2 (.lst [.str "else", .str "fn", .str "global", .str "if", .str "new", .str "nil", .str "out", .str "return", .str "while", .str "whiles", .str "ne"])) st sc := s1.kp (Kp.new hp2)
      have l2 : (upd H1 p2 (.lst [.str "else", .str "fn", .str "global", .str "if", .str "new", .str "nil", .str "out", .str "return", .str "while", .str "whiles", .str "ne"])) p2 = some (.lst (W1.map V.str)) := upd_same
      have o2 : p2 ≠ st := s1.old hp2
      generalize upd H1 p2 (.lst [.str "else", .str "fn", .str "global", .str "if", .str "new", .str "nil", .str "out", .str "return", .str "while", .str "whiles", .str "ne"]) = H2 at k2 s2 l2
      walk_at "rd"
      refine ⟨st, sc, 11, rfl, by decide, by decide, s2, fun t3 ht3 H3 r3 s3 => ?_⟩
      have k3 := k2.trans r3
      walk_at "rd"
      obtain ⟨x, x0, xm⟩ := pick_at W1 (t := t3) ht3
      have x1 : (W1.map V.str)[t3]? = some (.str x) := by rw [List.getElem?_map, x0]; rfl
      refine ⟨_, _, _, _, rfl, rfl, SqL.of (r3.keep _ _ (by simpa using o2) l2), atI_nat x1, ?_⟩
      have hxl : ∀ y ∈ W1, y.length ≤ 6000 := by decide +kernel
      exact k x (hxl x xm) _ k3 s3
    walk_at "rd"
    refine iteB (fun h => ?_) (fun h => ?_)
    · walk_at "rd"
      refine ⟨st, sc, 60, rfl, by decide, by decide, s1, fun t2 ht2 H2 r2 s2 => ?_⟩
      have k2 := k1.trans r2
      walk_at "rd"
      refine iteB (fun h => ?_) (fun h => ?_)
      · walk_at "rd"
        refine ⟨st, sc, 1900, rfl, by decide, by decide, s2, fun t3 ht3 H3 r3 s3 => ?_⟩
        have k3 := k2.trans r3
        walk_at "rd"
        refine ⟨_, _, 4000 + t3, rfl, rfl, by omega, by omega, by decide +kernel, by decide +kernel, by omega, ?_⟩
        have e1 : ("1" : Str).length = 1 := by decide +kernel
        exact k _ (by rw [Tm.rep_len, e1]; omega) _ k3 s3
      walk_at "rd"
      refine ⟨st, sc, 70000, rfl, by decide, by decide, s2, fun t3 ht3 H3 r3 s3 => ?_⟩
      have k3 := k2.trans r3
      walk_at "rd"
      refine ⟨log_small (by omega), ?_⟩
      walk_at "rd"
      refine ⟨szl (Nat.le_of_ble_eq_true rfl), fun p4 hp4 => ?_⟩
      have k4 : Kp [st] H (upd H3 p4 (.lst [.str "0", .str "00", .str "65535", .str "65536", .str "07", .str (Str.ofString (toString ((t3 : Nat) : Int))), .str "1234567"])) := k3.trans (Kp.new hp4)
      have s4 : PoolAt K (upd H3 p4 (.lst [.str "0", .str "00", .str "65535", .str "65536", .str "07", .str (Str.ofString (toString ((t3 : Nat) : Int))), .str "1234567"])) st sc := s3.kp (Kp.new hp4)
      have l4 : (upd H3 p4 (.lst [.str "0", .str "00", .str "65535", .str "65536", .str "07", .str (Str.ofString (toString ((t3 : Nat) : Int))), .str "1234567"])) p4 = some (.lst (([("0" : Str), "00", "65535", "65536", "07", numS t3, "1234567"] : List Str).map V.str)) := upd_same
      have o4 : p4 ≠ st := s3.old hp4
      generalize upd H3 p4 (.lst [.str "0", .str "00", .str "65535", .str "65536", .str "07", .str (Str.ofString (toString ((t3 : Nat) : Int))), .str "1234567"]) = H4 at k4 s4 l4
      walk_at "rd"
      refine ⟨st, sc, 7, rfl, by decide, by decide, s4, fun t5 ht5 H5 r5 s5 => ?_⟩
      have k5 := k4.trans r5
      walk_at "rd"
      obtain ⟨x, x0, xm⟩ := pick_at ([("0" : Str), "00", "65535", "65536", "07", numS t3, "1234567"] : List Str) (t := t5) ht5
      have x1 : (([("0" : Str), "00", "65535", "65536", "07", numS t3, "1234567"] : List Str).map V.str)[t5]? = some (.str x) := by rw [List.getElem?_map, x0]; rfl
      refine ⟨_, _, _, _, rfl, rfl, SqL.of (r5.keep _ _ (by simpa using o4) l4), atI_nat x1, ?_⟩
      have hxl : x.length ≤ 6000 := by
        have hn : (numS t3).length ≤ 10 := num_len (Nat.lt_trans ht3 (by decide))
        have h7 : ∀ y ∈ ([("0" : Str), "00", "65535", "65536", "07", "1234567"] : List Str), y.length ≤ 6000 := by decide +kernel
        rcases List.mem_cons.mp xm with rfl | xm
        · exact h7 _ (by decide +kernel)
        rcases List.mem_cons.mp xm with rfl | xm
        · exact h7 _ (by decide +kernel)
        rcases List.mem_cons.mp xm with rfl | xm
        · exact h7 _ (by decide +kernel)
        rcases List.mem_cons.mp xm with rfl | xm
        · exact h7 _ (by decide +kernel)
        rcases List.mem_cons.mp xm with rfl | xm
        · exact h7 _ (by decide +kernel)
        rcases List.mem_cons.mp xm with rfl | xm
        · omega
        · rw [List.mem_singleton.mp xm]
          exact h7 _ (by decide +kernel)
      exact k x hxl _ k5 s5
    walk_at "rd"
    refine iteB (fun h => ?_) (fun h => ?_)
    · walk_at "rd"
      refine ⟨szl (Nat.le_of_ble_eq_true rfl), fun p2 hp2 => ?_⟩
      have k2 : Kp [st] H (upd H1 p2 (.lst [.str "==", .str "=", .str "+", .str "-", .str ".", .str ",", .str ";", .str "(", .str ")", .str "{", .str "}", .str "==="])) := k1.trans (Kp.new hp2)
      have s2 : PoolAt K (upd H1 p2 (.lst [.str "==", .str "=", .str "+", .str "-", .str ".", .str ",", .str ";", .str "(", .str ")", .str "{", .str "}", .str "==="])) st sc := s1.kp (Kp.new hp2)
      have l2 : (upd H1 p2 (.lst [.str "==", .str "=", .str "+", .str "-", .str ".", .str ",", .str ";", .str "(", .str ")", .str "{", .str "}", .str "==="])) p2 = some (.lst (W3.map V.str)) := upd_same
      have o2 : p2 ≠ st := s1.old hp2
      generalize upd H1 p2 (.lst [.str "==", .str "=", .str "+", .str "-", .str ".", .str ",", .str ";", .str "(", .str ")", .str "{", .str "}", .str "==="]) = H2 at k2 s2 l2
      walk_at "rd"
      refine ⟨st, sc, 12, rfl, by decide, by decide, s2, fun t3 ht3 H3 r3 s3 => ?_⟩
      have k3 := k2.trans r3
      walk_at "rd"
      obtain ⟨x, x0, xm⟩ := pick_at W3 (t := t3) ht3
      have x1 : (W3.map V.str)[t3]? = some (.str x) := by rw [List.getElem?_map, x0]; rfl
      refine ⟨_, _, _, _, rfl, rfl, SqL.of (r3.keep _ _ (by simpa using o2) l2), atI_nat x1, ?_⟩
      have hxl : ∀ y ∈ W3, y.length ≤ 6000 := by decide +kernel
      exact k x (hxl x xm) _ k3 s3
    walk_at "rd"
    refine iteB (fun h => ?_) (fun h => ?_)
    · walk_at "rd"
      refine ⟨szl (Nat.le_of_ble_eq_true rfl), fun p2 hp2 => ?_⟩
      have k2 : Kp [st] H (upd H1 p2 (.lst [.str " ", .str "\n", .str "  "])) := k1.trans (Kp.new hp2)
      have s2 : PoolAt K (upd H1 p2 (.lst [.str " ", .str "\n", .str "  "])) st sc := s1.kp (Kp.new hp2)
      have l2 : (upd H1 p2 (.lst [.str " ", .str "\n", .str "  "])) p2 = some (.lst (W4.map V.str)) := upd_same
      have o2 : p2 ≠ st := s1.old hp2
      generalize upd H1 p2 (.lst [.str " ", .str "\n", .str "  "]) = H2 at k2 s2 l2
      walk_at "rd"
      refine ⟨st, sc, 3, rfl, by decide, by decide, s2, fun t3 ht3 H3 r3 s3 => ?_⟩
      have k3 := k2.trans r3
      walk_at "rd"
      obtain ⟨x, x0, xm⟩ := pick_at W4 (t := t3) ht3
      have x1 : (W4.map V.str)[t3]? = some (.str x) := by rw [List.getElem?_map, x0]; rfl
      refine ⟨_, _, _, _, rfl, rfl, SqL.of (r3.keep _ _ (by simpa using o2) l2), atI_nat x1, ?_⟩
      have hxl : ∀ y ∈ W4, y.length ≤ 6000 := by decide +kernel
      exact k x (hxl x xm) _ k3 s3
    walk_at "rd"
    refine ⟨st, sc, rfl, s1, fun c H2 r2 s2 => ?_⟩
    exact k _ (by show 1 ≤ 6000; decide) _ (k1.trans r2) s2
end
end K14


set_option Elab.async false
set_option linter.all false
set_option maxRecDepth 100000
set_option maxHeartbeats 4000000
namespace K14
open PySem PySem.Spec PyProof.Rows L2 He Hz Cm Lx Px Ly
local macro_rules | `(tactic| walk_at "rd") => `(tactic| repeat (first | (refine ⟨_, rfl, ?_⟩) | (refine ⟨_, _, rfl, rfl, ?_⟩) | (refine ⟨rfl, ?_⟩) | (refine ⟨szl (by omega), ?_⟩) | (refine ⟨_, _, _, _, _, rfl, (by assumption), (by assumption), (by assumption), (by rfl), ?_⟩) | (refine ⟨_, _, rfl, Or.inl (by assumption), ?_⟩)))
local macro_rules | `(tactic| walk_at "dp") => `(tactic| (repeat' (first | exact DpAll.nil | apply DpAll.cons | exact Dp.str _ | exact Dp.int _ | exact Dp.non | exact Dp.bl _ | assumption)))
section
variable {P : Program} {w : World} {K : PySem.W.Frag} {mg : Str → Option Value} {base : Heap} {H H1 H' : Hp} {Q : VK} {E : XK}
theorem nb1 : ∀ b : Bool, (!b) = true → b = false := by decide
theorem nb2 : ∀ b : Bool, (!b) = false → b = true := by decide
theorem let_f {c : Nat} (h : (!decide (([c] : List Nat) < [97])) = false) : isLet c = false := by
  simp only [lt1, Bool.not_eq_false', decide_eq_true_eq] at h
  unfold isLet
  rw [decide_eq_false (by omega), Bool.false_and]
theorem let_t {c : Nat} (h : (!decide (([c] : List Nat) < [97])) = true) : (!decide (([122] : List Nat) < [c])) = isLet c := by
  simp only [lt1, Bool.not_eq_true', decide_eq_false_iff_not] at h
  unfold isLet
  simp only [lt1]
  rw [decide_eq_true (by omega : 97 ≤ c), Bool.true_and, ← decide_not]
  exact decide_eq_decide.mpr (by omega)
theorem dig_f {c : Nat} (h : (!decide (([c] : List Nat) < [48])) = false) : isDig c = false := by
  simp only [lt1, Bool.not_eq_false', decide_eq_true_eq] at h
  unfold isDig
  rw [decide_eq_false (by omega), Bool.false_and]
theorem dig_t {c : Nat} (h : (!decide (([c] : List Nat) < [48])) = true) : (!decide (([57] : List Nat) < [c])) = isDig c := by
  simp only [lt1, Bool.not_eq_true', decide_eq_false_iff_not] at h
  unfold isDig
  simp only [lt1]
  rw [decide_eq_true (by omega : 48 ≤ c), Bool.true_and, ← decide_not]
  exact decide_eq_decide.mpr (by omega)
theorem ok_law_in_word (T : Tx P K mg) : OkF P w K mg base CX0 1 a__law_in_word ["char"] (spCh inW) := by
  have nd := sc__law_in_word.nd
  refine T.f__law_in_word.ok (CX := CX0) sc__law_in_word (fun vs H Q E h => ?_) (fun cdv A outer s H vs Q E hr h => ?_)
  · obtain ⟨c, rfl, _⟩ := h
    rfl
  · obtain ⟨c, rfl, k⟩ := h
    refine ⟨_, PSs.nox (pss_one (ps_ret (pe_or (pe_chain op_le_str op_le_str pe_str (pv 0) pe_str) (pe_or (pe_chain op_le_str op_le_str pe_str (pv 0) pe_str) (pe_one (pe_cmpR op_eq (pv 0) pe_str (nomark _))))))), ?_⟩
    have last : isLet c = false → isDig c = false → Q (V.bl (decide (V.str (⟨#[c]⟩ : Str) = V.str "_"))) H := fun h1 h2 => by
      unfold inW at k
      rw [h1, h2] at k
      rw [dec_one (z := "_") (d := 95) rfl]
      exact k
    have digs : isLet c = false → (!decide (([c] : List Nat) < [48])) = false ∨ isDig c = false → isDig c = false := fun _ h => h.elim dig_f id
    walk_at "rd"
    refine iteB (fun h => ?_) (fun h => ?_)
    · walk_at "rd"
      refine iteB (fun h2 => ?_) (fun h2 => ?_)
      · have e := (let_t h).symm.trans h2
        unfold inW at k
        rw [e] at k
        exact k
      · have e : isLet c = false := (let_t h).symm.trans h2
        walk_at "rd"
        refine iteB (fun h3 => ?_) (fun h3 => ?_)
        · walk_at "rd"
          refine iteB (fun h4 => ?_) (fun h4 => ?_)
          · have e4 := (dig_t h3).symm.trans h4
            unfold inW at k
            rw [e, e4] at k
            exact k
          · walk_at "rd"
            exact last e ((dig_t h3).symm.trans h4)
        · walk_at "rd"
          exact last e (dig_f h3)
    · have e := let_f h
      walk_at "rd"
      refine iteB (fun h3 => ?_) (fun h3 => ?_)
      · walk_at "rd"
        refine iteB (fun h4 => ?_) (fun h4 => ?_)
        · have e4 := (dig_t h3).symm.trans h4
          unfold inW at k
          rw [e, e4] at k
          exact k
        · walk_at "rd"
          exact last e ((dig_t h3).symm.trans h4)
      · walk_at "rd"
        exact last e (dig_f h3)
/-- where a run of figures, or of characters of words, ends -/
def runP (fig : Bool) : Nat → Bool := if fig = true then isDig else inW
def spRun : Sp := fun vs H Q _ => ∃ (x : Str) (n : Nat) (fig : Bool), vs = [.str x, .int n, .bl fig] ∧ x.length ≤ 100000 ∧ n ≤ x.length ∧ Q (.int ((n + ((x.cps.toList.drop n).takeWhile (runP fig)).length : Nat) : Int)) H
theorem ok_law_run (T : Tx P K mg) : OkF P w K mg base CX0 2 a__law_run ["text", "at", "figures"] spRun := by
  have nd := sc__law_run.nd
  have F__law_in_word := ok_law_in_word (P := P) (w := w) (base := base) T
  refine T.f__law_run.ok (CX := CX0) sc__law_run (fun vs H Q E h => ?_) (fun cdv A outer s H vs Q E hr h => ?_)
  · obtain ⟨x, n, _, rfl, _⟩ := h
    rfl
  · obtain ⟨x, n, fig, rfl, hx, hn, k⟩ := h
    refine ⟨_, PSs.nox (pss_cons (ps_for PassesOwn.never rfl (pi_range2 rfl T.n_range (pa_cons (pv 1) (pa_cons (pe_callB call_len_str (by rfl) T.n_len PySem.boot_len (pa_cons (pv 0) pa_nil)) pa_nil))) (pg_name (i := 3) nd rfl (Or.inl rfl)) (pss_one (ps_if (PW.pt (pw_and (pt_not (pt_chain op_le_str op_le_str pe_str (pe_ix ix_str (pv 0) (pv 3) (fun _ _ => rfl)) pe_str)) (pw_and1 (PW.pt (pw_or (pt_val (pv 2) (fun _ => rfl)) (pw_or1 (pt_not (pt_val (pe_call F__law_in_word (hr.mono (by decide)) rfl T.g__law_in_word T.k__law_in_word T.b__law_in_word .nil pass0 (pa_cons (pe_ix ix_str (pv 0) (pv 3) (fun _ _ => rfl)) pa_nil)) (fun _ => rfl))))))))) (pss_one (ps_ret (pv 3))) pss_nil)))
      (pss_one (ps_ret (pe_callB call_len_str (by rfl) T.n_len PySem.boot_len (pa_cons (pv 0) pa_nil))))), ?_⟩
    have e0 : x.cps.toList.length = x.length := rfl
    walk_at "rd"
    refine ⟨_, _, rfl, ⟨rng_lo _, rng_hi (by omega), rng_lo _, rng_hi (by omega)⟩, ?_⟩
    have en : ((x.length : Int) - (n : Int)).toNat = x.length - n := by omega
    have step : ∀ i, i < x.length - n → ∃ c, atI x.cps.toList ((n : Int) + (i : Int)) = some c ∧ x.cps.toList.drop (n + i) = c :: x.cps.toList.drop (n + i + 1) := fun i hi => by
      have hl : n + i < x.cps.toList.length := by omega
      refine ⟨_, ?_, List.drop_eq_getElem_cons hl⟩
      have := atI_at hl
      rwa [Int.natCast_add] at this
    have tw1 : ∀ (c : Nat) (r : List Nat), runP fig c = true → ((c :: r).takeWhile (runP fig)).length = (r.takeWhile (runP fig)).length + 1 := fun c r h => by
      rw [List.takeWhile_cons, if_pos h]
      rfl
    have tw0 : ∀ (c : Nat) (r : List Nat), runP fig c = false → ((c :: r).takeWhile (runP fig)).length = 0 := fun c r h => by
      rw [List.takeWhile_cons, if_neg (by rw [h]; decide)]
      rfl
    generalize hres : ((x.cps.toList.drop n).takeWhile (runP fig)).length = res at k
    show ∃ W : Nat → Nat → L2.St → Hp → Prop, _
    rw [en]
    refine for_range (n := x.length - n) (lo := (n : Int)) (fun i σ H' => ∃ z, σ = [some (.str x), some (.int (n : Nat)), some (.bl fig), z] ∧ H' = H ∧ res = i + ((x.cps.toList.drop (n + i)).takeWhile (runP fig)).length) ⟨_, rfl, rfl, by rw [← hres]; simp⟩ ?_ ?_
    · rintro i σ H' hi ⟨z, rfl, rfl, hinv⟩
      obtain ⟨c, hat, hdr⟩ := step i hi
      rw [hdr] at hinv
      have hc : ((n : Int) + (i : Int)) = ((n + i : Nat) : Int) := (Int.natCast_add n i).symm
      have go : runP fig c = true → res = (i + 1) + ((x.cps.toList.drop (n + (i + 1))).takeWhile (runP fig)).length := fun h => by
        rw [hinv, tw1 c _ h]
        show _ = (i + 1) + ((x.cps.toList.drop (n + i + 1)).takeWhile (runP fig)).length
        omega
      have stop : runP fig c = false → Q (.int ((n : Int) + (i : Int))) H' := fun h => by
        rw [tw0 c _ h] at hinv
        rw [hc]
        rw [hinv] at k
        exact k
      have dig : isDig c = true → runP fig c = true := fun h => by
        unfold runP
        split
        · exact h
        · exact dig_in h
      have nod : isDig c = false → (if fig = true then Q (.int ((n : Int) + (i : Int))) H' else True) ∧ (fig = false → inW c = true → runP fig c = true) ∧ (fig = false → inW c = false → runP fig c = false) := fun h => by
        refine ⟨?_, fun h1 h2 => ?_, fun h1 h2 => ?_⟩
        · cases fig with
          | true => exact stop h
          | false => trivial
        · rw [h1]; exact h2
        · rw [h1]; exact h2
      walk_at "rd"
      refine ⟨_, _, _, rfl, rfl, szl hx, hat, ?_⟩
      walk_at "rd"
      refine iteB (fun h => ?_) (fun h => ?_)
      · walk_at "rd"
        refine iteB (fun h2 => ?_) (fun h2 => ?_)
        · have hd : isDig c = false := by
            rw [← dig_t h]
            exact (Bool.not_eq_true' _).mp h2
          walk_at "rd"
          refine iteB (fun hf => ?_) (fun hf => ?_)
          · have hs := stop (by rw [hf]; exact hd)
            walk_at "rd"
            exact hs
          walk_at "rd"
          refine ⟨_, _, _, rfl, rfl, szl hx, hat, ?_⟩
          walk_at "rd"
          refine iteB (fun h3 => ?_) (fun h3 => ?_)
          · have hs := stop (by rw [hf]; exact nb1 _ h3)
            walk_at "rd"
            exact hs
          · walk_at "rd"
            exact go (by rw [hf]; exact nb2 _ h3)
        · have hd : isDig c = true := by
            rw [← dig_t h]
            exact nb2 _ h2
          walk_at "rd"
          exact go (dig hd)
      · have hd := dig_f h
        walk_at "rd"
        refine iteB (fun hf => ?_) (fun hf => ?_)
        · have hs := stop (by rw [hf]; exact hd)
          walk_at "rd"
          exact hs
        walk_at "rd"
        refine ⟨_, _, _, rfl, rfl, szl hx, hat, ?_⟩
        walk_at "rd"
        refine iteB (fun h3 => ?_) (fun h3 => ?_)
        · have hs := stop (by rw [hf]; exact nb1 _ h3)
          walk_at "rd"
          exact hs
        · walk_at "rd"
          exact go (by rw [hf]; exact nb2 _ h3)
    · rintro σ H' ⟨z, rfl, rfl, hinv⟩
      have hz : x.cps.toList.drop (n + (x.length - n)) = [] := List.drop_eq_nil_of_le (by omega)
      rw [hz] at hinv
      have hr2 : res = x.length - n := hinv
      walk_at "rd"
      have e9 : ((n + res : Nat) : Int) = (x.length : Int) := by omega
      rw [e9] at k
      exact k
end
end K14


set_option Elab.async false
set_option linter.all false
set_option maxRecDepth 100000
set_option maxHeartbeats 4000000
namespace K14
open PySem PySem.Spec PyProof.Rows L2 He Hz Cm Lx Px Ly
local macro_rules | `(tactic| walk_at "rd") => `(tactic| repeat (first | (refine ⟨_, rfl, ?_⟩) | (refine ⟨_, _, rfl, rfl, ?_⟩) | (refine ⟨rfl, ?_⟩) | (refine ⟨szl (by omega), ?_⟩) | (refine ⟨_, _, _, _, _, rfl, (by assumption), (by assumption), (by assumption), (by rfl), ?_⟩) | (refine ⟨_, _, rfl, Or.inl (by assumption), ?_⟩)))
local macro_rules | `(tactic| walk_at "dp") => `(tactic| (repeat' (first | exact DpAll.nil | apply DpAll.cons | exact Dp.str _ | exact Dp.int _ | exact Dp.non | exact Dp.bl _ | assumption)))
section
variable {P : Program} {w : World} {K : PySem.W.Frag} {mg : Str → Option Value} {base : Heap} {H H1 H' : Hp} {Q : VK} {E : XK}
def LTOut (K : PySem.W.Frag) (H : Hp) (Q : VK) (n : Nat) : Option (Tk × Nat) → Prop
  | none => ∀ H', Kp [] H H' → Q .non H'
  | some (t, k) => DOut K [] H Q (.tuple [t.enc, .int (n + k : Nat)])
theorem LTOut.back {n : Nat} {o : Option (Tk × Nat)} (h : LTOut K H Q n o) (k : Kp [] H H') : LTOut K H' Q n o := by
  cases o with
  | none => exact fun H2 k2 => h H2 (k.trans k2)
  | some t => exact fun v H2 k2 => h v H2 (k.trans k2)
def spLTok : Sp := fun vs H Q _ => ∃ (x : Str) (n : Nat), vs = [.str x, .int n] ∧ x.length ≤ 100000 ∧ n < x.length ∧ LTOut K H Q n (lTok (x.cps.toList.drop n) n)
theorem cut_two {x : Str} {n : Nat} (h : n < x.length) : (cutS x (some (n : Int)) (some ((n : Int) + 2))).cps.toList = (x.cps.toList.drop n).take 2 := by
  have e0 : x.cps.toList.length = x.length := rfl
  by_cases h2 : n + 2 ≤ x.length
  · have e := cut_at (x := x) (n := n) (m := n + 2) (by omega) h2
    rw [Nat.add_sub_cancel_left] at e
    exact e
  · have e := cut_at (x := x) (n := n) (m := x.length) (by omega) (Nat.le_refl _)
    have e3 : cutS x (some (n : Int)) (some ((n : Int) + 2)) = cutS x (some (n : Int)) (some ((x.length : Nat) : Int)) := by
      unfold cutS
      have e1 : HT.sIx x.length x.length (some ((n : Int) + 2)) = HT.sIx x.length x.length (some ((x.length : Nat) : Int)) := by
        have z : ((n : Int) + 2) = ((n + 2 : Nat) : Int) := rfl
        rw [z, HT.sIx_nat, HT.sIx_nat]
        omega
      rw [e1]
    rw [e3, e, List.take_of_length_le (by rw [List.length_drop]; omega), List.take_of_length_le (by rw [List.length_drop]; omega)]
theorem cut_dig {x : Str} {n : Nat} (h : n ≤ x.length) : cutS x (some (n : Int)) (some ((n + dLen (x.cps.toList.drop n) : Nat) : Int)) = dOf (x.cps.toList.drop n) := by
  have e0 : x.cps.toList.length = x.length := rfl
  have h1 : dLen (x.cps.toList.drop n) ≤ (x.cps.toList.drop n).length := (List.takeWhile_prefix _).length_le
  rw [List.length_drop] at h1
  have e := cut_at (x := x) (n := n) (m := n + dLen (x.cps.toList.drop n)) (by omega) (by omega)
  rw [Nat.add_sub_cancel_left] at e
  refine TL.ext_tl ?_
  show (cutS _ _ _).cps.toList = _
  rw [e]
  exact takeWhile_take _
theorem ok_law_token (T : Tx P K mg) : OkF P w K mg base CX0 3 a__law_token ["text", "at"] (spLTok (K := K)) := by
  have nd := sc__law_token.nd
  have F__law_run := ok_law_run (P := P) (w := w) (base := base) T
  have F__law_in_word := ok_law_in_word (P := P) (w := w) (base := base) T
  refine T.f__law_token.ok (CX := CX0) sc__law_token (fun vs H Q E h => ?_) (fun cdv A outer s H vs Q E hr h => ?_)
  · obtain ⟨x, n, rfl, _⟩ := h
    rfl
  · obtain ⟨x, n, rfl, hx, hn, k⟩ := h
    refine ⟨_, PSs.nox (pss_cons (ps_if (pt_chain op_le_str op_le_str pe_str (pe_ix ix_str (pv 0) (pv 1) (fun _ _ => rfl)) pe_str) (pss_cons (ps_set (i := 2) nd rfl (Or.inl rfl) (pe_call F__law_run (hr.mono (by decide)) rfl T.g__law_run T.k__law_run T.b__law_run .nil pass0 (pa_cons (pv 0) (pa_cons (pv 1) (pa_cons pe_bl pa_nil)))))
      (pss_cons (ps_set (i := 3) nd rfl (Or.inl rfl) (pe_slice sl_str (pv 0) (po_some (pv 1)) (po_some (pv 2))))
      (pss_cons (ps_if (pt_cmpR op_in_seq (pv 3) (pe_lst (pa_cons pe_str (pa_cons pe_str (pa_cons pe_str (pa_cons pe_str (pa_cons pe_str (pa_cons pe_str (pa_cons pe_str (pa_cons pe_str (pa_cons pe_str pa_nil)))))))))) (by with_unfolding_all rfl)) (pss_one (ps_ret (pe_tup (pa_cons (pe_tup (pa_cons pe_str (pa_cons (pv 3) (pa_cons (pv 1) pa_nil)))) (pa_cons (pv 2) pa_nil))))) pss_nil)
      (pss_one (ps_ret (pe_ifExp (pt_cmpR op_le (pe_callB call_len_str (by rfl) T.n_len PySem.boot_len (pa_cons (pv 3) pa_nil)) pe_int (nomark _)) (pe_tup (pa_cons (pe_tup (pa_cons pe_str (pa_cons (pv 3) (pa_cons (pv 1) pa_nil)))) (pa_cons (pv 2) pa_nil))) pe_non)))))) pss_nil)
      (pss_cons (ps_if (pt_chain op_le_str op_le_str pe_str (pe_ix ix_str (pv 0) (pv 1) (fun _ _ => rfl)) pe_str) (pss_cons (ps_set (i := 2) nd rfl (Or.inl rfl) (pe_call F__law_run (hr.mono (by decide)) rfl T.g__law_run T.k__law_run T.b__law_run .nil pass0 (pa_cons (pv 0) (pa_cons (pv 1) (pa_cons pe_bl pa_nil)))))
      (pss_cons (ps_if (PW.pt (pw_or (PW.pt (pw_and (pt_cmpR op_lt (pv 2) (pe_callB call_len_str (by rfl) T.n_len PySem.boot_len (pa_cons (pv 0) pa_nil)) (nomark _)) (pw_and1 (pt_val (pe_call F__law_in_word (hr.mono (by decide)) rfl T.g__law_in_word T.k__law_in_word T.b__law_in_word .nil pass0 (pa_cons (pe_ix ix_str (pv 0) (pv 2) (fun _ _ => rfl)) pa_nil)) (fun _ => rfl))))) (pw_or1 (pt_cmpR op_gt (pe_op op_sub (pv 2) (pv 1)) pe_int (nomark _))))) (pss_one (ps_ret pe_non)) pss_nil)
      (pss_cons (ps_set (i := 4) nd rfl (Or.inl rfl) (pe_callTy call_int_str (by rfl) T.n_int (by decide +kernel) (pa_cons (pe_slice sl_str (pv 0) (po_some (pv 1)) (po_some (pv 2))) pa_nil)))
      (pss_one (ps_ret (pe_ifExp (PW.pt (pw_and (pt_cmpR op_le (pv 4) pe_int (nomark _)) (pw_and1 (pt_cmpR op_eq (pe_callTy call_str_int (by rfl) T.n_str (by decide +kernel) (pa_cons (pv 4) pa_nil)) (pe_slice sl_str (pv 0) (po_some (pv 1)) (po_some (pv 2))) (nomark _))))) (pe_tup (pa_cons (pe_tup (pa_cons pe_str (pa_cons (pv 4) (pa_cons (pv 1) pa_nil)))) (pa_cons (pv 2) pa_nil))) pe_non)))))) pss_nil)
      (pss_cons (ps_if (pt_cmpR op_eq (pe_slice sl_str (pv 0) (po_some (pv 1)) (po_some (pe_op op_add (pv 1) pe_int))) pe_str (nomark _)) (pss_one (ps_ret (pe_tup (pa_cons (pe_tup (pa_cons pe_str (pa_cons pe_str (pa_cons (pv 1) pa_nil)))) (pa_cons (pe_op op_add (pv 1) pe_int) pa_nil))))) pss_nil)
      (pss_one (ps_ret (pe_ifExp (pt_cmpR op_in_seq (pe_ix ix_str (pv 0) (pv 1) (fun _ _ => rfl)) (pe_lst (pa_cons pe_str (pa_cons pe_str (pa_cons pe_str (pa_cons pe_str (pa_cons pe_str (pa_cons pe_str (pa_cons pe_str (pa_cons pe_str (pa_cons pe_str (pa_cons pe_str pa_nil))))))))))) (by with_unfolding_all rfl)) (pe_tup (pa_cons (pe_tup (pa_cons pe_str (pa_cons (pe_ix ix_str (pv 0) (pv 1) (fun _ _ => rfl)) (pa_cons (pv 1) pa_nil)))) (pa_cons (pe_op op_add (pv 1) pe_int) pa_nil))) pe_non)))))), ?_⟩
    have e0 : x.cps.toList.length = x.length := rfl
    have hnl : n < x.cps.toList.length := by omega
    have hdr := List.drop_eq_getElem_cons hnl
    have hat := atI_at hnl
    generalize x.cps.toList[n] = c at hdr hat
    -- the two tuples of an answer
    have give : ∀ (Hn : Hp) (kd : Str) (v : V) (d : PyData) (j : Nat) (e : Int) (p q : Addr), lTok (x.cps.toList.drop n) n = some (⟨kd, d, n⟩, j) → noL d = true → Kp [] H Hn → Dp K Hn v d → e = ((n + j : Nat) : Int) → Hn p = none → (upd Hn p (.tup [.str kd, v, .int (n : Nat)])) q = none → Q (.ref q) (upd (upd Hn p (.tup [.str kd, v, .int (n : Nat)])) q (.tup [.ref p, .int e])) := fun Hn kd v d j e p q ht nl kk hv he hp hq => by
      subst he
      rw [ht] at k
      have n1 : noLs [.str kd, d, .int (n : Nat)] = true := by
        show (true && (noL d && true)) = true
        rw [nl]
        rfl
      have n2 : noLs [(⟨kd, d, n⟩ : Tk).enc, .int ((n + j : Nat) : Int)] = true := by
        show ((true && (noL d && true)) && true) = true
        rw [nl]
        rfl
      have h1 : Dp K (upd Hn p (.tup [.str kd, v, .int (n : Nat)])) (.ref p) (⟨kd, d, n⟩ : Tk).enc := Dp.new (.cons (.str _) (.cons hv (.cons (.int _) .nil))) n1 hp
      exact k _ _ ((kk.trans (Kp.new hp)).trans (Kp.new hq)) (Dp.new (.cons h1 (.cons (.int _) .nil)) n2 hq)
    have none_ : ∀ Hn, lTok (x.cps.toList.drop n) n = none → Kp [] H Hn → Q .non Hn := fun Hn ht kk => by
      rw [ht] at k
      exact k Hn kk
    walk_at "rd"
    refine ⟨_, _, _, rfl, rfl, szl hx, hat, ?_⟩
    walk_at "rd"
    refine iteB (fun h => ?_) (fun h => ?_)
    · walk_at "rd"
      refine iteB (fun h2 => ?_) (fun h2 => ?_)
      · have hl : isLet c = true := (let_t h).symm.trans h2
        walk_at "rd"
        refine ⟨x, n, false, rfl, hx, by omega, ?_⟩
        rw [show ((x.cps.toList.drop n).takeWhile (runP false)).length = wLen (x.cps.toList.drop n) from rfl]
        walk_at "rd"
        rw [cut_word (by omega)]
        have ht := lTok_let (r := x.cps.toList.drop (n + 1)) (n := n) hl
        rw [← hdr] at ht
        have ewl := wordOf_len (x.cps.toList.drop n)
        have ewx : wLen (x.cps.toList.drop n) ≤ x.length := by
          have := wLen_le (x.cps.toList.drop n)
          rw [List.length_drop] at this
          omega
        walk_at "rd"
        first | refine ⟨szl (Nat.le_of_ble_eq_true rfl), fun p hp => ?_⟩ | refine fun p hp => ?_
        have kp1 : Kp [] H (upd H p (.lst (reserved.map V.str))) := Kp.new hp
        refine ⟨_, _, rfl, .inl (SqL.of (show (upd H p (.lst (reserved.map V.str))) p = some (.lst (reserved.map V.str)) from upd_same)), rfl, ?_⟩
        refine ⟨flat_strs _, _, rfl, ?_⟩
        have ein : inV (.str (wordOf (x.cps.toList.drop n))) (reserved.map V.str) = decide (wordOf (x.cps.toList.drop n) ∈ reserved) := inV_strs _ _
        refine iteB (fun h3 => ?_) (fun h3 => ?_)
        · rw [if_pos (of_decide_eq_true (ein.symm.trans h3))] at ht
          walk_at "rd"
          first | refine ⟨szl (Nat.le_of_ble_eq_true rfl), fun p1 hp1 => ?_⟩ | refine fun p1 hp1 => ?_
          walk_at "rd"
          first | refine ⟨szl (Nat.le_of_ble_eq_true rfl), fun q hq => ?_⟩ | refine fun q hq => ?_
          exact give _ "reserved" _ _ _ _ p1 q ht rfl kp1 (.str _) rfl hp1 hq
        · rw [if_neg (of_decide_eq_false (ein.symm.trans h3))] at ht
          walk_at "rd"
          refine iteB (fun h4 => ?_) (fun h4 => ?_)
          · have h5 := of_decide_eq_true h4
            rw [if_pos (by omega)] at ht
            walk_at "rd"
            first | refine ⟨szl (Nat.le_of_ble_eq_true rfl), fun p1 hp1 => ?_⟩ | refine fun p1 hp1 => ?_
            walk_at "rd"
            first | refine ⟨szl (Nat.le_of_ble_eq_true rfl), fun q hq => ?_⟩ | refine fun q hq => ?_
            exact give _ "name" _ _ _ _ p1 q ht rfl kp1 (.str _) rfl hp1 hq
          · have h5 := of_decide_eq_false h4
            rw [if_neg (by omega)] at ht
            walk_at "rd"
            exact none_ _ ht kp1
      · have hl : isLet c = false := (let_t h).symm.trans h2
        walk_at "rd"
        refine ⟨_, _, _, rfl, rfl, szl hx, hat, ?_⟩
        walk_at "rd"
        refine iteB (fun h => ?_) (fun h => ?_)
        · walk_at "rd"
          refine iteB (fun h2 => ?_) (fun h2 => ?_)
          · have hd : isDig c = true := (dig_t h).symm.trans h2
            walk_at "rd"
            refine ⟨x, n, true, rfl, hx, by omega, ?_⟩
            rw [show ((x.cps.toList.drop n).takeWhile (runP true)).length = dLen (x.cps.toList.drop n) from rfl]
            have ht := lTok_dig (r := x.cps.toList.drop (n + 1)) (n := n) hl hd
            rw [← hdr, List.drop_drop] at ht
            have edl : (dOf (x.cps.toList.drop n)).length = dLen (x.cps.toList.drop n) := rfl
            have ewx : n + dLen (x.cps.toList.drop n) ≤ x.length := by
              have h1 : dLen (x.cps.toList.drop n) ≤ (x.cps.toList.drop n).length := (List.takeWhile_prefix _).length_le
              rw [List.length_drop] at h1
              omega
            have hD : NumText.AllDigits ((x.cps.toList.drop n).takeWhile isDig) := fun y hy => by
              have z := all_tw isDig _ y hy
              unfold isDig at z
              simpa using z
            have hne : (x.cps.toList.drop n).takeWhile isDig ≠ [] := by
              rw [hdr, List.takeWhile_cons, if_pos hd]
              simp
            have hint := fun hl => (show PySem.intText? (dOf (x.cps.toList.drop n)) = some (((decs ((x.cps.toList.drop n).takeWhile isDig) : Nat)) : Int) from PySem.intText_digits (x := dOf (x.cps.toList.drop n)) hD hne hl)
            walk_at "rd"
            refine iteB (fun h4 => ?_) (fun h4 => ?_)
            · have hlt : n + dLen (x.cps.toList.drop n) < x.cps.toList.length := by
                have := of_decide_eq_true h4
                omega
              have hd2 := List.drop_eq_getElem_cons hlt
              have hat2 := atI_at hlt
              generalize x.cps.toList[n + dLen (x.cps.toList.drop n)] = c2 at hd2 hat2
              walk_at "rd"
              refine ⟨_, _, _, rfl, rfl, szl hx, hat2, ?_⟩
              walk_at "rd"
              refine iteB (fun hw => ?_) (fun hw => ?_)
              · rw [if_pos (.inl (by rw [hd2]; exact hw))] at ht
                walk_at "rd"
                exact none_ _ ht Kp.refl
              have hnw : nextW (x.cps.toList.drop (n + dLen (x.cps.toList.drop n))) = false := by rw [hd2]; exact hw
              walk_at "rd"
              refine iteB (fun h5 => ?_) (fun h5 => ?_)
              · have h5 := of_decide_eq_true h5
                rw [if_pos (.inr (by omega))] at ht
                walk_at "rd"
                exact none_ _ ht Kp.refl
              have h5 := of_decide_eq_false h5
              rw [if_neg (fun z => z.elim (fun z => by rw [hnw] at z; exact absurd z (by decide)) (fun z => by omega))] at ht
              walk_at "rd"
              rw [cut_dig (by omega)]
              refine ⟨_, _, rfl, hint (by rw [edl]; omega), by rw [edl]; omega, ?_⟩
              walk_at "rd"
              refine iteB (fun h6 => ?_) (fun h6 => ?_)
              · have h65 := of_decide_eq_true h6
                walk_at "rd"
                refine ⟨log_small (by omega), ?_⟩
                walk_at "rd"
                rw [cut_dig (by omega)]
                walk_at "rd"
                refine iteB (fun h7 => ?_) (fun h7 => ?_)
                · have h8 : V.str (numS (decs ((x.cps.toList.drop n).takeWhile isDig))) = V.str (dOf (x.cps.toList.drop n)) := of_decide_eq_true h7
                  rw [if_pos ⟨by omega, V.str.inj h8⟩] at ht
                  walk_at "rd"
                  first | refine ⟨szl (Nat.le_of_ble_eq_true rfl), fun p1 hp1 => ?_⟩ | refine fun p1 hp1 => ?_
                  walk_at "rd"
                  first | refine ⟨szl (Nat.le_of_ble_eq_true rfl), fun q hq => ?_⟩ | refine fun q hq => ?_
                  exact give _ "number" _ _ _ _ p1 q ht rfl Kp.refl (.int _) rfl hp1 hq
                · have h8 : ¬ V.str (numS (decs ((x.cps.toList.drop n).takeWhile isDig))) = V.str (dOf (x.cps.toList.drop n)) := of_decide_eq_false h7
                  rw [if_neg (fun z => h8 (congrArg V.str z.2))] at ht
                  walk_at "rd"
                  exact none_ _ ht Kp.refl
              · have h65 := of_decide_eq_false h6
                rw [if_neg (fun z => h65 (by have := z.1; omega))] at ht
                walk_at "rd"
                exact none_ _ ht Kp.refl
            · have hnw : nextW (x.cps.toList.drop (n + dLen (x.cps.toList.drop n))) = false := by
                have := of_decide_eq_false h4
                rw [List.drop_eq_nil_of_le (by omega)]
                rfl
              walk_at "rd"
              refine iteB (fun h5 => ?_) (fun h5 => ?_)
              · have h5 := of_decide_eq_true h5
                rw [if_pos (.inr (by omega))] at ht
                walk_at "rd"
                exact none_ _ ht Kp.refl
              have h5 := of_decide_eq_false h5
              rw [if_neg (fun z => z.elim (fun z => by rw [hnw] at z; exact absurd z (by decide)) (fun z => by omega))] at ht
              walk_at "rd"
              rw [cut_dig (by omega)]
              refine ⟨_, _, rfl, hint (by rw [edl]; omega), by rw [edl]; omega, ?_⟩
              walk_at "rd"
              refine iteB (fun h6 => ?_) (fun h6 => ?_)
              · have h65 := of_decide_eq_true h6
                walk_at "rd"
                refine ⟨log_small (by omega), ?_⟩
                walk_at "rd"
                rw [cut_dig (by omega)]
                walk_at "rd"
                refine iteB (fun h7 => ?_) (fun h7 => ?_)
                · have h8 : V.str (numS (decs ((x.cps.toList.drop n).takeWhile isDig))) = V.str (dOf (x.cps.toList.drop n)) := of_decide_eq_true h7
                  rw [if_pos ⟨by omega, V.str.inj h8⟩] at ht
                  walk_at "rd"
                  first | refine ⟨szl (Nat.le_of_ble_eq_true rfl), fun p1 hp1 => ?_⟩ | refine fun p1 hp1 => ?_
                  walk_at "rd"
                  first | refine ⟨szl (Nat.le_of_ble_eq_true rfl), fun q hq => ?_⟩ | refine fun q hq => ?_
                  exact give _ "number" _ _ _ _ p1 q ht rfl Kp.refl (.int _) rfl hp1 hq
                · have h8 : ¬ V.str (numS (decs ((x.cps.toList.drop n).takeWhile isDig))) = V.str (dOf (x.cps.toList.drop n)) := of_decide_eq_false h7
                  rw [if_neg (fun z => h8 (congrArg V.str z.2))] at ht
                  walk_at "rd"
                  exact none_ _ ht Kp.refl
              · have h65 := of_decide_eq_false h6
                rw [if_neg (fun z => h65 (by have := z.1; omega))] at ht
                walk_at "rd"
                exact none_ _ ht Kp.refl
          · have hd : isDig c = false := (dig_t h).symm.trans h2
            walk_at "rd"
            have ht := lTok_sgn (r := x.cps.toList.drop (n + 1)) (n := n) hl hd
            rw [← hdr] at ht
            have e2 : decide (V.str (cutS x (some (n : Int)) (some ((n : Int) + 2))) = V.str "==") = decide ((x.cps.toList.drop n).take 2 = [61, 61]) := by
              refine decide_eq_decide.mpr ⟨fun z => ?_, fun z => ?_⟩
              · have z2 : (cutS x (some (n : Int)) (some ((n : Int) + 2))).cps.toList = [61, 61] := congrArg (fun s : Str => s.cps.toList) (V.str.inj z)
                rw [cut_two hn] at z2
                exact z2
              · refine congrArg V.str (TL.ext_tl ?_)
                show (cutS _ _ _).cps.toList = _
                rw [cut_two hn]
                exact z
            walk_at "rd"
            refine iteB (fun h4 => ?_) (fun h4 => ?_)
            · rw [if_pos (of_decide_eq_true (e2.symm.trans h4))] at ht
              walk_at "rd"
              first | refine ⟨szl (Nat.le_of_ble_eq_true rfl), fun p1 hp1 => ?_⟩ | refine fun p1 hp1 => ?_
              walk_at "rd"
              first | refine ⟨szl (Nat.le_of_ble_eq_true rfl), fun q hq => ?_⟩ | refine fun q hq => ?_
              exact give _ "sign" _ _ _ _ p1 q ht rfl Kp.refl (.str _) rfl hp1 hq
            rw [if_neg (of_decide_eq_false (e2.symm.trans h4))] at ht
            walk_at "rd"
            refine ⟨_, _, _, rfl, rfl, szl hx, hat, ?_⟩
            walk_at "rd"
            first | refine ⟨szl (Nat.le_of_ble_eq_true rfl), fun p hp => ?_⟩ | refine fun p hp => ?_
            have kp1 : Kp [] H (upd H p (.lst (sg1.map V.str))) := Kp.new hp
            refine ⟨_, _, rfl, .inl (SqL.of (show (upd H p (.lst (sg1.map V.str))) p = some (.lst (sg1.map V.str)) from upd_same)), rfl, ?_⟩
            refine ⟨flat_strs _, _, rfl, ?_⟩
            have ein : inV (.str (ch c)) (sg1.map V.str) = decide (ch c ∈ sg1) := inV_strs _ _
            refine iteB (fun h3 => ?_) (fun h3 => ?_)
            · rw [if_pos (of_decide_eq_true (ein.symm.trans h3))] at ht
              walk_at "rd"
              refine ⟨_, _, _, rfl, rfl, szl hx, hat, ?_⟩
              walk_at "rd"
              first | refine ⟨szl (Nat.le_of_ble_eq_true rfl), fun p1 hp1 => ?_⟩ | refine fun p1 hp1 => ?_
              walk_at "rd"
              first | refine ⟨szl (Nat.le_of_ble_eq_true rfl), fun q hq => ?_⟩ | refine fun q hq => ?_
              exact give _ "sign" _ _ _ _ p1 q ht rfl kp1 (.str _) rfl hp1 hq
            · rw [if_neg (of_decide_eq_false (ein.symm.trans h3))] at ht
              walk_at "rd"
              exact none_ _ ht kp1
        · have hd := dig_f h
          walk_at "rd"
          have ht := lTok_sgn (r := x.cps.toList.drop (n + 1)) (n := n) hl hd
          rw [← hdr] at ht
          have e2 : decide (V.str (cutS x (some (n : Int)) (some ((n : Int) + 2))) = V.str "==") = decide ((x.cps.toList.drop n).take 2 = [61, 61]) := by
            refine decide_eq_decide.mpr ⟨fun z => ?_, fun z => ?_⟩
            · have z2 : (cutS x (some (n : Int)) (some ((n : Int) + 2))).cps.toList = [61, 61] := congrArg (fun s : Str => s.cps.toList) (V.str.inj z)
              rw [cut_two hn] at z2
              exact z2
            · refine congrArg V.str (TL.ext_tl ?_)
              show (cutS _ _ _).cps.toList = _
              rw [cut_two hn]
              exact z
          walk_at "rd"
          refine iteB (fun h4 => ?_) (fun h4 => ?_)
          · rw [if_pos (of_decide_eq_true (e2.symm.trans h4))] at ht
            walk_at "rd"
            first | refine ⟨szl (Nat.le_of_ble_eq_true rfl), fun p1 hp1 => ?_⟩ | refine fun p1 hp1 => ?_
            walk_at "rd"
            first | refine ⟨szl (Nat.le_of_ble_eq_true rfl), fun q hq => ?_⟩ | refine fun q hq => ?_
            exact give _ "sign" _ _ _ _ p1 q ht rfl Kp.refl (.str _) rfl hp1 hq
          rw [if_neg (of_decide_eq_false (e2.symm.trans h4))] at ht
          walk_at "rd"
          refine ⟨_, _, _, rfl, rfl, szl hx, hat, ?_⟩
          walk_at "rd"
          first | refine ⟨szl (Nat.le_of_ble_eq_true rfl), fun p hp => ?_⟩ | refine fun p hp => ?_
          have kp1 : Kp [] H (upd H p (.lst (sg1.map V.str))) := Kp.new hp
          refine ⟨_, _, rfl, .inl (SqL.of (show (upd H p (.lst (sg1.map V.str))) p = some (.lst (sg1.map V.str)) from upd_same)), rfl, ?_⟩
          refine ⟨flat_strs _, _, rfl, ?_⟩
          have ein : inV (.str (ch c)) (sg1.map V.str) = decide (ch c ∈ sg1) := inV_strs _ _
          refine iteB (fun h3 => ?_) (fun h3 => ?_)
          · rw [if_pos (of_decide_eq_true (ein.symm.trans h3))] at ht
            walk_at "rd"
            refine ⟨_, _, _, rfl, rfl, szl hx, hat, ?_⟩
            walk_at "rd"
            first | refine ⟨szl (Nat.le_of_ble_eq_true rfl), fun p1 hp1 => ?_⟩ | refine fun p1 hp1 => ?_
            walk_at "rd"
            first | refine ⟨szl (Nat.le_of_ble_eq_true rfl), fun q hq => ?_⟩ | refine fun q hq => ?_
            exact give _ "sign" _ _ _ _ p1 q ht rfl kp1 (.str _) rfl hp1 hq
          · rw [if_neg (of_decide_eq_false (ein.symm.trans h3))] at ht
            walk_at "rd"
            exact none_ _ ht kp1
    · have hl := let_f h
      walk_at "rd"
      refine ⟨_, _, _, rfl, rfl, szl hx, hat, ?_⟩
      walk_at "rd"
      refine iteB (fun h => ?_) (fun h => ?_)
      · walk_at "rd"
        refine iteB (fun h2 => ?_) (fun h2 => ?_)
        · have hd : isDig c = true := (dig_t h).symm.trans h2
          walk_at "rd"
          refine ⟨x, n, true, rfl, hx, by omega, ?_⟩
          rw [show ((x.cps.toList.drop n).takeWhile (runP true)).length = dLen (x.cps.toList.drop n) from rfl]
          have ht := lTok_dig (r := x.cps.toList.drop (n + 1)) (n := n) hl hd
          rw [← hdr, List.drop_drop] at ht
          have edl : (dOf (x.cps.toList.drop n)).length = dLen (x.cps.toList.drop n) := rfl
          have ewx : n + dLen (x.cps.toList.drop n) ≤ x.length := by
            have h1 : dLen (x.cps.toList.drop n) ≤ (x.cps.toList.drop n).length := (List.takeWhile_prefix _).length_le
            rw [List.length_drop] at h1
            omega
          have hD : NumText.AllDigits ((x.cps.toList.drop n).takeWhile isDig) := fun y hy => by
            have z := all_tw isDig _ y hy
            unfold isDig at z
            simpa using z
          have hne : (x.cps.toList.drop n).takeWhile isDig ≠ [] := by
            rw [hdr, List.takeWhile_cons, if_pos hd]
            simp
          have hint := fun hl => (show PySem.intText? (dOf (x.cps.toList.drop n)) = some (((decs ((x.cps.toList.drop n).takeWhile isDig) : Nat)) : Int) from PySem.intText_digits (x := dOf (x.cps.toList.drop n)) hD hne hl)
          walk_at "rd"
          refine iteB (fun h4 => ?_) (fun h4 => ?_)
          · have hlt : n + dLen (x.cps.toList.drop n) < x.cps.toList.length := by
              have := of_decide_eq_true h4
              omega
            have hd2 := List.drop_eq_getElem_cons hlt
            have hat2 := atI_at hlt
            generalize x.cps.toList[n + dLen (x.cps.toList.drop n)] = c2 at hd2 hat2
            walk_at "rd"
            refine ⟨_, _, _, rfl, rfl, szl hx, hat2, ?_⟩
            walk_at "rd"
            refine iteB (fun hw => ?_) (fun hw => ?_)
            · rw [if_pos (.inl (by rw [hd2]; exact hw))] at ht
              walk_at "rd"
              exact none_ _ ht Kp.refl
            have hnw : nextW (x.cps.toList.drop (n + dLen (x.cps.toList.drop n))) = false := by rw [hd2]; exact hw
            walk_at "rd"
            refine iteB (fun h5 => ?_) (fun h5 => ?_)
            · have h5 := of_decide_eq_true h5
              rw [if_pos (.inr (by omega))] at ht
              walk_at "rd"
              exact none_ _ ht Kp.refl
            have h5 := of_decide_eq_false h5
            rw [if_neg (fun z => z.elim (fun z => by rw [hnw] at z; exact absurd z (by decide)) (fun z => by omega))] at ht
            walk_at "rd"
            rw [cut_dig (by omega)]
            refine ⟨_, _, rfl, hint (by rw [edl]; omega), by rw [edl]; omega, ?_⟩
            walk_at "rd"
            refine iteB (fun h6 => ?_) (fun h6 => ?_)
            · have h65 := of_decide_eq_true h6
              walk_at "rd"
              refine ⟨log_small (by omega), ?_⟩
              walk_at "rd"
              rw [cut_dig (by omega)]
              walk_at "rd"
              refine iteB (fun h7 => ?_) (fun h7 => ?_)
              · have h8 : V.str (numS (decs ((x.cps.toList.drop n).takeWhile isDig))) = V.str (dOf (x.cps.toList.drop n)) := of_decide_eq_true h7
                rw [if_pos ⟨by omega, V.str.inj h8⟩] at ht
                walk_at "rd"
                first | refine ⟨szl (Nat.le_of_ble_eq_true rfl), fun p1 hp1 => ?_⟩ | refine fun p1 hp1 => ?_
                walk_at "rd"
                first | refine ⟨szl (Nat.le_of_ble_eq_true rfl), fun q hq => ?_⟩ | refine fun q hq => ?_
                exact give _ "number" _ _ _ _ p1 q ht rfl Kp.refl (.int _) rfl hp1 hq
              · have h8 : ¬ V.str (numS (decs ((x.cps.toList.drop n).takeWhile isDig))) = V.str (dOf (x.cps.toList.drop n)) := of_decide_eq_false h7
                rw [if_neg (fun z => h8 (congrArg V.str z.2))] at ht
                walk_at "rd"
                exact none_ _ ht Kp.refl
            · have h65 := of_decide_eq_false h6
              rw [if_neg (fun z => h65 (by have := z.1; omega))] at ht
              walk_at "rd"
              exact none_ _ ht Kp.refl
          · have hnw : nextW (x.cps.toList.drop (n + dLen (x.cps.toList.drop n))) = false := by
              have := of_decide_eq_false h4
              rw [List.drop_eq_nil_of_le (by omega)]
              rfl
            walk_at "rd"
            refine iteB (fun h5 => ?_) (fun h5 => ?_)
            · have h5 := of_decide_eq_true h5
              rw [if_pos (.inr (by omega))] at ht
              walk_at "rd"
              exact none_ _ ht Kp.refl
            have h5 := of_decide_eq_false h5
            rw [if_neg (fun z => z.elim (fun z => by rw [hnw] at z; exact absurd z (by decide)) (fun z => by omega))] at ht
            walk_at "rd"
            rw [cut_dig (by omega)]
            refine ⟨_, _, rfl, hint (by rw [edl]; omega), by rw [edl]; omega, ?_⟩
            walk_at "rd"
            refine iteB (fun h6 => ?_) (fun h6 => ?_)
            · have h65 := of_decide_eq_true h6
              walk_at "rd"
              refine ⟨log_small (by omega), ?_⟩
              walk_at "rd"
              rw [cut_dig (by omega)]
              walk_at "rd"
              refine iteB (fun h7 => ?_) (fun h7 => ?_)
              · have h8 : V.str (numS (decs ((x.cps.toList.drop n).takeWhile isDig))) = V.str (dOf (x.cps.toList.drop n)) := of_decide_eq_true h7
                rw [if_pos ⟨by omega, V.str.inj h8⟩] at ht
                walk_at "rd"
                first | refine ⟨szl (Nat.le_of_ble_eq_true rfl), fun p1 hp1 => ?_⟩ | refine fun p1 hp1 => ?_
                walk_at "rd"
                first | refine ⟨szl (Nat.le_of_ble_eq_true rfl), fun q hq => ?_⟩ | refine fun q hq => ?_
                exact give _ "number" _ _ _ _ p1 q ht rfl Kp.refl (.int _) rfl hp1 hq
              · have h8 : ¬ V.str (numS (decs ((x.cps.toList.drop n).takeWhile isDig))) = V.str (dOf (x.cps.toList.drop n)) := of_decide_eq_false h7
                rw [if_neg (fun z => h8 (congrArg V.str z.2))] at ht
                walk_at "rd"
                exact none_ _ ht Kp.refl
            · have h65 := of_decide_eq_false h6
              rw [if_neg (fun z => h65 (by have := z.1; omega))] at ht
              walk_at "rd"
              exact none_ _ ht Kp.refl
        · have hd : isDig c = false := (dig_t h).symm.trans h2
          walk_at "rd"
          have ht := lTok_sgn (r := x.cps.toList.drop (n + 1)) (n := n) hl hd
          rw [← hdr] at ht
          have e2 : decide (V.str (cutS x (some (n : Int)) (some ((n : Int) + 2))) = V.str "==") = decide ((x.cps.toList.drop n).take 2 = [61, 61]) := by
            refine decide_eq_decide.mpr ⟨fun z => ?_, fun z => ?_⟩
            · have z2 : (cutS x (some (n : Int)) (some ((n : Int) + 2))).cps.toList = [61, 61] := congrArg (fun s : Str => s.cps.toList) (V.str.inj z)
              rw [cut_two hn] at z2
              exact z2
            · refine congrArg V.str (TL.ext_tl ?_)
              show (cutS _ _ _).cps.toList = _
              rw [cut_two hn]
              exact z
          walk_at "rd"
          refine iteB (fun h4 => ?_) (fun h4 => ?_)
          · rw [if_pos (of_decide_eq_true (e2.symm.trans h4))] at ht
            walk_at "rd"
            first | refine ⟨szl (Nat.le_of_ble_eq_true rfl), fun p1 hp1 => ?_⟩ | refine fun p1 hp1 => ?_
            walk_at "rd"
            first | refine ⟨szl (Nat.le_of_ble_eq_true rfl), fun q hq => ?_⟩ | refine fun q hq => ?_
            exact give _ "sign" _ _ _ _ p1 q ht rfl Kp.refl (.str _) rfl hp1 hq
          rw [if_neg (of_decide_eq_false (e2.symm.trans h4))] at ht
          walk_at "rd"
          refine ⟨_, _, _, rfl, rfl, szl hx, hat, ?_⟩
          walk_at "rd"
          first | refine ⟨szl (Nat.le_of_ble_eq_true rfl), fun p hp => ?_⟩ | refine fun p hp => ?_
          have kp1 : Kp [] H (upd H p (.lst (sg1.map V.str))) := Kp.new hp
          refine ⟨_, _, rfl, .inl (SqL.of (show (upd H p (.lst (sg1.map V.str))) p = some (.lst (sg1.map V.str)) from upd_same)), rfl, ?_⟩
          refine ⟨flat_strs _, _, rfl, ?_⟩
          have ein : inV (.str (ch c)) (sg1.map V.str) = decide (ch c ∈ sg1) := inV_strs _ _
          refine iteB (fun h3 => ?_) (fun h3 => ?_)
          · rw [if_pos (of_decide_eq_true (ein.symm.trans h3))] at ht
            walk_at "rd"
            refine ⟨_, _, _, rfl, rfl, szl hx, hat, ?_⟩
            walk_at "rd"
            first | refine ⟨szl (Nat.le_of_ble_eq_true rfl), fun p1 hp1 => ?_⟩ | refine fun p1 hp1 => ?_
            walk_at "rd"
            first | refine ⟨szl (Nat.le_of_ble_eq_true rfl), fun q hq => ?_⟩ | refine fun q hq => ?_
            exact give _ "sign" _ _ _ _ p1 q ht rfl kp1 (.str _) rfl hp1 hq
          · rw [if_neg (of_decide_eq_false (ein.symm.trans h3))] at ht
            walk_at "rd"
            exact none_ _ ht kp1
      · have hd := dig_f h
        walk_at "rd"
        have ht := lTok_sgn (r := x.cps.toList.drop (n + 1)) (n := n) hl hd
        rw [← hdr] at ht
        have e2 : decide (V.str (cutS x (some (n : Int)) (some ((n : Int) + 2))) = V.str "==") = decide ((x.cps.toList.drop n).take 2 = [61, 61]) := by
          refine decide_eq_decide.mpr ⟨fun z => ?_, fun z => ?_⟩
          · have z2 : (cutS x (some (n : Int)) (some ((n : Int) + 2))).cps.toList = [61, 61] := congrArg (fun s : Str => s.cps.toList) (V.str.inj z)
            rw [cut_two hn] at z2
            exact z2
          · refine congrArg V.str (TL.ext_tl ?_)
            show (cutS _ _ _).cps.toList = _
            rw [cut_two hn]
            exact z
        walk_at "rd"
        refine iteB (fun h4 => ?_) (fun h4 => ?_)
        · rw [if_pos (of_decide_eq_true (e2.symm.trans h4))] at ht
          walk_at "rd"
          first | refine ⟨szl (Nat.le_of_ble_eq_true rfl), fun p1 hp1 => ?_⟩ | refine fun p1 hp1 => ?_
          walk_at "rd"
          first | refine ⟨szl (Nat.le_of_ble_eq_true rfl), fun q hq => ?_⟩ | refine fun q hq => ?_
          exact give _ "sign" _ _ _ _ p1 q ht rfl Kp.refl (.str _) rfl hp1 hq
        rw [if_neg (of_decide_eq_false (e2.symm.trans h4))] at ht
        walk_at "rd"
        refine ⟨_, _, _, rfl, rfl, szl hx, hat, ?_⟩
        walk_at "rd"
        first | refine ⟨szl (Nat.le_of_ble_eq_true rfl), fun p hp => ?_⟩ | refine fun p hp => ?_
        have kp1 : Kp [] H (upd H p (.lst (sg1.map V.str))) := Kp.new hp
        refine ⟨_, _, rfl, .inl (SqL.of (show (upd H p (.lst (sg1.map V.str))) p = some (.lst (sg1.map V.str)) from upd_same)), rfl, ?_⟩
        refine ⟨flat_strs _, _, rfl, ?_⟩
        have ein : inV (.str (ch c)) (sg1.map V.str) = decide (ch c ∈ sg1) := inV_strs _ _
        refine iteB (fun h3 => ?_) (fun h3 => ?_)
        · rw [if_pos (of_decide_eq_true (ein.symm.trans h3))] at ht
          walk_at "rd"
          refine ⟨_, _, _, rfl, rfl, szl hx, hat, ?_⟩
          walk_at "rd"
          first | refine ⟨szl (Nat.le_of_ble_eq_true rfl), fun p1 hp1 => ?_⟩ | refine fun p1 hp1 => ?_
          walk_at "rd"
          first | refine ⟨szl (Nat.le_of_ble_eq_true rfl), fun q hq => ?_⟩ | refine fun q hq => ?_
          exact give _ "sign" _ _ _ _ p1 q ht rfl kp1 (.str _) rfl hp1 hq
        · rw [if_neg (of_decide_eq_false (ein.symm.trans h3))] at ht
          walk_at "rd"
          exact none_ _ ht kp1
end
end K14


set_option Elab.async false
set_option linter.all false
set_option maxRecDepth 100000
set_option maxHeartbeats 4000000
/-! plain: shapes of data, data with lists where all stays -/
namespace Qx
open PySem L2 Cm Lx
def Sok (n : Nat) (d : PyData) : Prop := d.canLay0 = true ∧ d.depth ≤ n
theorem Sok.mono {n m : Nat} {d : PyData} (h : Sok n d) (l : n ≤ m) : Sok m d := ⟨h.1, Nat.le_trans h.2 l⟩
theorem Sok.str {n : Nat} {x : Str} (h : PyData.strOk x = true) : Sok n (.str x) := ⟨h, Nat.zero_le _⟩
theorem Sok.int {n : Nat} {i : Int} : Sok n (.int i) := ⟨rfl, Nat.zero_le _⟩
theorem sok_all {n : Nat} : ∀ {ds : List PyData}, (∀ d ∈ ds, Sok n d) → PyData.canLayAll0 ds = true ∧ PyData.depthAll ds ≤ n
  | [], _ => ⟨rfl, Nat.zero_le _⟩
  | d :: ds, h => by
    obtain ⟨a1, a2⟩ := h d List.mem_cons_self
    obtain ⟨b1, b2⟩ := sok_all fun x m => h x (List.mem_cons_of_mem _ m)
    refine ⟨?_, Nat.max_le.mpr ⟨a2, b2⟩⟩
    show (d.canLay0 && PyData.canLayAll0 ds) = true
    rw [a1, b1]
    rfl
theorem Sok.tup {n : Nat} {ds : List PyData} (h : ∀ d ∈ ds, Sok n d) : Sok (n + 1) (.tuple ds) := ⟨(sok_all h).1, Nat.succ_le_succ (sok_all h).2⟩
theorem Sok.lst {n : Nat} {ds : List PyData} (h : ∀ d ∈ ds, Sok n d) : Sok (n + 1) (.list ds) := ⟨(sok_all h).1, Nat.succ_le_succ (sok_all h).2⟩
theorem Sok.shaped {n : Nat} {d : PyData} (h : Sok n d) (l : n ≤ 64) : SeqAt.shaped d = true := by
  unfold SeqAt.shaped
  rw [h.1, decide_eq_true (Nat.le_trans h.2 l)]
  rfl
theorem Sok.refl {n : Nat} {d : PyData} (h : Sok n d) : PyData.eqv d d = true := SeqAt.eqv_refl d h.1
theorem all_nil {α : Type} {p : α → Prop} : ∀ x ∈ ([] : List α), p x := fun x m => absurd m List.not_mem_nil
theorem all_cons {α : Type} {a : α} {l : List α} {p : α → Prop} (ha : p a) (hl : ∀ x ∈ l, p x) : ∀ x ∈ a :: l, p x := by
  intro x m
  rcases List.mem_cons.mp m with rfl | m
  · exact ha
  · exact hl x m
/-! ### all of a datum stays where all stays -/
mutual
def noQ : PyData → Bool
  | .dict _ => false
  | .tuple ds => noQs ds
  | .list ds => noQs ds
  | _ => true
def noQs : List PyData → Bool
  | [] => true
  | d :: ds => noQ d && noQs ds
end
section
variable {K : PySem.W.Frag} {H H' : Hp}
mutual
theorem Dp.kq (x : Kp [] H H') : ∀ (d : PyData) (v : V), Dp K H v d → Dp K H' v d
  | .none, _, h => by cases h; exact .non
  | .bool _, _, h => by cases h; exact .bl _
  | .int _, _, h => by cases h; exact .int _
  | .str _, _, h => by cases h; exact .str _
  | .list ds, _, h => by
    cases h with
    | lst hs ha => exact .lst (x.sql (by simp) hs) (Dp.kqs x ds _ ha)
  | .dict _, _, h => by cases h
  | .tuple ds, _, h => by
    cases h with
    | tup hs ha => exact .tup (x.sqt hs) (Dp.kqs x ds _ ha)
theorem Dp.kqs (x : Kp [] H H') : ∀ (ds : List PyData) (vs : List V), DpAll K H vs ds → DpAll K H' vs ds
  | [], _, h => by cases h; exact .nil
  | d :: ds, _, h => by
    cases h with
    | cons h1 h2 => exact .cons (Dp.kq x d _ h1) (Dp.kqs x ds _ h2)
end
end
/-! ### tokens are flat -/
theorem tk_dep {r : List Nat} {n : Nat} {t : Tk} {k : Nat} (h : tok1 r n = some (t, k)) : t.val.depth = 0 := by
  unfold tok1 at h
  cases r with
  | nil => cases h
  | cons c r =>
    dsimp only at h
    split at h
    · obtain ⟨t', ht, e⟩ := Option.map_eq_some_iff.mp h
      cases e
      unfold tkWord at ht
      split at ht
      · cases ht; rfl
      · split at ht
        · cases ht
        · cases ht; rfl
    · split at h
      · obtain ⟨t', ht, e⟩ := Option.map_eq_some_iff.mp h
        cases e
        unfold tkNum at ht
        split at ht
        · cases ht
        · split at ht
          · cases ht
          · cases ht; rfl
      · obtain ⟨z, ht, e⟩ := Option.map_eq_some_iff.mp h
        cases e
        rfl
theorem lexF_dep : ∀ (m : Nat) (r : List Nat) (n : Nat) (ts : List Tk), lexF m r n = .ok ts → ∀ t ∈ ts, t.val.depth = 0
  | 0, r, n, ts, h => by
    have : ts = [] := by
      unfold lexF at h
      cases h
      rfl
    subst this
    exact all_nil
  | m + 1, [], n, ts, h => by
    have : ts = [] := by
      unfold lexF at h
      cases h
      rfl
    subst this
    exact all_nil
  | m + 1, c :: r, n, ts, h => by
    unfold lexF at h
    split at h
    · exact lexF_dep m _ _ _ h
    · cases ht : tok1 (c :: r) n with
      | none =>
        rw [ht] at h
        cases h
      | some p =>
        obtain ⟨t, k⟩ := p
        rw [ht] at h
        dsimp only at h
        cases hx : lexF m ((c :: r).drop k) (n + k) with
        | error x =>
          rw [hx] at h
          cases h
        | ok ts' =>
          rw [hx] at h
          cases h
          exact all_cons (tk_dep ht) (lexF_dep m _ _ _ hx)
theorem lex_dep {l : List Nat} {ts : List Tk} (h : lex l = .ok ts) : ∀ t ∈ ts, t.val.depth = 0 := by
  unfold lex at h
  split at h
  · cases h
  · cases hx : lexF l.length l 0 with
    | error n =>
      rw [hx] at h
      cases h
    | ok ts' =>
      rw [hx] at h
      cases h
      exact lexF_dep _ _ _ _ hx
/-! ### what is told -/
def encX : Er → PyData
  | .big s => .tuple [.str "oversized", .str s]
  | .mal n => .tuple [.str "malformed", .int (n : Nat)]
  | _ => .none
def fineD (d : PyData) : PyData := .tuple [.str "fine", d]
def toldD : Except Er PyData → PyData
  | .error e => encX e
  | .ok d => fineD d
def exMap {α : Type} (f : α → PyData) : Except Er α → Except Er PyData
  | .error e => .error e
  | .ok a => .ok (f a)
def toksD (ts : List Tk) : PyData := .list (ts.map Tk.enc)
def dueD (l : List Nat) : PyData := toldD (exMap toksD (lex l))
/-- an error that the law knows -/
def Kn : Er → Prop
  | .big s => PyData.strOk s = true
  | .mal _ => True
  | _ => False
theorem encX_sok {e : Er} (h : Kn e) : Sok 1 (encX e) := by
  cases e with
  | big s => exact .tup (all_cons (.str (by decide +kernel)) (all_cons (.str h) all_nil))
  | mal n => exact .tup (all_cons (.str (by decide +kernel)) (all_cons .int all_nil))
  | _ => exact h.elim
theorem fine_sok {n : Nat} {d : PyData} (h : Sok n d) : Sok (n + 1) (fineD d) := .tup (all_cons (.str (by decide +kernel)) (all_cons h all_nil))
end Qx


set_option Elab.async false
set_option linter.all false
set_option maxRecDepth 100000
set_option maxHeartbeats 4000000
namespace K14
open PySem PySem.Spec PyProof.Rows L2 He Hz Cm Lx Px Ly Qx
local macro_rules | `(tactic| walk_at "rd") => `(tactic| repeat (first | (refine ⟨_, rfl, ?_⟩) | (refine ⟨_, _, rfl, rfl, ?_⟩) | (refine ⟨rfl, ?_⟩) | (refine ⟨szl (by omega), ?_⟩) | (refine ⟨_, _, _, _, _, rfl, (by assumption), (by assumption), (by assumption), (by rfl), ?_⟩) | (refine ⟨_, _, rfl, Or.inl (by assumption), ?_⟩)))
local macro_rules | `(tactic| walk_at "dp") => `(tactic| (repeat' (first | exact DpAll.nil | apply DpAll.cons | exact Dp.str _ | exact Dp.int _ | exact Dp.non | exact Dp.bl _ | assumption)))
theorem tok1_le {r : List Nat} {n : Nat} {t : Tk} {k : Nat} (h : tok1 r n = some (t, k)) : k ≤ r.length := by
  unfold tok1 at h
  cases r with
  | nil => cases h
  | cons c r =>
    dsimp only at h
    split at h
    · obtain ⟨t', ht, e1⟩ := Option.map_eq_some_iff.mp h
      obtain ⟨-, rfl⟩ := Prod.mk.inj e1
      exact wLen_le _
    · split at h
      · obtain ⟨t', ht, e1⟩ := Option.map_eq_some_iff.mp h
        obtain ⟨-, rfl⟩ := Prod.mk.inj e1
        exact wLen_le _
      · obtain ⟨t', hs, e1⟩ := Option.map_eq_some_iff.mp h
        obtain ⟨-, rfl⟩ := Prod.mk.inj e1
        exact (sgn_len hs).2.2
section
variable {P : Program} {w : World} {K : PySem.W.Frag} {mg : Str → Option Value} {base : Heap} {H H1 H' : Hp} {Q : VK} {E : XK}
def spDue : Sp := fun vs H Q _ => ∃ x : Str, vs = [.str x] ∧ x.length ≤ 400000 ∧ DOut K [] H Q (dueD x.cps.toList)
theorem ok_law_due (T : Tx P K mg) : OkF P w K mg base CX0 4 a__law_due ["text"] (spDue (K := K)) := by
  have nd := sc__law_due.nd
  have F__law_token := ok_law_token (P := P) (w := w) (base := base) T
  refine T.f__law_due.ok (CX := CX0) sc__law_due (fun vs H Q E h => ?_) (fun cdv A outer s H vs Q E hr h => ?_)
  · obtain ⟨x, rfl, _⟩ := h
    rfl
  · obtain ⟨x, rfl, hx0, k⟩ := h
    refine ⟨_, PSs.nox (pss_cons (ps_if (pt_cmpR op_gt (pe_callB call_len_str (by rfl) T.n_len PySem.boot_len (pa_cons (pv 0) pa_nil)) pe_int (nomark _)) (pss_one (ps_ret (pe_tup (pa_cons pe_str (pa_cons pe_str pa_nil))))) pss_nil)
      (pss_cons (ps_set (i := 1) nd rfl (Or.inl rfl) (pe_lst pa_nil))
      (pss_cons (ps_set (i := 2) nd rfl (Or.inl rfl) pe_int)
      (pss_cons (ps_for PassesOwn.never rfl (pi_range1 rfl T.n_range (pa_cons pe_int pa_nil)) (pg_name (i := 3) nd rfl (Or.inl rfl)) (pss_cons (ps_if (pt_cmpR op_ge (pv 2) (pe_callB call_len_str (by rfl) T.n_len PySem.boot_len (pa_cons (pv 0) pa_nil)) (nomark _)) (pss_one ps_break) pss_nil)
      (pss_cons (ps_if (PW.pt (pw_or (pt_cmpR op_eq (pe_ix ix_str (pv 0) (pv 2) (fun _ _ => rfl)) pe_str (nomark _)) (pw_or1 (pt_cmpR op_eq (pe_ix ix_str (pv 0) (pv 2) (fun _ _ => rfl)) pe_str (nomark _))))) (pss_cons (ps_set (i := 2) nd rfl (Or.inl rfl) (pe_op op_add (pv 2) pe_int))
      (pss_one ps_continue)) pss_nil)
      (pss_cons (ps_set (i := 4) nd rfl (Or.inl rfl) (pe_call F__law_token (hr.mono (by decide)) rfl T.g__law_token T.k__law_token T.b__law_token .nil pass0 (pa_cons (pv 0) (pa_cons (pv 2) pa_nil))))
      (pss_cons (ps_if (pt_cmpR op_isN (pv 4) pe_non (nomark _)) (pss_one (ps_ret (pe_tup (pa_cons pe_str (pa_cons (pv 2) pa_nil))))) pss_nil)
      (pss_cons (ps_expr (pe_bm PySem.F.plainAttrs_list PySem.F.slot_list_append PySem.F.type_list_append mt_append (pv 1) (pa_cons (pe_ix ix_tup (pv 4) pe_int (fun _ _ => rfl)) pa_nil)))
      (pss_one (ps_set (i := 2) nd rfl (Or.inl rfl) (pe_ix ix_tup (pv 4) pe_int (fun _ _ => rfl))))))))))
      (pss_one (ps_ret (pe_tup (pa_cons pe_str (pa_cons (pv 1) pa_nil))))))))), ?_⟩
    have e0 : x.cps.toList.length = x.length := rfl
    unfold dueD lex at k
    walk_at "rd"
    refine ⟨(show x.length ≤ sizeLine by rw [sizeLine_eq]; omega), ?_⟩
    walk_at "rd"
    refine iteB (fun h => ?_) (fun h => ?_)
    · have h1 := of_decide_eq_true h
      rw [if_pos (by omega)] at k
      walk_at "rd"
      refine ⟨szl (Nat.le_of_ble_eq_true rfl), fun p hp => ?_⟩
      exact k _ _ (Kp.new hp) (Dp.new (ds := [.str "oversized", .str "text"]) (by walk_at "dp") rfl hp)
    have h1 := of_decide_eq_false h
    have hx : x.length ≤ 6000 := by omega
    rw [if_neg (by omega)] at k
    walk_at "rd"
    refine ⟨Nat.zero_le _, fun p hp => ?_⟩
    walk_at "rd"
    refine ⟨by decide, by decide, for_range (n := 6001) (lo := 0) (fun i σ H' => ∃ (m at_ : Nat) (done : List Tk) (xs : List V) (z3 z4 : Option V), σ = [some (.str x), some (.ref p), some (.int (at_ : Int)), z3, z4] ∧ Kp [] H H' ∧ H' p = some (.lst xs) ∧ DpAll K H' xs (done.map Tk.enc) ∧ done.all (fun t => noL t.enc) = true ∧
      at_ ≤ x.length ∧ done.length ≤ at_ ∧ i ≤ at_ ∧ x.length - at_ ≤ m ∧ lexF x.cps.toList.length x.cps.toList 0 = lexRest m (x.cps.toList.drop at_) at_ done) ⟨x.length, 0, [], [], _, _, rfl, Kp.new hp, upd_same, .nil, rfl, Nat.zero_le _, Nat.le_refl _, Nat.le_refl _, by omega, ?_⟩ ?_ ?_⟩
    · unfold lexRest
      rw [List.drop_zero, e0]
      cases lexF x.length x.cps.toList 0 <;> rfl
    · rintro i σ H' hi ⟨m, at_, done, xs, z3, z4, rfl, k1, hp1, hd1, hn1, ha, hdl, hia, hm, hlex⟩
      have hxs : xs.length = done.length := by rw [DpAll.length hd1, List.length_map]
      walk_at "rd"
      refine iteB (fun h => ?_) (fun h => ?_)
      · have ea : at_ = x.length := by
          have := of_decide_eq_true h
          omega
        subst ea
        have ed : x.cps.toList.drop x.length = [] := by rw [← e0, List.drop_length]
        have el : lexF x.cps.toList.length x.cps.toList 0 = .ok done := by
          rw [hlex, ed]
          unfold lexRest
          cases m <;> simp [lexF]
        rw [el] at k
        walk_at "rd"
        refine ⟨szl (Nat.le_of_ble_eq_true rfl), fun q hq => ?_⟩
        have kq : Kp [] H' (upd H' q (.tup [.str "fine", .ref p])) := Kp.new hq
        exact k _ _ (k1.trans kq) (.tup (SqT.of upd_same) (.cons (.str _) (.cons (.lst (SqL.of (kq.keep _ _ (by simp) hp1)) (Dp.kqs kq _ _ hd1)) .nil)))
      have hlt : at_ < x.cps.toList.length := by
        have := of_decide_eq_false h
        omega
      have ed : x.cps.toList.drop at_ = x.cps.toList[at_] :: x.cps.toList.drop (at_ + 1) := (List.drop_eq_getElem_cons hlt)
      obtain ⟨m, rfl⟩ : ∃ m', m = m' + 1 := ⟨m - 1, by omega⟩
      generalize hc : x.cps.toList[at_] = c at ed
      have hat : atI x.cps.toList (at_ : Int) = some c := by rw [atI_at hlt, hc]
      have blank : (c = 32 ∨ c = 10) → lexF x.cps.toList.length x.cps.toList 0 = lexRest m (x.cps.toList.drop (at_ + 1)) (at_ + 1) done := fun hb => by
        rw [hlex]
        unfold lexRest
        rw [ed]
        have e5 : lexF (m + 1) (c :: x.cps.toList.drop (at_ + 1)) at_ = lexF m (x.cps.toList.drop (at_ + 1)) (at_ + 1) := by
          show (if c = 32 ∨ c = 10 then _ else _) = _
          rw [if_pos hb]
        rw [e5]
      walk_at "rd"
      refine ⟨_, _, _, rfl, rfl, szl (by omega), hat, ?_⟩
      walk_at "rd"
      refine iteB (fun hb => ?_) (fun hb => ?_)
      · have hb' : c = 32 := of_decide_eq_true ((dec_one (z := " ") (d := 32) rfl).symm.trans hb)
        walk_at "rd"
        exact ⟨m, at_ + 1, done, xs, _, _, rfl, k1, hp1, hd1, hn1, by omega, by omega, by omega, by omega, blank (.inl hb')⟩
      have hb' : ¬ c = 32 := of_decide_eq_false ((dec_one (z := " ") (d := 32) rfl).symm.trans hb)
      walk_at "rd"
      refine ⟨_, _, _, rfl, rfl, szl (by omega), hat, ?_⟩
      walk_at "rd"
      refine iteB (fun hb2 => ?_) (fun hb2 => ?_)
      · have hb2' : c = 10 := of_decide_eq_true ((dec_one (z := "\n") (d := 10) rfl).symm.trans hb2)
        walk_at "rd"
        exact ⟨m, at_ + 1, done, xs, _, _, rfl, k1, hp1, hd1, hn1, by omega, by omega, by omega, by omega, blank (.inr hb2')⟩
      have hb2' : ¬ c = 10 := of_decide_eq_false ((dec_one (z := "\n") (d := 10) rfl).symm.trans hb2)
      have hsp : ¬ (c = 32 ∨ c = 10) := fun z => z.elim hb' hb2'
      walk_at "rd"
      refine ⟨x, at_, rfl, by omega, hlt, ?_⟩
      rw [lTok_eq]
      have hlr : lexF x.cps.toList.length x.cps.toList 0 = (match tok1 (x.cps.toList.drop at_) at_ with
        | none => .error at_
        | some (t, j) => lexRest m (x.cps.toList.drop (at_ + j)) (at_ + j) (done ++ [t])) := by
        rw [hlex]
        unfold lexRest
        rw [ed]
        have e5 : lexF (m + 1) (c :: x.cps.toList.drop (at_ + 1)) at_ = (match tok1 (c :: x.cps.toList.drop (at_ + 1)) at_ with
          | none => .error at_
          | some (t, j) => match lexF m ((c :: x.cps.toList.drop (at_ + 1)).drop j) (at_ + j) with
            | .error e => .error e
            | .ok ts => .ok (t :: ts)) := by
          show (if c = 32 ∨ c = 10 then _ else _) = _
          rw [if_neg hsp] <;> rfl
        rw [e5]
        cases tok1 (c :: x.cps.toList.drop (at_ + 1)) at_ with
        | none => rfl
        | some p =>
          obtain ⟨t, j⟩ := p
          dsimp only
          rw [← ed, List.drop_drop]
          cases lexF m (x.cps.toList.drop (at_ + j)) (at_ + j) with
          | error e => rfl
          | ok ts => simp
      have hle : ∀ t j, tok1 (x.cps.toList.drop at_) at_ = some (t, j) → 1 ≤ j ∧ at_ + j ≤ x.length ∧ noL t.enc = true := fun t j htk => by
        obtain ⟨n1, n2⟩ := tk_noL htk
        have n3 := tok1_le htk
        rw [List.length_drop] at n3
        exact ⟨n2, by omega, n1⟩
      cases htk : tok1 (x.cps.toList.drop at_) at_ with
      | none =>
        rw [htk] at hlr
        rw [hlr] at k
        intro H2 k2
        walk_at "rd"
        refine ⟨szl (Nat.le_of_ble_eq_true rfl), fun q hq => ?_⟩
        exact k _ _ ((k1.trans k2).trans (Kp.new hq)) (Dp.new (ds := [.str "malformed", .int (at_ : Nat)]) (by walk_at "dp") rfl hq)
      | some pr =>
        obtain ⟨t, j⟩ := pr
        obtain ⟨j1, j2, nt⟩ := hle t j htk
        rw [htk] at hlr
        dsimp only at hlr
        intro v H2 k2 hv
        obtain ⟨q, us, rfl, hsq, hall⟩ := Dp.tupOf (ds := [t.enc, .int (at_ + j : Nat)]) hv
        obtain ⟨v0, hv0, hz0⟩ := DpAll.get hall (i := 0) (d := t.enc) rfl
        obtain ⟨v1, hv1, hz1⟩ := DpAll.get hall (i := 1) (d := .int (at_ + j : Nat)) rfl
        obtain rfl := Dp.intOf hz1
        walk_at "rd"
        have hp2 := k2.keep _ _ (by simp) hp1
        refine ⟨.inl ⟨rfl, _, SqL.of hp2⟩, ?_⟩
        walk_at "rd"
        refine ⟨_, _, _, _, rfl, rfl, hsq, atI_nat (j := 0) hv0, ?_⟩
        refine ⟨_, _, _, rfl, rfl, hp2, szt (by omega), ?_⟩
        have kk : Kp [p] H2 (upd H2 p (.lst (xs ++ [v0]))) := Kp.put hp2 nt_lst (by simp)
        walk_at "rd"
        refine ⟨_, _, _, _, rfl, rfl, kk.sqt hsq, atI_nat (j := 1) hv1, ?_⟩
        walk_at "rd"
        refine ⟨m, at_ + j, done ++ [t], xs ++ [v0], _, _, rfl, (k1.trans k2).mine hp, upd_same, ?_, ?_, j2, ?_, by omega, by omega, hlr⟩
        · rw [List.map_append]
          exact DpAll.snoc (Dp.kps kk _ _ (noLs_map hn1) (Dp.kps k2 _ _ (noLs_map hn1) hd1)) (Dp.kp kk _ _ nt hz0)
        · rw [List.all_append, hn1]
          simp [nt]
        · rw [List.length_append, List.length_singleton]
          omega
    · rintro σ H' ⟨m, at_, done, xs, z3, z4, rfl, k1, hp1, hd1, hn1, ha, hdl, hia, hm, hlex⟩
      omega
end
end K14


set_option Elab.async false
set_option linter.all false
set_option maxRecDepth 100000
set_option maxHeartbeats 4000000
namespace K14
open PySem PySem.Spec PyProof.Rows L2 He Hz Cm Lx Px Ly Qx
local macro_rules | `(tactic| walk_at "rd") => `(tactic| repeat (first | (refine ⟨_, rfl, ?_⟩) | (refine ⟨_, _, rfl, rfl, ?_⟩) | (refine ⟨rfl, ?_⟩) | (refine ⟨szl (by omega), ?_⟩) | (refine ⟨_, _, _, _, _, rfl, (by assumption), (by assumption), (by assumption), (by rfl), ?_⟩) | (refine ⟨_, _, rfl, Or.inl (by assumption), ?_⟩)))
local macro_rules | `(tactic| walk_at "dp") => `(tactic| (repeat' (first | exact DpAll.nil | apply DpAll.cons | exact Dp.str _ | exact Dp.int _ | exact Dp.non | exact Dp.bl _ | assumption)))
section
variable {P : Program} {w : World} {K : PySem.W.Frag} {mg : Str → Option Value} {base : Heap} {H H1 H' : Hp} {Q : VK} {E : XK}
/-- the defs that _law_told calls -/
def SFn (f : Addr) (sp : Sp) : Prop := (f = fAd K a_tokens ∧ sp = spToks (K := K)) ∨ (f = fAd K a_parse ∧ sp = spParse (K := K)) ∨ (f = fAd K a_parse_function ∧ sp = spPF (K := K)) ∨ (f = fAd K a_program_of ∧ sp = spProg (K := K))
theorem sfn_ok (T : Tx P K mg) : ∀ f sp, SFn (K := K) f sp → ∃ (fd : FuncData) (ps : List Str), FnOk P w K mg base (L2.CX P w) 40 f fd ps sp ∧ PySem.W.keepIn K (.ref f) = true ∧ Binds K fd ps [] := by
  rintro f sp (⟨rfl, rfl⟩ | ⟨rfl, rfl⟩ | ⟨rfl, rfl⟩ | ⟨rfl, rfl⟩)
  · exact ⟨_, _, (ok_tokens (w := w) (base := base) T).mono (by decide), T.k_tokens, T.b_tokens⟩
  · exact ⟨_, _, (ok_parse (w := w) (base := base) T).mono (by decide), T.k_parse, T.b_parse⟩
  · exact ⟨_, _, (ok_parse_function (w := w) (base := base) T).mono (by decide), T.k_parse_function, T.b_parse_function⟩
  · exact ⟨_, _, (ok_program_of (w := w) (base := base) T).mono (by decide), T.k_program_of, T.b_program_of⟩
def TdOut (K : PySem.W.Frag) (H : Hp) (Q : VK) : Except Er PyData → Prop
  | .error e => Kn e ∧ DOut K [] H Q (encX e)
  | .ok d => DOut K [] H Q (fineD d)
def itmsD (l : List Itm) : PyData := .list (l.map Itm.enc)
/-- what the def at f tells of x -/
inductive Says (K : PySem.W.Frag) (x : Str) : Addr → Except Er PyData → Prop
  | tok : Says K x (fAd K a_tokens) (exMap toksD (lex x.cps.toList))
  | prs {fu : Nat} {r : Except Er (List Itm)} (hf : fu ≤ 90000) (h : prs fu x = some r) : Says K x (fAd K a_parse) (exMap itmsD r)
  | pfn {fu : Nat} {r : Except Er Fd} (hf : fu ≤ 90000) (h : pfn fu x = some r) : Says K x (fAd K a_parse_function) (exMap Fd.enc r)
  | prg {fu : Nat} {e : Er} (hf : fu ≤ 90000) (h : K14.prs fu x = some (.error e)) : Says K x (fAd K a_program_of) (.error e)
def spTold : Sp := fun vs H Q _ => ∃ f x res, vs = [.ref f, .str x] ∧ x.length ≤ 400000 ∧ Says K x f res ∧ TdOut K H Q res
theorem ok_law_told (T : Tx P K mg) : OkF P w K mg base CX0 41 a__law_told ["call", "text"] (spTold (K := K)) := by
  have nd := sc__law_told.nd
  have FV := sfn_ok (w := w) (base := base) T
  refine T.f__law_told.ok (CX := CX0) sc__law_told (fun vs H Q E h => ?_) (fun cdv A outer s H vs Q E hr h => ?_)
  · obtain ⟨_, _, _, rfl, _⟩ := h
    rfl
  · obtain ⟨f, x, res, rfl, hx, hs, k⟩ := h
    refine ⟨_, PSs.nox (pss_one (Tm.ps_tryAs2 (i := 2) (j := 2) (Wout := fun _ _ _ _ => False) rfl rfl nd ⟨rfl, by decide, Or.inl T.g_Oversized⟩ rfl rfl ⟨rfl, by decide, Or.inl T.g_Malformed⟩ rfl rfl takes0 (fun W pn xe tk _ => (pss_one (ps_ret (pe_tup (pa_cons pe_str (pa_cons (by exact (Tm.pe_callV (i := 0) (n := 40) (S := SFn (K := K)) FV (hr.mono (by decide)) rfl (by first | exact Or.inl rfl | exact Or.inr (Or.inl rfl)) (fun σ => passAt tk σ) (pa_cons (pv 1) pa_nil))) pa_nil)))))) (fun a oe cls d pn hz hf => (pss_one (ps_ret (pe_tup (pa_cons pe_str (pa_cons (by exact (pe_xf T.xf_Oversized T.x_Oversized.noN hz hf (pv 2))) pa_nil)))))) (fun a oe cls d pn hz hf => (pss_one (ps_ret (pe_tup (pa_cons pe_str (pa_cons (by exact (pe_xf T.xf_Malformed T.x_Malformed.noN hz hf (pv 2))) pa_nil)))))))), ?_⟩
    walk_at "rd"
    cases hs with
    | tok =>
      refine ⟨_, _, rfl, .inl ⟨rfl, rfl⟩, ?_⟩
      walk_at "rd"
      refine ⟨hx, ?_⟩
      cases hl : lex x.cps.toList with
      | error er =>
        rw [hl] at k
        have k : Kn er ∧ DOut K [] H Q (encX er) := k
        intro d H' kk hd
        cases er with
        | big z =>
          refine ⟨true, T.xm_Oversized_Oversized, fun _ a ha => ?_, fun q => Bool.noConfusion q⟩
          walk_at "rd"
          refine ⟨d, _, _, rfl, hd, rfl, ?_⟩
          refine ⟨szl (Nat.le_of_ble_eq_true rfl), fun p hp => ?_⟩
          exact k.2 _ _ (kk.trans (Kp.new hp)) (Dp.new (ds := [.str "oversized", .str z]) (by walk_at "dp") rfl hp)
        | mal z =>
          refine ⟨false, T.xm_Malformed_Oversized, fun q => Bool.noConfusion q, fun _ => ⟨true, T.xm_Malformed_Malformed, fun _ a ha => ?_, fun q => Bool.noConfusion q⟩⟩
          walk_at "rd"
          refine ⟨d, _, _, rfl, hd, rfl, ?_⟩
          refine ⟨szl (Nat.le_of_ble_eq_true rfl), fun p hp => ?_⟩
          exact k.2 _ _ (kk.trans (Kp.new hp)) (Dp.new (ds := [.str "malformed", .int (z : Nat)]) (by walk_at "dp") rfl hp)
        | unk z => exact k.1.elim
        | cla z => exact k.1.elim
        | mis z => exact k.1.elim
      | ok ts =>
        rw [hl] at k
        have k : DOut K [] H Q (fineD (toksD ts)) := k
        intro p xs H' hp kk hpx hd
        generalize hv : V.ref p = v
        have dv : Dp K H' v (toksD ts) := by rw [← hv]; exact .lst (SqL.of hpx) hd
        walk_at "rd"
        refine ⟨szl (Nat.le_of_ble_eq_true rfl), fun t ht => ?_⟩
        have kt : Kp [] H' (upd H' t (.tup [.str "fine", v])) := Kp.new ht
        exact k _ _ (kk.trans kt) (.tup (SqT.of upd_same) (.cons (.str _) (.cons (Dp.kq kt _ _ dv) .nil)))
    | @prs fu r hf h =>
      refine ⟨_, _, rfl, .inr (.inl ⟨rfl, rfl⟩), ?_⟩
      walk_at "rd"
      refine ⟨x, fu, r, rfl, hx, hf, h, ?_⟩
      cases r with
      | error er =>
        have k : Kn er ∧ DOut K [] H Q (encX er) := k
        intro d H' kk hd
        cases er with
        | big z =>
          refine ⟨true, T.xm_Oversized_Oversized, fun _ a ha => ?_, fun q => Bool.noConfusion q⟩
          walk_at "rd"
          refine ⟨d, _, _, rfl, hd, rfl, ?_⟩
          refine ⟨szl (Nat.le_of_ble_eq_true rfl), fun p hp => ?_⟩
          exact k.2 _ _ (kk.trans (Kp.new hp)) (Dp.new (ds := [.str "oversized", .str z]) (by walk_at "dp") rfl hp)
        | mal z =>
          refine ⟨false, T.xm_Malformed_Oversized, fun q => Bool.noConfusion q, fun _ => ⟨true, T.xm_Malformed_Malformed, fun _ a ha => ?_, fun q => Bool.noConfusion q⟩⟩
          walk_at "rd"
          refine ⟨d, _, _, rfl, hd, rfl, ?_⟩
          refine ⟨szl (Nat.le_of_ble_eq_true rfl), fun p hp => ?_⟩
          exact k.2 _ _ (kk.trans (Kp.new hp)) (Dp.new (ds := [.str "malformed", .int (z : Nat)]) (by walk_at "dp") rfl hp)
        | unk z => exact k.1.elim
        | cla z => exact k.1.elim
        | mis z => exact k.1.elim
      | ok its =>
        have k : DOut K [] H Q (fineD (itmsD its)) := k
        intro p xs H' hp kk hpx hd
        generalize hv : V.ref p = v
        have dv : Dp K H' v (itmsD its) := by rw [← hv]; exact .lst (SqL.of hpx) hd
        walk_at "rd"
        refine ⟨szl (Nat.le_of_ble_eq_true rfl), fun t ht => ?_⟩
        have kt : Kp [] H' (upd H' t (.tup [.str "fine", v])) := Kp.new ht
        exact k _ _ (kk.trans kt) (.tup (SqT.of upd_same) (.cons (.str _) (.cons (Dp.kq kt _ _ dv) .nil)))
    | @pfn fu r hf h =>
      refine ⟨_, _, rfl, .inr (.inr (.inl ⟨rfl, rfl⟩)), ?_⟩
      walk_at "rd"
      refine ⟨x, fu, r, rfl, hx, hf, h, ?_⟩
      cases r with
      | error er =>
        have k : Kn er ∧ DOut K [] H Q (encX er) := k
        intro d H' kk hd
        cases er with
        | big z =>
          refine ⟨true, T.xm_Oversized_Oversized, fun _ a ha => ?_, fun q => Bool.noConfusion q⟩
          walk_at "rd"
          refine ⟨d, _, _, rfl, hd, rfl, ?_⟩
          refine ⟨szl (Nat.le_of_ble_eq_true rfl), fun p hp => ?_⟩
          exact k.2 _ _ (kk.trans (Kp.new hp)) (Dp.new (ds := [.str "oversized", .str z]) (by walk_at "dp") rfl hp)
        | mal z =>
          refine ⟨false, T.xm_Malformed_Oversized, fun q => Bool.noConfusion q, fun _ => ⟨true, T.xm_Malformed_Malformed, fun _ a ha => ?_, fun q => Bool.noConfusion q⟩⟩
          walk_at "rd"
          refine ⟨d, _, _, rfl, hd, rfl, ?_⟩
          refine ⟨szl (Nat.le_of_ble_eq_true rfl), fun p hp => ?_⟩
          exact k.2 _ _ (kk.trans (Kp.new hp)) (Dp.new (ds := [.str "malformed", .int (z : Nat)]) (by walk_at "dp") rfl hp)
        | unk z => exact k.1.elim
        | cla z => exact k.1.elim
        | mis z => exact k.1.elim
      | ok g =>
        have k : DOut K [] H Q (fineD g.enc) := k
        intro v H' kk dv
        walk_at "rd"
        refine ⟨szl (Nat.le_of_ble_eq_true rfl), fun t ht => ?_⟩
        have kt : Kp [] H' (upd H' t (.tup [.str "fine", v])) := Kp.new ht
        exact k _ _ (kk.trans kt) (.tup (SqT.of upd_same) (.cons (.str _) (.cons (Dp.kq kt _ _ dv) .nil)))
    | @prg fu er hf h =>
      have k : Kn er ∧ DOut K [] H Q (encX er) := k
      refine ⟨_, _, rfl, .inr (.inr (.inr ⟨rfl, rfl⟩)), ?_⟩
      walk_at "rd"
      refine ⟨x, fu, er, rfl, hx, hf, h, ?_⟩
      intro d H' kk hd
      cases er with
      | big z =>
        refine ⟨true, T.xm_Oversized_Oversized, fun _ a ha => ?_, fun q => Bool.noConfusion q⟩
        walk_at "rd"
        refine ⟨d, _, _, rfl, hd, rfl, ?_⟩
        refine ⟨szl (Nat.le_of_ble_eq_true rfl), fun p hp => ?_⟩
        exact k.2 _ _ (kk.trans (Kp.new hp)) (Dp.new (ds := [.str "oversized", .str z]) (by walk_at "dp") rfl hp)
      | mal z =>
        refine ⟨false, T.xm_Malformed_Oversized, fun q => Bool.noConfusion q, fun _ => ⟨true, T.xm_Malformed_Malformed, fun _ a ha => ?_, fun q => Bool.noConfusion q⟩⟩
        walk_at "rd"
        refine ⟨d, _, _, rfl, hd, rfl, ?_⟩
        refine ⟨szl (Nat.le_of_ble_eq_true rfl), fun p hp => ?_⟩
        exact k.2 _ _ (kk.trans (Kp.new hp)) (Dp.new (ds := [.str "malformed", .int (z : Nat)]) (by walk_at "dp") rfl hp)
      | unk z => exact k.1.elim
      | cla z => exact k.1.elim
      | mis z => exact k.1.elim
theorem due_sok (l : List Nat) : Sok 3 (dueD l) := by
  unfold dueD
  cases hl : lex l with
  | error e =>
    refine (encX_sok ?_).mono (by decide)
    unfold lex at hl
    split at hl
    · cases hl
      show PyData.strOk "text" = true
      decide +kernel
    · split at hl <;> cases hl
      trivial
  | ok ts =>
    refine fine_sok (.lst fun d m => ?_)
    obtain ⟨t, ht, rfl⟩ := List.mem_map.mp m
    have h1 := (lex_ok hl).1 t ht
    have h2 := lex_dep hl t ht
    have h3 := h1.sh
    unfold SeqAt.shaped at h3
    have h4 : PyData.canLay0 (.tuple [.str t.kind, t.val]) = true := (Bool.and_eq_true_iff.mp h3).1
    have h5 : (PyData.canLay0 (.str t.kind) && (t.val.canLay0 && true)) = true := h4
    obtain ⟨h6, h7⟩ := Bool.and_eq_true_iff.mp h5
    rw [Bool.and_true] at h7
    exact .tup (all_cons ⟨h6, Nat.zero_le _⟩ (all_cons ⟨h7, by omega⟩ (all_cons .int all_nil)))
theorem kn_lex {l : List Nat} {e : Er} (h : lex l = .error e) : Kn e := by
  unfold lex at h
  split at h
  · cases h
    show PyData.strOk "text" = true
    decide +kernel
  · split at h <;> cases h
    trivial
theorem kn_tup {e : Er} (h : Kn e) : ∃ s0 d1, encX e = .tuple [.str s0, d1] ∧ s0 ≠ "fine" := by
  cases e with
  | big s => exact ⟨_, _, rfl, by decide +kernel⟩
  | mal n => exact ⟨_, _, rfl, by decide +kernel⟩
  | _ => exact h.elim
def spTR : Sp := fun vs H Q _ => ∃ x : Str, vs = [.str x] ∧ x.length ≤ 400000 ∧ ∀ H', Kp [] H H' → Q (.bl true) H'
theorem ok_law_text_right (T : Tx P K mg) : OkF P w K mg base CX0 42 a__law_text_right ["text"] spTR := by
  have nd := sc__law_text_right.nd
  have F__law_due := ok_law_due (P := P) (w := w) (base := base) T
  have F__law_told := ok_law_told (P := P) (w := w) (base := base) T
  refine T.f__law_text_right.ok (CX := CX0) sc__law_text_right (fun vs H Q E h => ?_) (fun cdv A outer s H vs Q E hr h => ?_)
  · obtain ⟨_, rfl, _⟩ := h
    rfl
  · obtain ⟨x, rfl, hx, k⟩ := h
    refine ⟨_, PSs.nox (pss_cons (ps_set (i := 1) nd rfl (Or.inl rfl) (pe_call F__law_due (hr.mono (by decide)) rfl T.g__law_due T.k__law_due T.b__law_due .nil pass0 (pa_cons (pv 0) pa_nil)))
      (pss_cons (ps_if (pt_cmpR (op_neD hr.units) (pe_call F__law_told (hr.mono (by decide)) rfl T.g__law_told T.k__law_told T.b__law_told .nil pass0 (pa_cons (pe_gref T.g_tokens) (pa_cons (pv 0) pa_nil))) (pv 1) (nomark _)) (pss_one (ps_ret pe_bl)) pss_nil)
      (pss_cons (ps_if (pt_cmpR op_eq (pe_ix ix_tup (pv 1) pe_int (fun _ _ => rfl)) pe_str (nomark _)) (pss_one (ps_ret pe_bl)) pss_nil)
      (pss_cons (ps_for PassesOwn.never rfl (pi_list (pe_lst (pa_cons (pe_gref T.g_parse) (pa_cons (pe_gref T.g_parse_function) (pa_cons (pe_gref T.g_program_of) pa_nil))))) (pg_name (i := 2) nd rfl (Or.inl rfl)) (pss_one (ps_if (pt_cmpR (op_neD hr.units) (pe_call F__law_told (hr.mono (by decide)) rfl T.g__law_told T.k__law_told T.b__law_told .nil pass0 (pa_cons (pv 2) (pa_cons (pv 0) pa_nil))) (pv 1) (nomark _)) (pss_one (ps_ret pe_bl)) pss_nil)))
      (pss_one (ps_ret pe_bl)))))), ?_⟩
    have hsok := due_sok x.cps.toList
    have hsh := hsok.shaped (by decide)
    have hrf := hsok.refl
    walk_at "rd"
    refine ⟨hx, fun v H1 k1 hv => ?_⟩
    walk_at "rd"
    refine ⟨_, x, _, rfl, hx, .tok, ?_⟩
    have step : ∀ u H2, Kp [] H1 H2 → Dp K H2 u (dueD x.cps.toList) → True := fun _ _ _ _ => trivial
    cases hl : lex x.cps.toList with
    | error er =>
      have hd : dueD x.cps.toList = encX er := by
        unfold dueD
        rw [hl]
        rfl
      rw [hd] at hv hsh hrf
      refine ⟨kn_lex hl, fun u H2 k2 hu => ?_⟩
      have hv2 := Dp.kq k2 _ _ hv
      walk_at "rd"
      refine ⟨_, _, hu, hv2, hsh, hsh, ?_⟩
      rw [hrf]
      walk_at "rd"
      obtain ⟨s0, d1, hs0, hne⟩ := kn_tup (kn_lex hl)
      have hv3 := hv2
      rw [hs0] at hv3
      obtain ⟨q, us, hvq, hsq, hall⟩ := Dp.tupOf hv3
      obtain ⟨v0, hv0, hz0⟩ := DpAll.get hall (i := 0) (d := .str s0) rfl
      obtain rfl := Dp.strOf hz0
      refine ⟨_, _, _, _, hvq, rfl, hsq, atI_nat (j := 0) hv0, ?_⟩
      walk_at "rd"
      refine iteB (fun h => absurd (V.str.inj (of_decide_eq_true h)) hne) (fun _ => ?_)
      walk_at "rd"
      refine ⟨szl (Nat.le_of_ble_eq_true rfl), fun p hp => ?_⟩
      have k3 : Kp [] H (upd H2 p (.lst [.ref (ga K "parse"), .ref (ga K "parse_function"), .ref (ga K "program_of")])) := (k1.trans k2).trans (Kp.new hp)
      have hv4 : Dp K (upd H2 p (.lst [.ref (ga K "parse"), .ref (ga K "parse_function"), .ref (ga K "program_of")])) v (encX er) := Dp.kq (Kp.new hp) _ _ hv2
      have hp3 : (upd H2 p (.lst [.ref (ga K "parse"), .ref (ga K "parse_function"), .ref (ga K "program_of")])) p = some (.lst [.ref (ga K "parse"), .ref (ga K "parse_function"), .ref (ga K "program_of")]) := upd_same
      generalize upd H2 p (HO.lst [V.ref (ga K "parse"), V.ref (ga K "parse_function"), V.ref (ga K "program_of")]) = H3 at k3 hv4 hp3
      have says : ∀ (i : Nat) (y : V), ([.ref (ga K "parse"), .ref (ga K "parse_function"), .ref (ga K "program_of")] : List V)[i]? = some y → ∃ f, y = .ref f ∧ Says K x f (.error er) := fun i y hy => by
        match i, hy with
        | 0, hy => exact ⟨fAd K a_parse, (Option.some.inj hy).symm, .prs (fu := 0) (r := .error er) (by decide) (by unfold prs; rw [hl])⟩
        | 1, hy => exact ⟨fAd K a_parse_function, (Option.some.inj hy).symm, .pfn (fu := 0) (r := .error er) (by decide) (by unfold pfn; rw [hl])⟩
        | 2, hy => exact ⟨fAd K a_program_of, (Option.some.inj hy).symm, .prg (fu := 0) (by decide) (by unfold prs; rw [hl])⟩
        | i + 3, hy => cases hy
      refine ⟨_, rfl, ⟨_, SqL.of hp3⟩, for_list (xs := [V.ref (ga K "parse"), .ref (ga K "parse_function"), .ref (ga K "program_of")]) (fun i σ H' => ∃ z, σ = [some (.str x), some v, z] ∧ Kp [] H3 H') ⟨_, rfl, Kp.refl⟩ ?_ ?_ ?_⟩
      · rintro i σ H' _ ⟨z, rfl, k5⟩
        exact SqL.of (k5.keep _ _ (by simp) hp3)
      · rintro i y σ H' hy ⟨z, rfl, k5⟩
        obtain ⟨f, rfl, hsay⟩ := says i y hy
        walk_at "rd"
        refine ⟨f, x, _, rfl, hx, hsay, kn_lex hl, fun u6 H6 k6 hu6 => ?_⟩
        have hv6 := Dp.kq (k5.trans k6) _ _ hv4
        walk_at "rd"
        refine ⟨_, _, hu6, hv6, hsh, hsh, ?_⟩
        rw [hrf]
        walk_at "rd"
        exact k5.trans k6
      · rintro σ H' ⟨z, rfl, k5⟩
        walk_at "rd"
        exact k _ (k3.trans k5)
    | ok ts =>
      have hd : dueD x.cps.toList = fineD (toksD ts) := by
        unfold dueD
        rw [hl]
        rfl
      rw [hd] at hv hsh hrf
      refine fun u H2 k2 hu => ?_
      have hv2 := Dp.kq k2 _ _ hv
      walk_at "rd"
      refine ⟨_, _, hu, hv2, hsh, hsh, ?_⟩
      rw [hrf]
      walk_at "rd"
      obtain ⟨q, us, rfl, hsq, hall⟩ := Dp.tupOf (ds := [.str "fine", toksD ts]) hv2
      obtain ⟨v0, hv0, hz0⟩ := DpAll.get hall (i := 0) (d := .str "fine") rfl
      obtain rfl := Dp.strOf hz0
      refine ⟨_, _, _, _, rfl, rfl, hsq, atI_nat (j := 0) hv0, ?_⟩
      walk_at "rd"
      exact k _ (k1.trans k2)
end
end K14


set_option Elab.async false
set_option linter.all false
set_option maxRecDepth 100000
set_option maxHeartbeats 4000000
/-! plain: the nested texts are read -/
namespace Nx
open PySem Lx Px TL
theorem tok1_pos {l : List Nat} {n : Nat} {t : Tk} {k : Nat} (h : tok1 l n = some (t, k)) : 1 ≤ k := (K14.tk_noL h).2
theorem lexF_same : ∀ (a b : Nat) (l : List Nat) (n : Nat), l.length ≤ a → l.length ≤ b → lexF a l n = lexF b l n
  | 0, 0, l, n, _, _ => rfl
  | 0, b + 1, [], n, _, _ => rfl
  | 0, b + 1, c :: r, n, h, _ => by cases h
  | a + 1, 0, [], n, _, _ => rfl
  | a + 1, 0, c :: r, n, _, h => by cases h
  | a + 1, b + 1, [], n, _, _ => rfl
  | a + 1, b + 1, c :: r, n, h1, h2 => by
    rw [List.length_cons] at h1 h2
    rw [lexF, lexF, lexF_same a b r (n + 1) (by omega) (by omega)]
    split
    · rfl
    · cases ht : tok1 (c :: r) n with
      | none => rfl
      | some z =>
        obtain ⟨t, k⟩ := z
        have hk := tok1_pos ht
        dsimp only
        rw [lexF_same a b ((c :: r).drop k) (n + k) (by rw [List.length_drop, List.length_cons]; omega) (by rw [List.length_drop, List.length_cons]; omega)]
def lexA (l : List Nat) (n : Nat) : Except Nat (List Tk) := lexF l.length l n
def cat (ts : List Tk) : Except Nat (List Tk) → Except Nat (List Tk)
  | .error e => .error e
  | .ok l => .ok (ts ++ l)
theorem cat_nil : ∀ x, cat [] x = x
  | .error e => rfl
  | .ok l => rfl
theorem cat_cat (a b : List Tk) : ∀ x, cat a (cat b x) = cat (a ++ b) x
  | .error e => rfl
  | .ok l => by
    show Except.ok (a ++ (b ++ l)) = .ok (a ++ b ++ l)
    rw [List.append_assoc]
/-- the signs l are the tokens ts, whatever comes behind -/
def LX (l : List Nat) (ts : Nat → List Tk) : Prop := ∀ r n, lexA (l ++ r) n = cat (ts n) (lexA r (n + l.length))
theorem LX.app {a b : List Nat} {ta tb : Nat → List Tk} (ha : LX a ta) (hb : LX b tb) : LX (a ++ b) fun n => ta n ++ tb (n + a.length) := fun r n => by
  rw [List.append_assoc, ha, hb, cat_cat, List.length_append, Nat.add_assoc]
theorem LX.blank : LX [32] fun _ => [] := fun r n => (cat_nil _).symm
theorem lexA_tok {c : Nat} {r : List Nat} {n k : Nat} {t : Tk} (hb : ¬ (c = 32 ∨ c = 10)) (ht : tok1 (c :: r) n = some (t, k)) : lexA (c :: r) n = cat [t] (lexA ((c :: r).drop k) (n + k)) := by
  show lexF (r.length + 1) (c :: r) n = _
  rw [lexF, if_neg hb, ht]
  dsimp only
  have hk := tok1_pos ht
  rw [lexF_same r.length ((c :: r).drop k).length ((c :: r).drop k) (n + k) (by rw [List.length_drop, List.length_cons]; omega) (Nat.le_refl _)]
  unfold lexA
  cases lexF ((c :: r).drop k).length ((c :: r).drop k) (n + k) <;> rfl
theorem LX.tok {c : Nat} {l : List Nat} {t : Nat → Tk} {k : Nat} (hb : ¬ (c = 32 ∨ c = 10)) (hk : k = (c :: l).length) (ht : ∀ r n, tok1 (c :: (l ++ r)) n = some (t n, k)) : LX (c :: l) fun n => [t n] := fun r n => by
  show lexA (c :: (l ++ r)) n = _
  rw [lexA_tok hb (ht r n), hk]
  have e : (c :: (l ++ r)).drop (c :: l).length = r := List.drop_left (l₁ := c :: l) (l₂ := r)
  rw [e]
/-- a token with a blank behind it -/
theorem LX.tokb {c : Nat} {l : List Nat} {t : Nat → Tk} {k : Nat} (hb : ¬ (c = 32 ∨ c = 10)) (hk : k = (c :: l).length) (ht : ∀ r n, tok1 (c :: (l ++ 32 :: r)) n = some (t n, k)) : LX (c :: l ++ [32]) fun n => [t n] := fun r n => by
  have e0 : c :: l ++ [32] ++ r = c :: (l ++ 32 :: r) := by simp
  rw [e0, lexA_tok hb (ht r n), hk]
  have e : (c :: (l ++ 32 :: r)).drop (c :: l).length = 32 :: r := List.drop_left (l₁ := c :: l) (l₂ := 32 :: r)
  rw [e]
  show cat _ (lexA r (n + (c :: l).length + 1)) = _
  rw [List.length_append]
  rfl
/-- a token with another sign behind it -/
theorem LX.tok2 {c d : Nat} {l : List Nat} {t u : Nat → Tk} {k : Nat} (hb : ¬ (c = 32 ∨ c = 10)) (hd : ¬ (d = 32 ∨ d = 10)) (hk : k = (c :: l).length) (ht : ∀ r n, tok1 (c :: (l ++ d :: r)) n = some (t n, k)) (hu : ∀ r n, tok1 (d :: r) n = some (u n, 1)) : LX (c :: l ++ [d]) fun n => [t n, u (n + (c :: l).length)] := fun r n => by
  have e0 : c :: l ++ [d] ++ r = c :: (l ++ d :: r) := by simp
  rw [e0, lexA_tok hb (ht r n), hk]
  have e : (c :: (l ++ d :: r)).drop (c :: l).length = d :: r := List.drop_left (l₁ := c :: l) (l₂ := d :: r)
  rw [e, lexA_tok hd (hu r _), cat_cat, List.length_append]
  rfl
def rv (x : Str) (n : Nat) : Tk := ⟨"reserved", .str x, n⟩
def nm (x : Str) (n : Nat) : Tk := ⟨"name", .str x, n⟩
def sg (x : Str) (n : Nat) : Tk := ⟨"sign", .str x, n⟩
def nu (x : Nat) (n : Nat) : Tk := ⟨"number", .int (x : Nat), n⟩
theorem s_open : LX [123] fun n => [sg "{" n] := LX.tok (k := 1) (by decide) rfl fun r n => by kernel_rfl
theorem s_close : LX [125] fun n => [sg "}" n] := LX.tok (k := 1) (by decide) rfl fun r n => by kernel_rfl
theorem s_semi : LX [59] fun n => [sg ";" n] := LX.tok (k := 1) (by decide) rfl fun r n => by kernel_rfl
theorem s_par : LX [40] fun n => [sg "(" n] := LX.tok (k := 1) (by decide) rfl fun r n => by kernel_rfl
theorem w_if : LX [105, 102, 32] fun n => [rv "if" n] := LX.tokb (l := [102]) (k := 2) (by decide) rfl fun r n => by kernel_rfl
theorem w_while : LX [119, 104, 105, 108, 101, 32] fun n => [rv "while" n] := LX.tokb (l := [104, 105, 108, 101]) (k := 5) (by decide) rfl fun r n => by kernel_rfl
theorem w_else : LX [101, 108, 115, 101, 32] fun n => [rv "else" n] := LX.tokb (l := [108, 115, 101]) (k := 4) (by decide) rfl fun r n => by kernel_rfl
theorem w_nil : LX [110, 105, 108, 32] fun n => [rv "nil" n] := LX.tokb (l := [105, 108]) (k := 3) (by decide) rfl fun r n => by kernel_rfl
theorem w_fn : LX [102, 110, 32] fun n => [rv "fn" n] := LX.tokb (l := [110]) (k := 2) (by decide) rfl fun r n => by kernel_rfl
theorem w_out : LX [111, 117, 116, 32] fun n => [rv "out" n] := LX.tokb (l := [117, 116]) (k := 3) (by decide) rfl fun r n => by kernel_rfl
theorem w_p : LX [112, 32] fun n => [nm "p" n] := LX.tokb (l := []) (k := 1) (by decide) rfl fun r n => by kernel_rfl
theorem w_eq : LX [61, 61, 32] fun n => [sg "==" n] := LX.tokb (l := [61]) (k := 2) (by decide) rfl fun r n => by kernel_rfl
theorem w_3 : LX [51, 32] fun n => [nu 3 n] := LX.tokb (l := []) (k := 1) (by decide) rfl fun r n => by kernel_rfl
theorem w_ps : LX [112, 59] fun n => [nm "p" n, sg ";" (n + 1)] := LX.tok2 (c := 112) (d := 59) (l := []) (t := fun n => nm "p" n) (u := fun n => sg ";" n) (k := 1) (by decide) (by decide) rfl (fun r n => by kernel_rfl) (fun r n => by kernel_rfl)
theorem w_pc : LX [112, 41] fun n => [nm "p" n, sg ")" (n + 1)] := LX.tok2 (c := 112) (d := 41) (l := []) (t := fun n => nm "p" n) (u := fun n => sg ")" n) (k := 1) (by decide) (by decide) rfl (fun r n => by kernel_rfl) (fun r n => by kernel_rfl)
theorem w_fo : LX [102, 40] fun n => [nm "f" n, sg "(" (n + 1)] := LX.tok2 (c := 102) (d := 40) (l := []) (t := fun n => nm "f" n) (u := fun n => sg "(" n) (k := 1) (by decide) (by decide) rfl (fun r n => by kernel_rfl) (fun r n => by kernel_rfl)
end Nx


set_option Elab.async false
set_option linter.all false
set_option maxRecDepth 100000
set_option maxHeartbeats 4000000
/-! plain: the nested texts, their tokens, what the parser makes of them -/
namespace Nx
open PySem Lx Px TL
def opT : Nat → Str
  | 0 => " if p {"
  | 1 => " while p {"
  | 2 => " if p == 3 { } else {"
  | _ => " while p == nil {"
/-- what ahead of the last bracket stands -/
def opI : Nat → List Nat
  | 0 => [32] ++ ([105, 102, 32] ++ [112, 32])
  | 1 => [32] ++ ([119, 104, 105, 108, 101, 32] ++ [112, 32])
  | 2 => [32] ++ ([105, 102, 32] ++ ([112, 32] ++ ([61, 61, 32] ++ ([51, 32] ++ ([123] ++ ([32] ++ ([125] ++ ([32] ++ [101, 108, 115, 101, 32]))))))))
  | _ => [32] ++ ([119, 104, 105, 108, 101, 32] ++ ([112, 32] ++ ([61, 61, 32] ++ [110, 105, 108, 32])))
def tkI : Nat → (Nat → Nat) → List Tk
  | 0, p => [rv "if" (p 0), nm "p" (p 1)]
  | 1, p => [rv "while" (p 0), nm "p" (p 1)]
  | 2, p => [rv "if" (p 0), nm "p" (p 1), sg "==" (p 2), nu 3 (p 3), sg "{" (p 4), sg "}" (p 5), rv "else" (p 6)]
  | _, p => [rv "while" (p 0), nm "p" (p 1), sg "==" (p 2), rv "nil" (p 3)]
def offI : Nat → Nat → Nat
  | 0, 0 => 1
  | 0, _ => 4
  | 1, 0 => 1
  | 1, _ => 7
  | 2, 0 => 1
  | 2, 1 => 4
  | 2, 2 => 6
  | 2, 3 => 9
  | 2, 4 => 11
  | 2, 5 => 13
  | 2, _ => 15
  | _, 0 => 1
  | _, 1 => 7
  | _, 2 => 9
  | _, _ => 12
theorem opT_list : ∀ o, o < 4 → (opT o).cps.toList = opI o ++ [123] := by decide +kernel
theorem lx_op : ∀ o, o < 4 → LX (opI o) fun n => tkI o fun i => n + offI o i
  | 0, _ => LX.blank.app (w_if.app w_p)
  | 1, _ => LX.blank.app (w_while.app w_p)
  | 2, _ => LX.blank.app (w_if.app (w_p.app (w_eq.app (w_3.app (s_open.app (LX.blank.app (s_close.app (LX.blank.app w_else))))))))
  | 3, _ => LX.blank.app (w_while.app (w_p.app (w_eq.app w_nil)))
  | o + 4, h => absurd h (by omega)
/-! ### the text -/
def frontT (os : List Nat) : Str := os.foldl (fun t o => t ++ opT o) "fn f(p) {"
def endT (n : Nat) : Str := (List.range n).foldl (fun e _ => e ++ " }") "out p; }"
def opsI : List Nat → List Nat
  | [] => []
  | o :: os => opI o ++ [123] ++ opsI os
def hdI : List Nat := [102, 110, 32] ++ ([102, 40] ++ ([112, 41] ++ ([32] ++ [123])))
theorem app_list (a b : Str) : (a ++ b).cps.toList = a.cps.toList ++ b.cps.toList := by
  show (a.cps ++ b.cps).toList = _
  rw [Array.toList_append]
theorem fold_list : ∀ (os : List Nat) (t : Str), (∀ o ∈ os, o < 4) → (os.foldl (fun t o => t ++ opT o) t).cps.toList = t.cps.toList ++ opsI os
  | [], t, _ => by
    show t.cps.toList = t.cps.toList ++ []
    rw [List.append_nil]
  | o :: os, t, h => by
    rw [List.foldl_cons, fold_list os _ fun x m => h x (List.mem_cons_of_mem _ m), app_list, opT_list o (h o List.mem_cons_self), List.append_assoc]
    rfl
theorem front_list {os : List Nat} (h : ∀ o ∈ os, o < 4) : (frontT os).cps.toList = hdI ++ opsI os := by
  unfold frontT
  rw [fold_list os _ h]
  congr 1
def endsI : Nat → List Nat
  | 0 => []
  | n + 1 => endsI n ++ ([32] ++ [125])
theorem endT_succ (n : Nat) : endT (n + 1) = endT n ++ " }" := by
  unfold endT
  rw [List.range_succ, List.foldl_append]
  rfl
theorem end_list : ∀ n, (endT n).cps.toList = [111, 117, 116, 32] ++ ([112, 59] ++ ([32] ++ [125])) ++ endsI n
  | 0 => by
    show (("out p; }" : Str)).cps.toList = _
    decide +kernel
  | n + 1 => by
    rw [endT_succ, app_list, end_list n, List.append_assoc]
    congr 1
/-! ### tokens -/
/-- the openers, up to the innermost bracket -/
inductive Pre : List Nat → List Tk → Prop
  | nil : Pre [] []
  | cons (o : Nat) (os : List Nat) (p : Nat → Nat) (q : Nat) (ts : List Tk) : o < 4 → Pre os ts → Pre (o :: os) (tkI o p ++ (sg "{" q :: ts))
inductive Cls : Nat → List Tk → Prop
  | nil : Cls 0 []
  | cons (n q : Nat) (ts : List Tk) : Cls n ts → Cls (n + 1) (ts ++ [sg "}" q])
def opsTk : List Nat → Nat → List Tk
  | [], _ => []
  | o :: os, n => (tkI o fun i => n + offI o i) ++ (sg "{" (n + (opI o).length) :: opsTk os (n + (opI o).length + 1))
theorem pre_ops : ∀ (os : List Nat) (n : Nat), (∀ o ∈ os, o < 4) → Pre os (opsTk os n)
  | [], n, _ => .nil
  | o :: os, n, h => .cons o os _ _ _ (h o List.mem_cons_self) (pre_ops os _ fun x m => h x (List.mem_cons_of_mem _ m))
theorem lx_ops : ∀ (os : List Nat), (∀ o ∈ os, o < 4) → LX (opsI os) (opsTk os)
  | [], _ => fun r n => (cat_nil _).symm
  | o :: os, h => by
    have z := ((lx_op o (h o List.mem_cons_self)).app s_open).app (lx_ops os fun x m => h x (List.mem_cons_of_mem _ m))
    intro r n
    rw [show opsI (o :: os) = opI o ++ [123] ++ opsI os from rfl, z r n]
    congr 1
    show (tkI o fun i => n + offI o i) ++ [sg "{" (n + (opI o).length)] ++ opsTk os (n + (opI o ++ [123]).length) = (tkI o fun i => n + offI o i) ++ (sg "{" (n + (opI o).length) :: opsTk os (n + (opI o).length + 1))
    rw [List.length_append, List.append_assoc]
    rfl
def endsTk : Nat → Nat → List Tk
  | 0, _ => []
  | m + 1, n => endsTk m n ++ [sg "}" (n + (endsI m).length + 1)]
theorem lx_ends : ∀ m, LX (endsI m) (endsTk m)
  | 0 => fun r n => (cat_nil _).symm
  | m + 1 => (lx_ends m).app (LX.blank.app s_close)
theorem cls_ends : ∀ (m n : Nat), Cls m (endsTk m n)
  | 0, n => .nil
  | m + 1, n => .cons m _ _ (cls_ends m n)
def hdTk : List Tk := [rv "fn" 0, nm "f" 3, sg "(" 4, nm "p" 5, sg ")" 6, sg "{" 8]
theorem lx_hd : LX hdI fun n => [rv "fn" n, nm "f" (n + 3), sg "(" (n + 4), nm "p" (n + 5), sg ")" (n + 6), sg "{" (n + 8)] := w_fn.app (w_fo.app (w_pc.app (LX.blank.app s_open)))
theorem lx_out : LX ([111, 117, 116, 32] ++ ([112, 59] ++ ([32] ++ [125]))) fun n => [rv "out" n, nm "p" (n + 4), sg ";" (n + 5), sg "}" (n + 7)] := w_out.app (w_ps.app (LX.blank.app s_close))
theorem lexA_nil (n : Nat) : lexA [] n = .ok [] := rfl
theorem lex_of {l : List Nat} {ts : List Tk} (h : lexA l 0 = .ok ts) (hl : l.length ≤ 6000) : lex l = .ok ts := by
  unfold lex
  rw [if_neg (by omega)]
  unfold lexA at h
  rw [h]
/-! ### blocks -/
def blk : Nat → List Nat → List Sm
  | k, [] => [.out "p" k]
  | k, o :: os => [match o with
    | 0 => .ite (.tru "p") (blk (k + 1) os) [] k
    | 1 => .whl (.tru "p") (blk (k + 1) os) k
    | 2 => .ite (.same "p" (.num 3)) [] (blk (k + 1) os) k
    | _ => .whl (.same "p" .nil) (blk (k + 1) os) k]
theorem t_blk {e f lv k q : Nat} {rem : List Tk} : rdBlk e (f + 1) lv (sg "{" q :: rem) k = if 12 < lv then some (.error (.big "depth")) else rdStms e f lv rem k := by
  rw [rdBlk]
  have e1 : isTk "sign" "{" (sg "{" q :: rem) = true := by kernel_rfl
  have e2 : expct e "{" (sg "{" q :: rem) = .ok rem := by kernel_rfl
  rw [e1, e2]
  by_cases h : 12 < lv
  · rw [if_pos ⟨h, rfl⟩, if_pos h]
  · rw [if_neg (fun z => h z.1), if_neg h]
theorem t_par {e f lv k q : Nat} {rem : List Tk} : rdBlk e (f + 1) lv (sg "(" q :: rem) k = some (.error (.mal q)) := by
  rw [rdBlk]
  have e1 : isTk "sign" "{" (sg "(" q :: rem) = false := by kernel_rfl
  have e2 : expct e "{" (sg "(" q :: rem) = .error (.mal q) := by kernel_rfl
  rw [e1, e2, if_neg (fun z => Bool.noConfusion z.2)]
theorem t_stms {e f lv k q : Nat} {x : Str} {rem : List Tk} : rdStms e (f + 1) lv (rv x q :: rem) k = match rdStm e f lv (rv x q :: rem) k with
      | none => none
      | some (.error x) => some (.error x)
      | some (.ok (s, r, k2)) => match rdStms e f lv r k2 with
        | none => none
        | some (.error x) => some (.error x)
        | some (.ok (ss, r2, k3)) => some (.ok (s :: ss, r2, k3)) := by
  rw [rdStms]
  have e1 : acc "sign" "}" (rv x q :: rem) = none := by
    unfold acc isTk
    have : decide ((rv x q).kind = "sign") = false := by
      show decide (("reserved" : Str) = "sign") = false
      decide +kernel
    show (if (decide ((rv x q).kind = "sign") && _) = true then _ else _) = _
    rw [this]
    rfl
  rw [e1] <;> rfl
theorem t_end {e f lv k q : Nat} {rem : List Tk} : rdStms e (f + 1) lv (sg "}" q :: rem) k = some (.ok ([], rem, k)) := by
  rw [rdStms]
  have e1 : acc "sign" "}" (sg "}" q :: rem) = some rem := by kernel_rfl
  rw [e1]
/-- a statement behind whose test a block follows -/
def ifR (e f lv : Nat) (t : Ts) (r2 : List Tk) (k : Nat) : Pr (Sm × List Tk × Nat) := match rdBlk e f (lv + 1) r2 (k + 1) with
  | none => none
  | some (.error x) => some (.error x)
  | some (.ok (a, r3, k2)) => match acc "reserved" "else" r3 with
    | none => some (.ok (.ite t a [] k, r3, k2))
    | some r4 => match rdBlk e f (lv + 1) r4 k2 with
      | none => none
      | some (.error x) => some (.error x)
      | some (.ok (b, r5, k3)) => some (.ok (.ite t a b k, r5, k3))
def whR (e f lv : Nat) (t : Ts) (r2 : List Tk) (k : Nat) : Pr (Sm × List Tk × Nat) := match rdBlk e f (lv + 1) r2 (k + 1) with
  | none => none
  | some (.error x) => some (.error x)
  | some (.ok (a, r3, k2)) => some (.ok (.whl t a k, r3, k2))
theorem t_if {e f lv k q : Nat} {t : Ts} {r r2 : List Tk} (h : rdTest e r = .ok (t, r2)) : rdStm e (f + 1) lv (rv "if" q :: r) k = ifR e f lv t r2 k := by
  rw [rdStm]
  have e1 : acc "reserved" "if" (rv "if" q :: r) = some r := by kernel_rfl
  rw [e1]
  dsimp only
  rw [h]
  rfl
theorem t_wh {e f lv k q : Nat} {t : Ts} {r r2 : List Tk} (h : rdTest e r = .ok (t, r2)) : rdStm e (f + 1) lv (rv "while" q :: r) k = whR e f lv t r2 k := by
  rw [rdStm]
  have e1 : acc "reserved" "if" (rv "while" q :: r) = none := by kernel_rfl
  have e2 : acc "reserved" "while" (rv "while" q :: r) = some r := by kernel_rfl
  rw [e1, e2]
  dsimp only
  rw [h]
  rfl
theorem t_out {e f lv k a b c : Nat} {rem : List Tk} : rdStm e (f + 1) lv (rv "out" a :: nm "p" b :: sg ";" c :: rem) k = some (.ok (.out "p" k, rem, k + 1)) := by
  rw [rdStm]
  have e1 : acc "reserved" "if" (rv "out" a :: nm "p" b :: sg ";" c :: rem) = none := by kernel_rfl
  have e2 : acc "reserved" "while" (rv "out" a :: nm "p" b :: sg ";" c :: rem) = none := by kernel_rfl
  have e3 : rdPlain e f k (rv "out" a :: nm "p" b :: sg ";" c :: rem) = some (.ok (.out "p" k, sg ";" c :: rem)) := by kernel_rfl
  have e4 : expct e ";" (sg ";" c :: rem) = .ok rem := by kernel_rfl
  rw [e1, e2]
  dsimp only
  rw [e3]
  dsimp only
  rw [e4]
theorem t_tru {e a q : Nat} {y : Str} {rem : List Tk} (hy : y = "{" ∨ y = "(") : rdTest e (nm "p" a :: sg y q :: rem) = .ok (.tru "p", sg y q :: rem) := by
  rcases hy with rfl | rfl <;> kernel_rfl
theorem t_num {e a b c q : Nat} {rem : List Tk} : rdTest e (nm "p" a :: sg "==" b :: nu 3 c :: rem) = .ok (.same "p" (.num 3), rem) := by kernel_rfl
theorem t_nil {e a b c q : Nat} {rem : List Tk} : rdTest e (nm "p" a :: sg "==" b :: rv "nil" c :: rem) = .ok (.same "p" .nil, rem) := by kernel_rfl
theorem t_noelse {q : Nat} {rem : List Tk} : acc "reserved" "else" (sg "}" q :: rem) = none := by kernel_rfl
theorem t_else {q : Nat} {rem : List Tk} : acc "reserved" "else" (rv "else" q :: rem) = some rem := by kernel_rfl
/-! ### an opener, and what its block is -/
theorem o_err {e f lv k q : Nat} {x : Er} {y : Str} {rem : List Tk} {p : Nat → Nat} (hy : y = "{" ∨ y = "(") (hl : lv + 1 ≤ 12) : ∀ o, o < 4 → rdBlk e (f + 2) (lv + 1) (sg y q :: rem) (k + 1) = some (.error x) → rdStms e (f + 4) lv (tkI o p ++ sg y q :: rem) k = some (.error x)
  | 0, _, h => by
    show rdStms e (f + 3 + 1) lv (rv "if" (p 0) :: (nm "p" (p 1) :: sg y q :: rem)) k = _
    rw [t_stms, t_if (t_tru hy), ifR, h]
  | 1, _, h => by
    show rdStms e (f + 3 + 1) lv (rv "while" (p 0) :: (nm "p" (p 1) :: sg y q :: rem)) k = _
    rw [t_stms, t_wh (t_tru hy), whR, h]
  | 2, _, h => by
    show rdStms e (f + 3 + 1) lv (rv "if" (p 0) :: (nm "p" (p 1) :: sg "==" (p 2) :: nu 3 (p 3) :: sg "{" (p 4) :: sg "}" (p 5) :: rv "else" (p 6) :: sg y q :: rem)) k = _
    rw [t_stms, t_if (t_num (q := 0)), ifR, t_blk, if_neg (by omega), t_end]
    dsimp only
    rw [t_else]
    dsimp only
    rw [h]
  | 3, _, h => by
    show rdStms e (f + 3 + 1) lv (rv "while" (p 0) :: (nm "p" (p 1) :: sg "==" (p 2) :: rv "nil" (p 3) :: sg y q :: rem)) k = _
    rw [t_stms, t_wh (t_nil (q := 0)), whR, h]
  | o + 4, h, _ => absurd h (by omega)
/-- one level too deep -/
theorem o_deep {e f k q : Nat} {y : Str} {rem : List Tk} {p : Nat → Nat} (hy : y = "{" ∨ y = "(") : ∀ o, o < 4 → (o = 2 ∨ y = "{") → rdStms e (f + 4) 12 (tkI o p ++ sg y q :: rem) k = some (.error (.big "depth"))
  | 0, _, h => by
    obtain rfl := h.resolve_left (by decide)
    show rdStms e (f + 3 + 1) 12 (rv "if" (p 0) :: (nm "p" (p 1) :: sg "{" q :: rem)) k = _
    rw [t_stms, t_if (t_tru (.inl rfl)), ifR, t_blk, if_pos (by decide)]
  | 1, _, h => by
    obtain rfl := h.resolve_left (by decide)
    show rdStms e (f + 3 + 1) 12 (rv "while" (p 0) :: (nm "p" (p 1) :: sg "{" q :: rem)) k = _
    rw [t_stms, t_wh (t_tru (.inl rfl)), whR, t_blk, if_pos (by decide)]
  | 2, _, h => by
    show rdStms e (f + 3 + 1) 12 (rv "if" (p 0) :: (nm "p" (p 1) :: sg "==" (p 2) :: nu 3 (p 3) :: sg "{" (p 4) :: sg "}" (p 5) :: rv "else" (p 6) :: sg y q :: rem)) k = _
    rw [t_stms, t_if (t_num (q := 0)), ifR, t_blk, if_pos (by decide)]
  | 3, _, h => by
    obtain rfl := h.resolve_left (by decide)
    show rdStms e (f + 3 + 1) 12 (rv "while" (p 0) :: (nm "p" (p 1) :: sg "==" (p 2) :: rv "nil" (p 3) :: sg "{" q :: rem)) k = _
    rw [t_stms, t_wh (t_nil (q := 0)), whR, t_blk, if_pos (by decide)]
  | o + 4, h, _ => absurd h (by omega)
theorem o_mal {e f k q : Nat} {rem : List Tk} {p : Nat → Nat} : ∀ o, o < 4 → o ≠ 2 → rdStms e (f + 4) 12 (tkI o p ++ sg "(" q :: rem) k = some (.error (.mal q))
  | 0, _, _ => by
    show rdStms e (f + 3 + 1) 12 (rv "if" (p 0) :: (nm "p" (p 1) :: sg "(" q :: rem)) k = _
    rw [t_stms, t_if (t_tru (.inr rfl)), ifR, t_par]
  | 1, _, _ => by
    show rdStms e (f + 3 + 1) 12 (rv "while" (p 0) :: (nm "p" (p 1) :: sg "(" q :: rem)) k = _
    rw [t_stms, t_wh (t_tru (.inr rfl)), whR, t_par]
  | 2, _, h => absurd rfl h
  | 3, _, _ => by
    show rdStms e (f + 3 + 1) 12 (rv "while" (p 0) :: (nm "p" (p 1) :: sg "==" (p 2) :: rv "nil" (p 3) :: sg "(" q :: rem)) k = _
    rw [t_stms, t_wh (t_nil (q := 0)), whR, t_par]
  | o + 4, h, _ => absurd h (by omega)
theorem deep_big {e : Nat} : ∀ (os : List Nat) (ts : List Tk) (f lv k : Nat) (rest : List Tk), Pre os ts → lv ≤ 12 → 12 < lv + os.length → rdStms e (f + 4 * os.length) lv (ts ++ rest) k = some (.error (.big "depth"))
  | [], ts, f, lv, k, rest, h, h1, h2 => absurd h2 (by rw [List.length_nil]; omega)
  | o :: os, _, f, lv, k, rest, .cons _ _ p q ts ho h, h1, h2 => by
    rw [List.length_cons] at h2
    rw [List.append_assoc]
    show rdStms e (f + 4 * (os.length + 1)) lv (tkI o p ++ (sg "{" q :: (ts ++ rest))) k = _
    by_cases h12 : lv = 12
    · subst h12
      exact o_deep (f := f + 4 * os.length) (.inl rfl) o ho (.inr rfl)
    · refine o_err (f := f + 4 * os.length) (.inl rfl) (by omega) o ho ?_
      rw [t_blk, if_neg (by omega), show f + 4 * os.length + 1 = (f + 1) + 4 * os.length by omega]
      exact deep_big os ts (f + 1) (lv + 1) (k + 1) rest h (by omega) (by omega)
/-- the last bracket is a '(' -/
theorem deep_last {e q : Nat} {p : Nat → Nat} : ∀ (os : List Nat) (ts : List Tk) (o f lv k : Nat), o < 4 → Pre os ts → lv + os.length = 12 → rdStms e (f + 4 + 4 * os.length) lv (ts ++ (tkI o p ++ [sg "(" q])) k = some (.error (if o = 2 then .big "depth" else .mal q))
  | [], _, o, f, lv, k, ho, .nil, h2 => by
    have h12 : lv = 12 := h2
    subst h12
    show rdStms e (f + 4) 12 (tkI o p ++ sg "(" q :: []) k = _
    by_cases h : o = 2
    · rw [if_pos h]
      exact o_deep (.inr rfl) o ho (.inl h)
    · rw [if_neg h]
      exact o_mal o ho h
  | o' :: os, _, o, f, lv, k, ho, .cons _ _ p' q' ts ho' h, h2 => by
    rw [List.length_cons] at h2
    rw [List.append_assoc]
    show rdStms e (f + 4 + 4 * (os.length + 1)) lv (tkI o' p' ++ (sg "{" q' :: (ts ++ (tkI o p ++ [sg "(" q])))) k = _
    refine o_err (f := f + 4 + 4 * os.length) (.inl rfl) (by omega) o' ho' ?_
    rw [t_blk, if_neg (by omega), show f + 4 + 4 * os.length + 1 = (f + 1) + 4 + 4 * os.length by omega]
    exact deep_last os ts o (f + 1) (lv + 1) (k + 1) ho h (by omega)
/-! ### up to twelve levels -/
theorem o_ok {e f lv k q d : Nat} {rem r3 : List Tk} {p : Nat → Nat} {os : List Nat} {k2 : Nat} (hl : lv + 1 ≤ 12) (hB : rdBlk e (f + 3) (lv + 1) (sg "{" q :: rem) (k + 1) = some (.ok (blk (k + 1) os, sg "}" d :: r3, k2))) : ∀ o, o < 4 → rdStms e (f + 5) lv (tkI o p ++ sg "{" q :: rem) k = some (.ok (blk k (o :: os), r3, k2))
  | 0, _ => by
    show rdStms e (f + 4 + 1) lv (rv "if" (p 0) :: (nm "p" (p 1) :: sg "{" q :: rem)) k = _
    rw [t_stms, t_if (t_tru (.inl rfl)), ifR, hB]
    dsimp only
    rw [t_noelse]
    dsimp only
    rw [t_end]
    rfl
  | 1, _ => by
    show rdStms e (f + 4 + 1) lv (rv "while" (p 0) :: (nm "p" (p 1) :: sg "{" q :: rem)) k = _
    rw [t_stms, t_wh (t_tru (.inl rfl)), whR, hB]
    dsimp only
    rw [t_end]
    rfl
  | 2, _ => by
    show rdStms e (f + 4 + 1) lv (rv "if" (p 0) :: (nm "p" (p 1) :: sg "==" (p 2) :: nu 3 (p 3) :: sg "{" (p 4) :: sg "}" (p 5) :: rv "else" (p 6) :: sg "{" q :: rem)) k = _
    rw [t_stms, t_if (t_num (q := 0)), ifR, t_blk, if_neg (by omega), t_end]
    dsimp only
    rw [t_else]
    dsimp only
    rw [hB]
    dsimp only
    rw [t_end]
    rfl
  | 3, _ => by
    show rdStms e (f + 4 + 1) lv (rv "while" (p 0) :: (nm "p" (p 1) :: sg "==" (p 2) :: rv "nil" (p 3) :: sg "{" q :: rem)) k = _
    rw [t_stms, t_wh (t_nil (q := 0)), whR, hB]
    dsimp only
    rw [t_end]
    rfl
  | o + 4, h => absurd h (by omega)
theorem deep_ok {e a b c d : Nat} : ∀ (os : List Nat) (ts es : List Tk) (f lv k : Nat) (rest : List Tk), Pre os ts → Cls os.length es → lv + os.length ≤ 12 →
    rdStms e (f + 3 + 4 * os.length) lv (ts ++ (rv "out" a :: nm "p" b :: sg ";" c :: sg "}" d :: (es ++ rest))) k = some (.ok (blk k os, rest, k + os.length + 1))
  | [], _, _, f, lv, k, rest, .nil, .nil, h2 => by
    show rdStms e (f + 2 + 1) lv (rv "out" a :: (nm "p" b :: sg ";" c :: sg "}" d :: rest)) k = _
    rw [t_stms, t_out]
    dsimp only
    rw [t_end]
    rfl
  | o :: os, _, _, f, lv, k, rest, .cons _ _ p q ts ho h, .cons _ q2 es hc, h2 => by
    rw [List.length_cons] at h2
    rw [List.append_assoc]
    have e1 : sg "{" q :: ts ++ (rv "out" a :: nm "p" b :: sg ";" c :: sg "}" d :: (es ++ [sg "}" q2] ++ rest)) = sg "{" q :: (ts ++ (rv "out" a :: nm "p" b :: sg ";" c :: sg "}" d :: (es ++ (sg "}" q2 :: rest)))) := by simp
    rw [e1]
    have ih := deep_ok (e := e) (a := a) (b := b) (c := c) (d := d) os ts es f (lv + 1) (k + 1) (sg "}" q2 :: rest) h hc (by omega)
    have e2 : k + 1 + os.length + 1 = k + (o :: os).length + 1 := by rw [List.length_cons]; omega
    rw [e2] at ih
    rw [show f + 3 + 4 * (o :: os).length = (f + 4 * os.length + 2) + 5 by rw [List.length_cons]; omega]
    refine o_ok (d := q2) (os := os) (by omega) ?_ o ho
    rw [t_blk, if_neg (by omega), show f + 4 * os.length + 2 + 2 = (f + 1) + 3 + 4 * os.length by omega]
    have ih2 := deep_ok (e := e) (a := a) (b := b) (c := c) (d := d) os ts es (f + 1) (lv + 1) (k + 1) (sg "}" q2 :: rest) h hc (by omega)
    rw [e2] at ih2
    exact ih2
end Nx


set_option Elab.async false
set_option linter.all false
set_option maxRecDepth 100000
set_option maxHeartbeats 4000000
/-! plain: the nested texts, whole -/
namespace Nx
open PySem Lx Px TL K14
def wholeT (os : List Nat) : Str := frontT os ++ " " ++ endT os.length
theorem opI_len : ∀ o, (opI o).length ≤ 20
  | 0 => by decide
  | 1 => by decide
  | 2 => by decide
  | o + 3 => by
    show ([32] ++ ([119, 104, 105, 108, 101, 32] ++ ([112, 32] ++ ([61, 61, 32] ++ [110, 105, 108, 32]))) : List Nat).length ≤ 20
    decide
theorem opsI_len : ∀ os, (opsI os).length ≤ 21 * os.length
  | [] => Nat.le_refl _
  | o :: os => by
    have h1 := opI_len o
    have h2 := opsI_len os
    show (opI o ++ [123] ++ opsI os).length ≤ _
    simp only [List.length_append, List.length_cons, List.length_nil]
    omega
theorem endsI_len : ∀ n, (endsI n).length = 2 * n
  | 0 => rfl
  | n + 1 => by
    show (endsI n ++ ([32] ++ [125])).length = _
    rw [List.length_append, endsI_len n]
    show 2 * n + 2 = _
    omega
theorem whole_list {os : List Nat} (h : ∀ o ∈ os, o < 4) : (wholeT os).cps.toList = hdI ++ opsI os ++ [32] ++ (([111, 117, 116, 32] ++ ([112, 59] ++ ([32] ++ [125]))) ++ endsI os.length) := by
  unfold wholeT
  rw [app_list, app_list, front_list h, end_list]
  rfl
theorem front_len {os : List Nat} (h : ∀ o ∈ os, o < 4) : (frontT os).length = 9 + (opsI os).length := by
  have : (frontT os).length = (frontT os).cps.toList.length := rfl
  rw [this, front_list h, List.length_append]
  rfl
theorem end_len (n : Nat) : (endT n).length = 8 + 2 * n := by
  have : (endT n).length = (endT n).cps.toList.length := rfl
  rw [this, end_list, List.length_append, endsI_len]
  rfl
theorem whole_len {os : List Nat} (h : ∀ o ∈ os, o < 4) (hl : os.length ≤ 20) : (wholeT os).length ≤ 600 := by
  unfold wholeT
  have h1 := opsI_len os
  have h2 : (" " : Str).length = 1 := by decide +kernel
  rw [Str.length_append, Str.length_append, front_len h, end_len, h2]
  omega
theorem whole_lex {os : List Nat} (h : ∀ o ∈ os, o < 4) (hl : os.length ≤ 20) : ∃ a b c d es, Cls os.length es ∧ lex (wholeT os).cps.toList = .ok (hdTk ++ (opsTk os 9 ++ (rv "out" a :: nm "p" b :: sg ";" c :: sg "}" d :: (es ++ [])))) := by
  have z := (((lx_hd.app (lx_ops os h)).app LX.blank).app (lx_out.app (lx_ends os.length))) [] 0
  rw [List.append_nil, ← whole_list h, lexA_nil] at z
  refine ⟨0 + (hdI ++ opsI os ++ [32]).length, 0 + (hdI ++ opsI os ++ [32]).length + 4, 0 + (hdI ++ opsI os ++ [32]).length + 5, 0 + (hdI ++ opsI os ++ [32]).length + 7, endsTk os.length (0 + (hdI ++ opsI os ++ [32]).length + ([111, 117, 116, 32] ++ ([112, 59] ++ ([32] ++ [125]))).length), cls_ends os.length _, lex_of (z.trans ?_) ?_⟩
  · refine congrArg Except.ok ?_
    simp only [List.append_nil, List.append_assoc]
    rfl
  · have : (wholeT os).cps.toList.length = (wholeT os).length := rfl
    have := whole_len h hl
    omega
theorem t_wrd {e n : Nat} {r : List Tk} : wrd e "fn" (rv "fn" n :: r) = .ok r := by kernel_rfl
theorem t_glo {n : Nat} {r : List Tk} : acc "reserved" "global" (rv "fn" n :: r) = none := by kernel_rfl
def fnR (z : Str) : Pr (List Sm × List Tk × Nat) → Pr (Fd × List Tk × Nat)
  | none => none
  | some (.error x) => some (.error x)
  | some (.ok (b, r4, k)) => some (.ok (⟨"f", [z], b⟩, r4, k))
theorem t_nms {e f n : Nat} {r : List Tk} : rdNms e (f + 1) (sg ")" n :: r) = some (.ok ([], sg ")" n :: r)) := by
  rw [rdNms]
  have e1 : acc "sign" "," (sg ")" n :: r) = none := by kernel_rfl
  rw [e1]
theorem t_fn {e f a b c d q : Nat} {z : Str} {T : List Tk} : rdFn e (f + 1) (nm "f" a :: sg "(" b :: nm z c :: sg ")" d :: sg "{" q :: T) = fnR z (rdStms e f 1 T 0) := by
  unfold rdFn
  have e1 : rdName e (nm "f" a :: sg "(" b :: nm z c :: sg ")" d :: sg "{" q :: T) = .ok ("f", sg "(" b :: nm z c :: sg ")" d :: sg "{" q :: T) := by kernel_rfl
  have e2 : expct e "(" (sg "(" b :: nm z c :: sg ")" d :: sg "{" q :: T) = .ok (nm z c :: sg ")" d :: sg "{" q :: T) := by kernel_rfl
  have e3 : rdPs e (f + 1) (nm z c :: sg ")" d :: sg "{" q :: T) = some (.ok ([z], sg "{" q :: T)) := by
    unfold rdPs
    have a1 : acc "sign" ")" (nm z c :: sg ")" d :: sg "{" q :: T) = none := by kernel_rfl
    have a2 : rdName e (nm z c :: sg ")" d :: sg "{" q :: T) = .ok (z, sg ")" d :: sg "{" q :: T) := by kernel_rfl
    have a3 : expct e ")" (sg ")" d :: sg "{" q :: T) = .ok (sg "{" q :: T) := by kernel_rfl
    rw [a1, a2]
    dsimp only
    rw [t_nms]
    dsimp only
    rw [a3]
  rw [e1]
  dsimp only
  rw [e2]
  dsimp only
  rw [e3]
  dsimp only
  rw [t_blk, if_neg (by decide)]
  unfold fnR
  rfl
def hdK (z : Str) : List Tk := [rv "fn" 0, nm "f" 3, sg "(" 4, nm z 5, sg ")" 6, sg "{" 8]
/-- both parsers, behind the tokens of the head -/
theorem both {x z : Str} {T : List Tk} (h : lex x.cps.toList = .ok (hdK z ++ T)) : pfn 100 x = (match fnR z (rdStms x.length 99 1 T 0) with
      | none => none
      | some (.error er) => some (.error er)
      | some (.ok (g, r2, _)) => if r2 = [] then some (.ok g) else some (.error (.mal (plc x.length r2)))) ∧ prs 101 x = (match fnR z (rdStms x.length 99 1 T 0) with
        | none => none
        | some (.error x) => some (.error x)
        | some (.ok (g, r2, _)) => match rdItms x.length 100 r2 with
          | none => none
          | some (.error x) => some (.error x)
          | some (.ok l) => some (.ok (.fn g :: l))) := by
  have e0 : hdK z ++ T = rv "fn" 0 :: (nm "f" 3 :: sg "(" 4 :: nm z 5 :: sg ")" 6 :: sg "{" 8 :: T) := rfl
  rw [e0] at h
  constructor
  · unfold pfn
    rw [h]
    dsimp only
    rw [t_wrd]
    dsimp only
    rw [t_fn] <;> rfl
  · unfold prs
    rw [h]
    show rdItms x.length (100 + 1) _ = _
    rw [rdItms, if_neg (by intro q; cases q), t_glo]
    dsimp only
    rw [t_wrd]
    dsimp only
    rw [t_fn] <;> rfl
theorem whole_ok {os : List Nat} (h : ∀ o ∈ os, o < 4) (hl : os.length ≤ 11) : pfn 100 (wholeT os) = some (.ok ⟨"f", ["p"], blk 0 os⟩) ∧ prs 101 (wholeT os) = some (.ok [.fn ⟨"f", ["p"], blk 0 os⟩]) := by
  obtain ⟨a, b, c, d, es, hc, hx⟩ := whole_lex h (by omega)
  have z := deep_ok (e := (wholeT os).length) (a := a) (b := b) (c := c) (d := d) os (opsTk os 9) es (96 - 4 * os.length) 1 0 [] (pre_ops os 9 h) hc (by omega)
  rw [show 96 - 4 * os.length + 3 + 4 * os.length = 99 by omega] at z
  obtain ⟨b1, b2⟩ := both (z := "p") hx
  rw [z] at b1 b2
  exact ⟨b1, b2⟩
theorem whole_big {os : List Nat} (h : ∀ o ∈ os, o < 4) (h1 : 12 ≤ os.length) (h2 : os.length ≤ 14) : pfn 100 (wholeT os) = some (.error (.big "depth")) ∧ prs 101 (wholeT os) = some (.error (.big "depth")) := by
  obtain ⟨a, b, c, d, es, hc, hx⟩ := whole_lex h (by omega)
  have z := deep_big (e := (wholeT os).length) os (opsTk os 9) (99 - 4 * os.length) 1 0 (rv "out" a :: nm "p" b :: sg ";" c :: sg "}" d :: (es ++ [])) (pre_ops os 9 h) (by decide) (by omega)
  rw [show 99 - 4 * os.length + 4 * os.length = 99 by omega] at z
  obtain ⟨b1, b2⟩ := both (z := "p") hx
  rw [z] at b1 b2
  exact ⟨b1, b2⟩
theorem opsI_snoc (o : Nat) : ∀ os, opsI (os ++ [o]) = opsI os ++ (opI o ++ [123])
  | [] => by
    show opI o ++ [123] ++ [] = _
    rw [List.append_nil]
    rfl
  | a :: os => by
    show opI a ++ [123] ++ opsI (os ++ [o]) = opI a ++ [123] ++ opsI os ++ _
    rw [opsI_snoc o os, List.append_assoc (opI a ++ [123])]
theorem deep_pfn {os : List Nat} {o : Nat} {x : Str} (h : ∀ o ∈ os, o < 4) (ho : o < 4) (hl : os.length = 11) (hx : x.cps.toList = hdI ++ opsI os ++ (opI o ++ [40])) : pfn 100 x = some (.error (if o = 2 then .big "depth" else .mal (hdI ++ opsI os ++ opI o).length)) := by
  have z := ((lx_hd.app (lx_ops os h)).app ((lx_op o ho).app s_par)) [] 0
  rw [List.append_nil, ← hx, lexA_nil] at z
  have hlen : x.cps.toList.length ≤ 6000 := by
    have h1 := opsI_len os
    have h2 := opI_len o
    rw [hx, List.length_append, List.length_append, List.length_append, List.length_singleton]
    show 9 + _ + _ ≤ _
    omega
  have hlx : lex x.cps.toList = .ok (hdTk ++ (opsTk os 9 ++ ((tkI o fun i => 9 + (opsI os).length + offI o i) ++ [sg "(" ((hdI ++ opsI os ++ opI o).length)]))) := by
    refine lex_of (z.trans (congrArg Except.ok ?_)) hlen
    have e9 : (hdI ++ opsI os).length = 9 + (opsI os).length := by
      rw [List.length_append]
      rfl
    have e8 : (hdI ++ opsI os ++ opI o).length = 9 + (opsI os).length + (opI o).length := by
      rw [List.length_append, e9]
    rw [e8]
    show ([rv "fn" 0, nm "f" 3, sg "(" 4, nm "p" 5, sg ")" 6, sg "{" 8] ++ opsTk os (0 + hdI.length) ++ ((tkI o fun i => 0 + (hdI ++ opsI os).length + offI o i) ++ [sg "(" (0 + (hdI ++ opsI os).length + (opI o).length)])) ++ [] = _
    rw [e9, Nat.zero_add, Nat.zero_add]
    simp only [List.append_nil, List.append_assoc]
    rfl
  have w := deep_last (e := x.length) (q := (hdI ++ opsI os ++ opI o).length) (p := fun i => 9 + (opsI os).length + offI o i) os (opsTk os 9) o 51 1 0 ho (pre_ops os 9 h) (by omega)
  rw [hl] at w
  obtain ⟨b1, _⟩ := both (z := "p") hlx
  rw [w] at b1
  exact b1
end Nx


set_option Elab.async false
set_option linter.all false
set_option maxRecDepth 100000
set_option maxHeartbeats 4000000
/-! plain: sums, fields -/
namespace Nx
open PySem Lx Px TL K14 Ly
/-- the figures of a number -/
def digs (m : Nat) : List Nat := (Nat.toDigits 10 m).map Char.toNat
theorem digs_all (m : Nat) : NumText.AllDigits (digs m) := fun c hc => by
  obtain ⟨ch, hch, e⟩ := List.mem_map.mp hc
  have r := PyProof.Rows.digit_range (Nat.isDigit_of_mem_toDigits (by decide) (by decide) hch)
  rw [← e]
  exact r
theorem digs_ne (m : Nat) : digs m ≠ [] := by
  intro e
  have h := PyProof.Rows.tDigits_len_ge 10 m
  rw [List.map_eq_nil_iff.mp e] at h
  exact absurd h (by decide)
theorem digs_val (m : Nat) : decs (digs m) = m := PySem.W.KIN.val_back m
theorem digs_len {m : Nat} (h : m < 10 ^ 5) : (digs m).length ≤ 5 := by
  unfold digs
  rw [List.length_map]
  exact PyProof.Rows.digits10_le (by decide) h
theorem digs_num (m : Nat) : numS m = ⟨(digs m).toArray⟩ := by
  have e : (numS m).cps = (digs m).toArray := Array.toList_inj.mp (numS_list m)
  generalize numS m = z at e
  obtain ⟨z⟩ := z
  exact congrArg Str.mk e
theorem tw_all {D r : List Nat} {d : Nat} (h : ∀ c ∈ D, inW c = true) (hd : inW d = false) : (D ++ d :: r).takeWhile inW = D := by
  induction D with
  | nil => rw [List.nil_append, List.takeWhile_cons, if_neg (by rw [hd]; decide)]
  | cons c D ih => rw [List.cons_append, List.takeWhile_cons, if_pos (h c List.mem_cons_self), ih fun x m => h x (List.mem_cons_of_mem _ m)]
theorem num_tok {m n : Nat} {r : List Nat} (h : m ≤ 65535) : ∃ c D, digs m = c :: D ∧ ¬ (c = 32 ∨ c = 10) ∧ tok1 (c :: (D ++ 59 :: r)) n = some (nu m n, (c :: D).length) := by
  have h1 := digs_all m
  have h2 := digs_ne m
  have h3 := digs_val m
  have h4 := digs_len (m := m) (Nat.lt_of_le_of_lt h (by decide))
  have h5 := (num_text h1 h2).mp (by rw [h3]; exact digs_num m)
  cases hD : digs m with
  | nil => exact absurd hD h2
  | cons c D =>
    rw [hD] at h1 h3 h4 h5
    have hc := h1.head
    have hcd : isDig c = true := by
      unfold isDig
      rw [decide_eq_true hc.1, decide_eq_true hc.2]
      rfl
    have hlc : isLet c = false := by
      unfold isLet
      rw [decide_eq_false (by omega)]
      rfl
    have hall : ∀ x ∈ c :: D, isDig x = true := fun x hx => by
      have := h1 x hx
      unfold isDig
      rw [decide_eq_true this.1, decide_eq_true this.2]
      rfl
    have htw : (c :: (D ++ 59 :: r)).takeWhile inW = c :: D := tw_all (D := c :: D) (fun x hx => dig_in (hall x hx)) (by decide)
    refine ⟨c, D, rfl, by omega, ?_⟩
    unfold tok1
    dsimp only
    rw [if_neg (by rw [hlc]; decide), if_pos hcd]
    have hw : wLen (c :: (D ++ 59 :: r)) = (c :: D).length := by
      unfold wLen
      rw [htw]
    have ha : (c :: D).all isDig = true := List.all_eq_true.mpr hall
    unfold tkNum
    rw [htw, hw, ha, h3, if_neg (by intro z; rcases z with z | z; exact absurd h4 (by omega); exact Bool.noConfusion z), if_neg (by
      intro z
      rcases z with z | z
      · omega
      · exact h5 z)]
    rfl
theorem lx_num {m : Nat} (h : m ≤ 65535) : LX (digs m ++ [59]) fun n => [nu m n, sg ";" (n + (digs m).length)] := fun r n => by
  obtain ⟨c, D, hD, hb, ht⟩ := num_tok (m := m) (n := n) (r := r) h
  rw [hD]
  have e0 : c :: D ++ [59] ++ r = c :: (D ++ 59 :: r) := by simp
  rw [e0, lexA_tok hb ht]
  have e : (c :: (D ++ 59 :: r)).drop (c :: D).length = 59 :: r := List.drop_left (l₁ := c :: D) (l₂ := 59 :: r)
  have e2 : tok1 (59 :: r) (n + (c :: D).length) = some (sg ";" (n + (c :: D).length), 1) := by kernel_rfl
  rw [e, lexA_tok (by decide) e2, cat_cat, List.length_append]
  rfl
theorem w_yc : LX [121, 41] fun n => [nm "y" n, sg ")" (n + 1)] := LX.tok2 (c := 121) (d := 41) (l := []) (t := fun n => nm "y" n) (u := fun n => sg ")" n) (k := 1) (by decide) (by decide) rfl (fun r n => by kernel_rfl) (fun r n => by kernel_rfl)
theorem w_x : LX [120, 32] fun n => [nm "x" n] := LX.tokb (l := []) (k := 1) (by decide) rfl fun r n => by kernel_rfl
theorem w_y : LX [121, 32] fun n => [nm "y" n] := LX.tokb (l := []) (k := 1) (by decide) rfl fun r n => by kernel_rfl
theorem w_is : LX [61, 32] fun n => [sg "=" n] := LX.tokb (l := []) (k := 1) (by decide) rfl fun r n => by kernel_rfl
theorem w_plus : LX [43, 32] fun n => [sg "+" n] := LX.tokb (l := []) (k := 1) (by decide) rfl fun r n => by kernel_rfl
theorem w_minus : LX [45, 32] fun n => [sg "-" n] := LX.tokb (l := []) (k := 1) (by decide) rfl fun r n => by kernel_rfl
def sumH : List Nat := [102, 110, 32] ++ ([102, 40] ++ ([121, 41] ++ ([32] ++ ([123] ++ ([32] ++ ([120, 32] ++ ([61, 32] ++ [121, 32])))))))
theorem t_add {e f k lv a b c d g h i n : Nat} : rdStms e (f + 2) lv (nm "x" a :: sg "=" b :: nm "y" c :: sg "+" d :: nu n g :: sg ";" h :: sg "}" i :: []) k = some (.ok ([.add "x" "y" n k], [], k + 1)) := by
  rw [rdStms]
  have e1 : acc "sign" "}" (nm "x" a :: sg "=" b :: nm "y" c :: sg "+" d :: nu n g :: sg ";" h :: sg "}" i :: []) = none := by kernel_rfl
  rw [e1]
  dsimp only
  rw [rdStm]
  have e2 : acc "reserved" "if" (nm "x" a :: sg "=" b :: nm "y" c :: sg "+" d :: nu n g :: sg ";" h :: sg "}" i :: []) = none := by kernel_rfl
  have e3 : acc "reserved" "while" (nm "x" a :: sg "=" b :: nm "y" c :: sg "+" d :: nu n g :: sg ";" h :: sg "}" i :: []) = none := by kernel_rfl
  have e4 : rdPlain e f k (nm "x" a :: sg "=" b :: nm "y" c :: sg "+" d :: nu n g :: sg ";" h :: sg "}" i :: []) = some (.ok (.add "x" "y" n k, sg ";" h :: sg "}" i :: [])) := by kernel_rfl
  have e5 : expct e ";" (sg ";" h :: sg "}" i :: []) = .ok (sg "}" i :: []) := by kernel_rfl
  rw [e2, e3]
  dsimp only
  rw [e4]
  dsimp only
  rw [e5]
  dsimp only
  rw [t_end]
theorem t_sub {e f k lv a b c d g h i n : Nat} : rdStms e (f + 2) lv (nm "x" a :: sg "=" b :: nm "y" c :: sg "-" d :: nu n g :: sg ";" h :: sg "}" i :: []) k = some (.ok ([.add "x" "y" (-(n : Int) % 65536) k], [], k + 1)) := by
  rw [rdStms]
  have e1 : acc "sign" "}" (nm "x" a :: sg "=" b :: nm "y" c :: sg "-" d :: nu n g :: sg ";" h :: sg "}" i :: []) = none := by kernel_rfl
  rw [e1]
  dsimp only
  rw [rdStm]
  have e2 : acc "reserved" "if" (nm "x" a :: sg "=" b :: nm "y" c :: sg "-" d :: nu n g :: sg ";" h :: sg "}" i :: []) = none := by kernel_rfl
  have e3 : acc "reserved" "while" (nm "x" a :: sg "=" b :: nm "y" c :: sg "-" d :: nu n g :: sg ";" h :: sg "}" i :: []) = none := by kernel_rfl
  have e4 : rdPlain e f k (nm "x" a :: sg "=" b :: nm "y" c :: sg "-" d :: nu n g :: sg ";" h :: sg "}" i :: []) = some (.ok (.add "x" "y" (-(n : Int) % 65536) k, sg ";" h :: sg "}" i :: [])) := by kernel_rfl
  have e5 : expct e ";" (sg ";" h :: sg "}" i :: []) = .ok (sg "}" i :: []) := by kernel_rfl
  rw [e2, e3]
  dsimp only
  rw [e4]
  dsimp only
  rw [e5]
  dsimp only
  rw [t_end]
theorem sum_ok {m : Nat} (h : m ≤ 65535) {x : Str} {sub : Bool} (hx : x.cps.toList = sumH ++ ((if sub = true then [45, 32] else [43, 32]) ++ (digs m ++ [59] ++ ([32] ++ [125])))) : pfn 100 x = some (.ok ⟨"f", ["y"], [.add "x" "y" (if sub = true then -(m : Int) % 65536 else m) 0]⟩) := by
  have hlen : x.cps.toList.length ≤ 6000 := by
    have h1 := digs_len (m := m) (Nat.lt_of_le_of_lt h (by decide))
    have h2 : (if sub = true then [45, 32] else [43, 32] : List Nat).length = 2 := by cases sub <;> rfl
    have h3 : sumH.length = 16 := rfl
    rw [hx]
    simp only [List.length_append, h2, h3, List.length_cons, List.length_nil]
    omega
  have hH := w_fn.app (w_fo.app (w_yc.app (LX.blank.app (s_open.app (LX.blank.app (w_x.app (w_is.app w_y)))))))
  have hN := (lx_num h).app (LX.blank.app s_close)
  cases sub with
  | false =>
    have z := (hH.app (w_plus.app hN)) [] 0
    rw [List.append_nil, lexA_nil] at z
    have hx2 : x.cps.toList = sumH ++ ([43, 32] ++ (digs m ++ [59] ++ ([32] ++ [125]))) := hx
    have z2 : lexA x.cps.toList 0 = _ := (congrArg (fun l => lexA l 0) hx2).trans z
    obtain ⟨b1, _⟩ := both (z := "y") (T := nm "x" _ :: sg "=" _ :: nm "y" _ :: sg "+" _ :: nu m _ :: sg ";" _ :: sg "}" _ :: []) (lex_of z2 hlen)
    rw [t_add (f := 97)] at b1
    exact b1
  | true =>
    have z := (hH.app (w_minus.app hN)) [] 0
    rw [List.append_nil, lexA_nil] at z
    have hx2 : x.cps.toList = sumH ++ ([45, 32] ++ (digs m ++ [59] ++ ([32] ++ [125]))) := hx
    have z2 : lexA x.cps.toList 0 = _ := (congrArg (fun l => lexA l 0) hx2).trans z
    obtain ⟨b1, _⟩ := both (z := "y") (T := nm "x" _ :: sg "=" _ :: nm "y" _ :: sg "-" _ :: nu m _ :: sg ";" _ :: sg "}" _ :: []) (lex_of z2 hlen)
    rw [t_sub (f := 97)] at b1
    exact b1
/-! ### fields -/
def FL : List Str := ["a", "b", "c", "x", "a1", "if"]
def stT (g : Str) : Str := "fn f(x) { " ++ "x." ++ g ++ " = nil; }"
def ldT (g : Str) : Str := "fn f(x) { " ++ "y = x." ++ g ++ "; }"
def fdR (n : Nat) (g : Str) (s : Sm) : Except Er Fd := if g ∈ (["a", "b"] : List Str) then .ok ⟨"f", ["x"], [s]⟩ else .error (.mal n)
theorem st_ok : ∀ g ∈ FL, pfn 100 (stT g) = some (fdR 12 g (.store "x" g .nil 0)) := by
  unfold FL
  refine Qx.all_cons ?_ (Qx.all_cons ?_ (Qx.all_cons ?_ (Qx.all_cons ?_ (Qx.all_cons ?_ (Qx.all_cons ?_ Qx.all_nil))))) <;> kernel_rfl
theorem ld_ok : ∀ g ∈ FL, pfn 100 (ldT g) = some (fdR 16 g (.load "y" "x" g 0)) := by
  unfold FL
  refine Qx.all_cons ?_ (Qx.all_cons ?_ (Qx.all_cons ?_ (Qx.all_cons ?_ (Qx.all_cons ?_ (Qx.all_cons ?_ Qx.all_nil))))) <;> kernel_rfl
end Nx


set_option Elab.async false
set_option linter.all false
set_option maxRecDepth 100000
set_option maxHeartbeats 4000000
namespace K14
open PySem PySem.Spec PyProof.Rows L2 He Hz Cm Lx Px Ly Qx Nx
local macro_rules | `(tactic| walk_at "rd") => `(tactic| repeat (first | (refine ⟨_, rfl, ?_⟩) | (refine ⟨_, _, rfl, rfl, ?_⟩) | (refine ⟨rfl, ?_⟩) | (refine ⟨szl (by omega), ?_⟩) | (refine ⟨_, _, _, _, _, rfl, (by assumption), (by assumption), (by assumption), (by rfl), ?_⟩) | (refine ⟨_, _, rfl, Or.inl (by assumption), ?_⟩)))
local macro_rules | `(tactic| walk_at "dp") => `(tactic| (repeat' (first | exact DpAll.nil | apply DpAll.cons | exact Dp.str _ | exact Dp.int _ | exact Dp.non | exact Dp.bl _ | assumption)))
theorem frontT_snoc (a : List Nat) (o : Nat) : frontT (a ++ [o]) = frontT a ++ opT o := by
  unfold frontT
  rw [List.foldl_append]
  rfl
def opV : List Str := [" if p {", " while p {", " if p == 3 { } else {", " while p == nil {"]
theorem opV_at : ∀ o, o < 4 → (opV.map V.str)[o]? = some (.str (opT o)) := by
  intro o h
  rw [List.getElem?_map]
  have : ∀ o, o < 4 → opV[o]? = some (opT o) := by decide +kernel
  rw [this o h]
  rfl
theorem opT_len {o : Nat} (h : o < 4) : (opT o).length ≤ 21 := by
  have e : (opT o).length = (opT o).cps.toList.length := rfl
  have := opI_len o
  rw [e, opT_list o h, List.length_append, List.length_singleton]
  omega
section
variable {P : Program} {w : World} {K : PySem.W.Frag} {mg : Str → Option Value} {base : Heap} {H H1 H' : Hp} {Q : VK} {E : XK}
def spNested : Sp := fun vs H Q _ => ∃ st sc L, vs = [.ref st, .int ((L : Nat) + 1)] ∧ L ≤ 14 ∧ PoolAt K H st sc ∧ ∀ os : List Nat, os.length = L → (∀ o ∈ os, o < 4) → ∀ u b H', H u = none → Kp [st] H H' → PoolAt K H' st sc → Dp K H' b (.tuple (encs (blk 0 os))) → H' u = some (.lst [.str (frontT os), .str (endT L), b]) → Q (.ref u) H'
theorem ok_law_nested (T : Tx P K mg) : OkF P w K mg base CX0 3 a__law_nested ["pool", "levels"] (spNested (K := K)) := by
  have nd := sc__law_nested.nd
  have F__law_take := ok_law_take (P := P) (w := w) (base := base) T
  refine T.f__law_nested.ok (CX := CX0) sc__law_nested (fun vs H Q E h => ?_) (fun cdv A outer s H vs Q E hr h => ?_)
  · obtain ⟨_, _, _, rfl, _⟩ := h
    rfl
  · obtain ⟨st, sc, L, rfl, hL, s0, k⟩ := h
    refine ⟨_, PSs.nox (pss_cons (ps_setLc (i := 2) (own := [("k", 7)]) (g := gName 7) (tt := tYes) rfl nd rfl rfl (sw_true rfl rfl rfl (by decide +kernel)) (pi_range1 rfl T.n_range (pa_cons (pe_op op_sub (pv 1) pe_int) pa_nil)) (blkOk_by (N := (["pool", "levels", "openers", "text", "end", "block", "opener", "k", "number"] : List Str)) (sc := defScope s__law_nested) (by decide +kernel)) (fun _ _ _ _ _ => pg_name (i := 7) nd rfl (Or.inl rfl)) (fun _ _ _ _ _ => pts_nil) (fun _ _ _ _ _ => by exact (pe_call F__law_take (hr.mono (by decide)) rfl T.g__law_take T.k__law_take T.b__law_take .nil pass0 (pa_cons (pv 0) (pa_cons pe_int pa_nil)))))
      (pss_cons (ps_set (i := 3) nd rfl (Or.inl rfl) pe_str)
      (pss_cons (ps_set (i := 4) nd rfl (Or.inl rfl) pe_str)
      (pss_cons (ps_set (i := 5) nd rfl (Or.inl rfl) (pe_tup (pa_cons (pe_tup (pa_cons pe_str (pa_cons pe_str (pa_cons (pe_op op_sub (pv 1) pe_int) pa_nil)))) pa_nil)))
      (pss_cons (ps_for PassesOwn.never rfl (pi_list (pv 2)) (pg_name (i := 6) nd rfl (Or.inl rfl)) (pss_cons (ps_set (i := 3) nd rfl (Or.inl rfl) (pe_op op_add_str (pv 3) (pe_ix ix_list (pe_lst (pa_cons pe_str (pa_cons pe_str (pa_cons pe_str (pa_cons pe_str pa_nil))))) (pv 6) (fun _ _ => rfl))))
      (pss_one (ps_set (i := 4) nd rfl (Or.inl rfl) (pe_op op_add_str (pv 4) pe_str)))))
      (pss_cons (ps_for PassesOwn.never rfl (pi_range1 rfl T.n_range (pa_cons (pe_op op_sub (pv 1) pe_int) pa_nil)) (pg_name (i := 7) nd rfl (Or.inl rfl)) (pss_cons (ps_set (i := 8) nd rfl (Or.inl rfl) (pe_op op_sub (pe_op op_sub (pv 1) pe_int) (pv 7)))
      (pss_cons (ps_set (i := 6) nd rfl (Or.inl rfl) (pe_ix ix_list (pv 2) (pv 8) (fun _ _ => rfl)))
      (pss_one (ps_if (pt_cmpR op_eq (pv 6) pe_int (nomark _)) (pss_one (ps_set (i := 5) nd rfl (Or.inl rfl) (pe_tup (pa_cons (pe_tup (pa_cons pe_str (pa_cons (pe_tup (pa_cons pe_str (pa_cons pe_str pa_nil))) (pa_cons (pv 5) (pa_cons (pe_tup pa_nil) (pa_cons (pv 8) pa_nil)))))) pa_nil)))) (pss_one (ps_if (pt_cmpR op_eq (pv 6) pe_int (nomark _)) (pss_one (ps_set (i := 5) nd rfl (Or.inl rfl) (pe_tup (pa_cons (pe_tup (pa_cons pe_str (pa_cons (pe_tup (pa_cons pe_str (pa_cons pe_str pa_nil))) (pa_cons (pv 5) (pa_cons (pv 8) pa_nil))))) pa_nil)))) (pss_one (ps_if (pt_cmpR op_eq (pv 6) pe_int (nomark _)) (pss_one (ps_set (i := 5) nd rfl (Or.inl rfl) (pe_tup (pa_cons (pe_tup (pa_cons pe_str (pa_cons (pe_tup (pa_cons pe_str (pa_cons pe_str (pa_cons (pe_tup (pa_cons pe_str (pa_cons pe_int pa_nil))) pa_nil)))) (pa_cons (pe_tup pa_nil) (pa_cons (pv 5) (pa_cons (pv 8) pa_nil)))))) pa_nil)))) (pss_one (ps_set (i := 5) nd rfl (Or.inl rfl) (pe_tup (pa_cons (pe_tup (pa_cons pe_str (pa_cons (pe_tup (pa_cons pe_str (pa_cons pe_str (pa_cons (pe_tup (pa_cons pe_str pa_nil)) pa_nil)))) (pa_cons (pv 5) (pa_cons (pv 8) pa_nil))))) pa_nil)))))))))))))
      (pss_one (ps_ret (pe_lst (pa_cons (pv 3) (pa_cons (pv 4) (pa_cons (pv 5) pa_nil)))))))))))), ?_⟩
    have en : ((L : Nat) : Int) + 1 - 1 = (L : Int) := by omega
    walk_at "rd"
    rw [en]
    refine ⟨rng_lo _, rng_hi (by omega), ?_⟩
    intro D hD
    refine lc_range (n := L) (lo := 0) (fun i H' => ∃ os : List Nat, os.length = i ∧ (∀ o ∈ os, o < 4) ∧ Kp [st] H H' ∧ PoolAt K H' st sc ∧ H' D = some (.lst (os.map fun o : Nat => V.int o))) ⟨[], rfl, all_nil, Kp.new hD, s0.kp (Kp.new hD), upd_same⟩ ?_ ?_
    · rintro i H1 hi ⟨os, hl, h4, k1, s1, hD1⟩
      refine ⟨rfl, ?_⟩
      walk_at "rd"
      refine ⟨st, sc, 4, rfl, by decide, by decide, s1, fun t ht H2 r2 s2 => ?_⟩
      have k2 := k1.trans r2
      walk_at "rd"
      refine ⟨_, r2.keep _ _ (by simpa using s0.old hD) hD1, by rw [List.length_map]; exact szt (by omega), os ++ [t], by rw [List.length_append, hl]; rfl, fun y m => ?_, k2.mine hD, s0.mine hD k2 s2, ?_⟩
      · rcases List.mem_append.mp m with m | m
        · exact h4 y m
        · rw [List.mem_singleton.mp m]
          exact ht
      · rw [upd_same, List.map_append]
        rfl
    rintro H1 ⟨os, hl, h4, k1, s1, hD1⟩
    walk_at "rd"
    first | refine ⟨szl (Nat.le_of_ble_eq_true rfl), fun p1 hp1 => ?_⟩ | refine fun p1 hp1 => ?_
    walk_at "rd"
    first | refine ⟨szl (Nat.le_of_ble_eq_true rfl), fun p2 hp2 => ?_⟩ | refine fun p2 hp2 => ?_
    have k2 : Kp [] H1 (upd (upd H1 p1 (.tup [.str "out", .str "p", .int ((L : Nat) + 1 - 1)])) p2 (.tup [.ref p1])) := (Kp.new hp1).trans (Kp.new hp2)
    have d2 : Dp K (upd (upd H1 p1 (.tup [.str "out", .str "p", .int ((L : Nat) + 1 - 1)])) p2 (.tup [.ref p1])) (.ref p2) (.tuple (encs (blk L []))) := by
      have hp2' : (upd H1 p1 (.tup [.str "out", .str "p", .int ((L : Nat) + 1 - 1)])) p2 = none := hp2
      rw [en] at hp2' ⊢
      refine Dp.new (vs := [.ref p1]) (ds := encs (blk L [])) (.cons ?_ .nil) rfl hp2'
      exact Dp.new (vs := [.str "out", .str "p", .int (L : Nat)]) (ds := [.str "out", .str "p", .int (L : Nat)]) (by walk_at "dp") rfl hp1
    generalize upd (upd H1 p1 (.tup [.str "out", .str "p", .int ((L : Nat) + 1 - 1)])) p2 (.tup [.ref p1]) = H2 at k2 d2
    have hD2 := k2.keep _ _ (by simp) hD1
    walk_at "rd"
    refine ⟨⟨_, SqL.of hD2⟩, for_list (xs := os.map fun o : Nat => V.int o) (fun i σ H' => ∃ z6 z7 z8, σ = [some (.ref st), some (.int ((L : Nat) + 1)), some (.ref D), some (.str (frontT (os.take i))), some (.str (endT i)), some (.ref p2), z6, z7, z8] ∧ Kp [] H2 H') ⟨_, _, _, rfl, Kp.refl⟩ ?_ ?_ ?_⟩
    · rintro i σ H' _ ⟨z6, z7, z8, rfl, k3⟩
      exact SqL.of (k3.keep _ _ (by simp) hD2)
    · rintro i y σ H' hy ⟨z6, z7, z8, rfl, k3⟩
      have hi : i < os.length := by
        have := (List.getElem?_eq_some_iff.mp hy).1
        rwa [List.length_map] at this
      rw [List.getElem?_map, List.getElem?_eq_getElem hi] at hy
      obtain rfl := Option.some.inj hy
      have ho := h4 _ (List.getElem_mem hi)
      have htk : os.take (i + 1) = os.take i ++ [os[i]] := by rw [List.take_add_one, List.getElem?_eq_getElem hi]; rfl
      generalize os[i] = o at ho htk
      have hf1 := front_len (os := os.take i) fun x m => h4 x (List.mem_of_mem_take m)
      have hf2 := opsI_len (os.take i)
      have hf3 := opT_len ho
      have hf4 := end_len i
      have hf5 : (" }" : Str).length = 2 := by decide +kernel
      rw [List.length_take] at hf2
      walk_at "rd"
      first | refine ⟨szl (Nat.le_of_ble_eq_true rfl), fun p3 hp3 => ?_⟩ | refine fun p3 hp3 => ?_
      walk_at "rd"
      refine ⟨_, _, _, _, rfl, rfl, SqL.of (show (upd H' p3 (.lst (opV.map V.str))) p3 = some (.lst (opV.map V.str)) from upd_same), atI_nat (opV_at o ho), ?_⟩
      walk_at "rd"
      refine ⟨_, _, _, by rw [htk, frontT_snoc, endT_succ] <;> rfl, k3.trans (Kp.new hp3)⟩
    rintro σ H3 ⟨z6, z7, z8, rfl, k3⟩
    rw [List.length_map, List.take_length]
    rw [hl]
    have hD3 := k3.keep _ _ (by simp) hD2
    have k13 : Kp [st] H H3 := k1.trans (k2.trans k3).nil
    have s3 : PoolAt K H3 st sc := s1.kp (k2.trans k3)
    walk_at "rd"
    rw [en]
    refine ⟨rng_lo _, rng_hi (by omega), for_range (n := L) (lo := 0) (fun i σ H' => ∃ b z6 z7 z8, σ = [some (.ref st), some (.int ((L : Nat) + 1)), some (.ref D), some (.str (frontT os)), some (.str (endT L)), some b, z6, z7, z8] ∧ Kp [] H3 H' ∧ Dp K H' b (.tuple (encs (blk (L - i) (os.drop (L - i)))))) ⟨_, _, _, _, rfl, Kp.refl, ?_⟩ ?_ ?_⟩
    · rw [Nat.sub_zero, List.drop_eq_nil_of_le (by omega)]
      exact Dp.kq k3 _ _ d2
    · rintro i σ H' hi ⟨b, z6, z7, z8, rfl, k4, d4⟩
      have hnum : L - 1 - i < os.length := by omega
      have hdr := List.drop_eq_getElem_cons hnum
      have ho := h4 _ (List.getElem_mem hnum)
      have hat : (os.map fun o : Nat => V.int o)[L - 1 - i]? = some (V.int (os[L - 1 - i] : Nat)) := by rw [List.getElem?_map, List.getElem?_eq_getElem hnum]; rfl
      generalize os[L - 1 - i] = o at hdr ho hat
      have e1 : L - 1 - i + 1 = L - i := by omega
      have e2 : L - (i + 1) = L - 1 - i := by omega
      rw [e1] at hdr
      have e3 : blk (L - (i + 1)) (os.drop (L - (i + 1))) = blk (L - 1 - i) (o :: os.drop (L - i)) := by rw [e2, hdr]
      have e4 : L - i = L - 1 - i + 1 := e1.symm
      rw [show blk (L - i) (os.drop (L - i)) = blk (L - 1 - i + 1) (os.drop (L - i)) by rw [e1]] at d4
      generalize os.drop (L - i) = os' at d4 e3
      generalize hn : L - 1 - i = num at d4 e3 hat
      have en2 : ((L : Nat) : Int) + 1 - 2 - (0 + (i : Int)) = (num : Int) := by omega
      walk_at "rd"
      simp only [en2]
      have hD4 := k4.keep _ _ (by simp) hD3
      refine ⟨_, _, _, _, rfl, rfl, SqL.of hD4, atI_nat hat, ?_⟩
      walk_at "rd"
      have nlb : noLs (encs (blk (num + 1) os')) = true := Sms.nl _
      rcases (show o = 0 ∨ o = 1 ∨ o = 2 ∨ o = 3 by omega) with rfl | rfl | rfl | rfl
      · walk_at "rd"
        have db : Dp K H' b (.tuple (encs (blk (num + 1) os'))) := d4
        first | refine ⟨szl (Nat.le_of_ble_eq_true rfl), fun q1 hq1 => ?_⟩ | refine fun q1 hq1 => ?_
        have kq1 : Kp [] H' (upd H' q1 (.tup [.str "true", .str "p"])) := Kp.new hq1
        have dq1 : Dp K (upd H' q1 (.tup [.str "true", .str "p"])) (.ref q1) (Ts.tru "p").enc := Dp.new (by walk_at "dp") rfl hq1
        replace db := Dp.kq kq1 _ _ db
        generalize upd H' q1 (.tup [.str "true", .str "p"]) = G0 at kq1 db dq1
        have kg := kq1
        walk_at "rd"
        first | refine ⟨szl (Nat.le_of_ble_eq_true rfl), fun q2 hq2 => ?_⟩ | refine fun q2 hq2 => ?_
        have kq2 : Kp [] G0 (upd G0 q2 (.tup [])) := Kp.new hq2
        have dq2 : Dp K (upd G0 q2 (.tup [])) (.ref q2) (.tuple (encs [])) := Dp.new .nil rfl hq2
        replace db := Dp.kq kq2 _ _ db
        replace dq1 := Dp.kq kq2 _ _ dq1
        generalize upd G0 q2 (.tup []) = G1 at kq2 db dq1 dq2
        replace kg := kg.trans kq2
        walk_at "rd"
        first | refine ⟨szl (Nat.le_of_ble_eq_true rfl), fun q3 hq3 => ?_⟩ | refine fun q3 hq3 => ?_
        have kq3 : Kp [] G1 (upd G1 q3 (.tup [.str "if", .ref q1, b, .ref q2, .int (num : Nat)])) := Kp.new hq3
        have dq3 : Dp K (upd G1 q3 (.tup [.str "if", .ref q1, b, .ref q2, .int (num : Nat)])) (.ref q3) (Sm.ite (.tru "p") (blk (num + 1) os') [] num).enc := Dp.new (.cons (.str _) (.cons dq1 (.cons db (.cons dq2 (.cons (.int _) .nil))))) (Sm.nl (Sm.ite (.tru "p") (blk (num + 1) os') [] num)) hq3
        replace db := Dp.kq kq3 _ _ db
        replace dq1 := Dp.kq kq3 _ _ dq1
        replace dq2 := Dp.kq kq3 _ _ dq2
        generalize upd G1 q3 (.tup [.str "if", .ref q1, b, .ref q2, .int (num : Nat)]) = G2 at kq3 db dq1 dq2 dq3
        replace kg := kg.trans kq3
        walk_at "rd"
        first | refine ⟨szl (Nat.le_of_ble_eq_true rfl), fun q4 hq4 => ?_⟩ | refine fun q4 hq4 => ?_
        have dz : Dp K (upd G2 q4 (.tup [.ref q3])) (.ref q4) (.tuple (encs [(Sm.ite (.tru "p") (blk (num + 1) os') [] num)])) := Dp.new (.cons dq3 .nil) (Sms.nl [(Sm.ite (.tru "p") (blk (num + 1) os') [] num)]) hq4
        refine ⟨_, _, _, _, rfl, (k4.trans kg).trans (Kp.new hq4), ?_⟩
        rw [e3]
        exact dz
      · walk_at "rd"
        have db : Dp K H' b (.tuple (encs (blk (num + 1) os'))) := d4
        first | refine ⟨szl (Nat.le_of_ble_eq_true rfl), fun q1 hq1 => ?_⟩ | refine fun q1 hq1 => ?_
        have kq1 : Kp [] H' (upd H' q1 (.tup [.str "true", .str "p"])) := Kp.new hq1
        have dq1 : Dp K (upd H' q1 (.tup [.str "true", .str "p"])) (.ref q1) (Ts.tru "p").enc := Dp.new (by walk_at "dp") rfl hq1
        replace db := Dp.kq kq1 _ _ db
        generalize upd H' q1 (.tup [.str "true", .str "p"]) = G0 at kq1 db dq1
        have kg := kq1
        walk_at "rd"
        first | refine ⟨szl (Nat.le_of_ble_eq_true rfl), fun q3 hq3 => ?_⟩ | refine fun q3 hq3 => ?_
        have kq3 : Kp [] G0 (upd G0 q3 (.tup [.str "while", .ref q1, b, .int (num : Nat)])) := Kp.new hq3
        have dq3 : Dp K (upd G0 q3 (.tup [.str "while", .ref q1, b, .int (num : Nat)])) (.ref q3) (Sm.whl (.tru "p") (blk (num + 1) os') num).enc := Dp.new (.cons (.str _) (.cons dq1 (.cons db (.cons (.int _) .nil)))) (Sm.nl (Sm.whl (.tru "p") (blk (num + 1) os') num)) hq3
        replace db := Dp.kq kq3 _ _ db
        replace dq1 := Dp.kq kq3 _ _ dq1
        generalize upd G0 q3 (.tup [.str "while", .ref q1, b, .int (num : Nat)]) = G1 at kq3 db dq1 dq3
        replace kg := kg.trans kq3
        walk_at "rd"
        first | refine ⟨szl (Nat.le_of_ble_eq_true rfl), fun q4 hq4 => ?_⟩ | refine fun q4 hq4 => ?_
        have dz : Dp K (upd G1 q4 (.tup [.ref q3])) (.ref q4) (.tuple (encs [(Sm.whl (.tru "p") (blk (num + 1) os') num)])) := Dp.new (.cons dq3 .nil) (Sms.nl [(Sm.whl (.tru "p") (blk (num + 1) os') num)]) hq4
        refine ⟨_, _, _, _, rfl, (k4.trans kg).trans (Kp.new hq4), ?_⟩
        rw [e3]
        exact dz
      · walk_at "rd"
        have db : Dp K H' b (.tuple (encs (blk (num + 1) os'))) := d4
        first | refine ⟨szl (Nat.le_of_ble_eq_true rfl), fun q0 hq0 => ?_⟩ | refine fun q0 hq0 => ?_
        have kq0 : Kp [] H' (upd H' q0 (.tup [.str "number", .int 3])) := Kp.new hq0
        have dq0 : Dp K (upd H' q0 (.tup [.str "number", .int 3])) (.ref q0) (Vl.num 3).enc := Dp.new (by walk_at "dp") rfl hq0
        replace db := Dp.kq kq0 _ _ db
        generalize upd H' q0 (.tup [.str "number", .int 3]) = G0 at kq0 db dq0
        have kg := kq0
        walk_at "rd"
        first | refine ⟨szl (Nat.le_of_ble_eq_true rfl), fun q1 hq1 => ?_⟩ | refine fun q1 hq1 => ?_
        have kq1 : Kp [] G0 (upd G0 q1 (.tup [.str "same", .str "p", .ref q0])) := Kp.new hq1
        have dq1 : Dp K (upd G0 q1 (.tup [.str "same", .str "p", .ref q0])) (.ref q1) (Ts.same "p" (.num 3)).enc := Dp.new (.cons (.str _) (.cons (.str _) (.cons dq0 .nil))) rfl hq1
        replace db := Dp.kq kq1 _ _ db
        replace dq0 := Dp.kq kq1 _ _ dq0
        generalize upd G0 q1 (.tup [.str "same", .str "p", .ref q0]) = G1 at kq1 db dq0 dq1
        replace kg := kg.trans kq1
        walk_at "rd"
        first | refine ⟨szl (Nat.le_of_ble_eq_true rfl), fun q2 hq2 => ?_⟩ | refine fun q2 hq2 => ?_
        have kq2 : Kp [] G1 (upd G1 q2 (.tup [])) := Kp.new hq2
        have dq2 : Dp K (upd G1 q2 (.tup [])) (.ref q2) (.tuple (encs [])) := Dp.new .nil rfl hq2
        replace db := Dp.kq kq2 _ _ db
        replace dq0 := Dp.kq kq2 _ _ dq0
        replace dq1 := Dp.kq kq2 _ _ dq1
        generalize upd G1 q2 (.tup []) = G2 at kq2 db dq0 dq1 dq2
        replace kg := kg.trans kq2
        walk_at "rd"
        first | refine ⟨szl (Nat.le_of_ble_eq_true rfl), fun q3 hq3 => ?_⟩ | refine fun q3 hq3 => ?_
        have kq3 : Kp [] G2 (upd G2 q3 (.tup [.str "if", .ref q1, .ref q2, b, .int (num : Nat)])) := Kp.new hq3
        have dq3 : Dp K (upd G2 q3 (.tup [.str "if", .ref q1, .ref q2, b, .int (num : Nat)])) (.ref q3) (Sm.ite (.same "p" (.num 3)) [] (blk (num + 1) os') num).enc := Dp.new (.cons (.str _) (.cons dq1 (.cons dq2 (.cons db (.cons (.int _) .nil))))) (Sm.nl (Sm.ite (.same "p" (.num 3)) [] (blk (num + 1) os') num)) hq3
        replace db := Dp.kq kq3 _ _ db
        replace dq0 := Dp.kq kq3 _ _ dq0
        replace dq1 := Dp.kq kq3 _ _ dq1
        replace dq2 := Dp.kq kq3 _ _ dq2
        generalize upd G2 q3 (.tup [.str "if", .ref q1, .ref q2, b, .int (num : Nat)]) = G3 at kq3 db dq0 dq1 dq2 dq3
        replace kg := kg.trans kq3
        walk_at "rd"
        first | refine ⟨szl (Nat.le_of_ble_eq_true rfl), fun q4 hq4 => ?_⟩ | refine fun q4 hq4 => ?_
        have dz : Dp K (upd G3 q4 (.tup [.ref q3])) (.ref q4) (.tuple (encs [(Sm.ite (.same "p" (.num 3)) [] (blk (num + 1) os') num)])) := Dp.new (.cons dq3 .nil) (Sms.nl [(Sm.ite (.same "p" (.num 3)) [] (blk (num + 1) os') num)]) hq4
        refine ⟨_, _, _, _, rfl, (k4.trans kg).trans (Kp.new hq4), ?_⟩
        rw [e3]
        exact dz
      · walk_at "rd"
        have db : Dp K H' b (.tuple (encs (blk (num + 1) os'))) := d4
        first | refine ⟨szl (Nat.le_of_ble_eq_true rfl), fun q0 hq0 => ?_⟩ | refine fun q0 hq0 => ?_
        have kq0 : Kp [] H' (upd H' q0 (.tup [.str "nil"])) := Kp.new hq0
        have dq0 : Dp K (upd H' q0 (.tup [.str "nil"])) (.ref q0) Vl.nil.enc := Dp.new (by walk_at "dp") rfl hq0
        replace db := Dp.kq kq0 _ _ db
        generalize upd H' q0 (.tup [.str "nil"]) = G0 at kq0 db dq0
        have kg := kq0
        walk_at "rd"
        first | refine ⟨szl (Nat.le_of_ble_eq_true rfl), fun q1 hq1 => ?_⟩ | refine fun q1 hq1 => ?_
        have kq1 : Kp [] G0 (upd G0 q1 (.tup [.str "same", .str "p", .ref q0])) := Kp.new hq1
        have dq1 : Dp K (upd G0 q1 (.tup [.str "same", .str "p", .ref q0])) (.ref q1) (Ts.same "p" .nil).enc := Dp.new (.cons (.str _) (.cons (.str _) (.cons dq0 .nil))) rfl hq1
        replace db := Dp.kq kq1 _ _ db
        replace dq0 := Dp.kq kq1 _ _ dq0
        generalize upd G0 q1 (.tup [.str "same", .str "p", .ref q0]) = G1 at kq1 db dq0 dq1
        replace kg := kg.trans kq1
        walk_at "rd"
        first | refine ⟨szl (Nat.le_of_ble_eq_true rfl), fun q3 hq3 => ?_⟩ | refine fun q3 hq3 => ?_
        have kq3 : Kp [] G1 (upd G1 q3 (.tup [.str "while", .ref q1, b, .int (num : Nat)])) := Kp.new hq3
        have dq3 : Dp K (upd G1 q3 (.tup [.str "while", .ref q1, b, .int (num : Nat)])) (.ref q3) (Sm.whl (.same "p" .nil) (blk (num + 1) os') num).enc := Dp.new (.cons (.str _) (.cons dq1 (.cons db (.cons (.int _) .nil)))) (Sm.nl (Sm.whl (.same "p" .nil) (blk (num + 1) os') num)) hq3
        replace db := Dp.kq kq3 _ _ db
        replace dq0 := Dp.kq kq3 _ _ dq0
        replace dq1 := Dp.kq kq3 _ _ dq1
        generalize upd G1 q3 (.tup [.str "while", .ref q1, b, .int (num : Nat)]) = G2 at kq3 db dq0 dq1 dq3
        replace kg := kg.trans kq3
        walk_at "rd"
        first | refine ⟨szl (Nat.le_of_ble_eq_true rfl), fun q4 hq4 => ?_⟩ | refine fun q4 hq4 => ?_
        have dz : Dp K (upd G2 q4 (.tup [.ref q3])) (.ref q4) (.tuple (encs [(Sm.whl (.same "p" .nil) (blk (num + 1) os') num)])) := Dp.new (.cons dq3 .nil) (Sms.nl [(Sm.whl (.same "p" .nil) (blk (num + 1) os') num)]) hq4
        refine ⟨_, _, _, _, rfl, (k4.trans kg).trans (Kp.new hq4), ?_⟩
        rw [e3]
        exact dz
    rintro σ H4 ⟨b, z6, z7, z8, rfl, k4, d4⟩
    rw [Nat.sub_self] at d4
    rw [List.drop_zero] at d4
    walk_at "rd"
    first | refine ⟨szl (Nat.le_of_ble_eq_true rfl), fun u hu => ?_⟩ | refine fun u hu => ?_
    have ku : Kp [] H3 (upd H4 u (.lst [.str (frontT os), .str (endT L), b])) := k4.trans (Kp.new hu)
    have huH : H u = none := (k13.trans k4.nil).fresh (by
      intro m
      exact (s3.kp k4).old hu (List.mem_singleton.mp m)) hu
    exact k os hl h4 u b _ huH (k13.trans ku.nil) (s3.kp ku) (Dp.kq (Kp.new hu) _ _ d4) upd_same
end
end K14


set_option Elab.async false
set_option linter.all false
set_option maxRecDepth 100000
set_option maxHeartbeats 4000000
namespace K14
open PySem PySem.Spec PyProof.Rows L2 He Hz Cm Lx Px Ly Qx Nx
local macro_rules | `(tactic| walk_at "rd") => `(tactic| repeat (first | (refine ⟨_, rfl, ?_⟩) | (refine ⟨_, _, rfl, rfl, ?_⟩) | (refine ⟨rfl, ?_⟩) | (refine ⟨szl (by omega), ?_⟩) | (refine ⟨_, _, _, _, _, rfl, (by assumption), (by assumption), (by assumption), (by rfl), ?_⟩) | (refine ⟨_, _, rfl, Or.inl (by assumption), ?_⟩)))
local macro_rules | `(tactic| walk_at "dp") => `(tactic| (repeat' (first | exact DpAll.nil | apply DpAll.cons | exact Dp.str _ | exact Dp.int _ | exact Dp.non | exact Dp.bl _ | assumption)))
theorem noLs_rep {d : PyData} (h : noL d = true) : ∀ n, noLs (List.replicate n d) = true
  | 0 => rfl
  | n + 1 => by
    rw [List.replicate_succ]
    show (noL d && noLs (List.replicate n d)) = true
    rw [h, noLs_rep h n]
    rfl
theorem blk_sok : ∀ (os : List Nat) (k : Nat), ∀ s ∈ blk k os, Sok (2 * os.length + 3) s.enc
  | [], k => all_cons ((Sok.tup (n := 0) (all_cons (.str (by decide +kernel)) (all_cons (.str (by decide +kernel)) (all_cons .int all_nil)))).mono (by decide)) all_nil
  | o :: os, k => by
    have ih : Sok (2 * os.length + 4) (.tuple (encs (blk (k + 1) os))) := by
      refine .tup fun d m => ?_
      rw [encs_map] at m
      obtain ⟨s, hs, rfl⟩ := List.mem_map.mp m
      exact blk_sok os (k + 1) s hs
    have nil_ : ∀ {n : Nat}, Sok (n + 1) (.tuple (encs [])) := .tup all_nil
    have tru : ∀ {n : Nat}, Sok (n + 1) (Ts.tru "p").enc := .tup (all_cons (.str (by decide +kernel)) (all_cons (.str (by decide +kernel)) all_nil))
    have sam : ∀ {n : Nat} (v : Vl), Sok (n + 1) v.enc → Sok (n + 2) (Ts.same "p" v).enc := fun v h => .tup (all_cons (.str (by decide +kernel)) (all_cons (.str (by decide +kernel)) (all_cons h all_nil)))
    have num : ∀ {n : Nat}, Sok (n + 1) (Vl.num 3).enc := .tup (all_cons (.str (by decide +kernel)) (all_cons .int all_nil))
    have nl : ∀ {n : Nat}, Sok (n + 1) Vl.nil.enc := .tup (all_cons (.str (by decide +kernel)) all_nil)
    have en : 2 * (o :: os).length + 3 = 2 * os.length + 4 + 1 := by rw [List.length_cons]; omega
    rw [en]
    unfold blk
    split
    · exact all_cons (.tup (all_cons (.str (by decide +kernel)) (all_cons tru (all_cons ih (all_cons nil_ (all_cons .int all_nil)))))) all_nil
    · exact all_cons (.tup (all_cons (.str (by decide +kernel)) (all_cons tru (all_cons ih (all_cons .int all_nil))))) all_nil
    · exact all_cons (.tup (all_cons (.str (by decide +kernel)) (all_cons (sam _ num) (all_cons nil_ (all_cons ih (all_cons .int all_nil)))))) all_nil
    · exact all_cons (.tup (all_cons (.str (by decide +kernel)) (all_cons (sam _ nl) (all_cons ih (all_cons .int all_nil))))) all_nil
theorem fd_sok {z : Str} (hz : PyData.strOk z = true) {n : Nat} {ss : List Sm} (h : ∀ s ∈ ss, Sok n s.enc) : Sok (n + 2) (Fd.enc ⟨"f", [z], ss⟩) := by
  refine .tup (all_cons (.str (show PyData.strOk "f" = true by decide +kernel)) (all_cons (.tup (all_cons (.str hz) all_nil)) (all_cons (.tup fun d m => ?_) all_nil)))
  rw [encs_map] at m
  obtain ⟨s, hs, rfl⟩ := List.mem_map.mp m
  exact h s hs
/-- a text without its last n signs, and those -/
theorem cut_front {x : Str} {n : Nat} (h : n ≤ x.length) : (cutS x none (some ((x.length : Int) - (n : Int)))).cps.toList = x.cps.toList.take (x.length - n) := by
  have e : (x.length : Int) - (n : Int) = ((x.length - n : Nat) : Int) := by omega
  have z := cut_at (x := x) (n := 0) (m := x.length - n) (Nat.zero_le _) (by omega)
  rw [List.drop_zero, Nat.sub_zero] at z
  rw [e, ← z]
  unfold cutS
  rw [show HT.sIx x.length 0 (some ((0 : Nat) : Int)) = HT.sIx x.length 0 none by rw [HT.sIx_nat]; exact Nat.zero_min _]
theorem cut_back {x : Str} {n : Nat} (h : n ≤ x.length) : (cutS x (some ((x.length : Int) - (n : Int))) none).cps.toList = x.cps.toList.drop (x.length - n) := by
  have e : (x.length : Int) - (n : Int) = ((x.length - n : Nat) : Int) := by omega
  have z := cut_at (x := x) (n := x.length - n) (m := x.length) (by omega) (Nat.le_refl _)
  rw [e]
  have e2 : cutS x (some ((x.length - n : Nat) : Int)) none = cutS x (some ((x.length - n : Nat) : Int)) (some ((x.length : Nat) : Int)) := by
    unfold cutS
    rw [show HT.sIx x.length x.length (some ((x.length : Nat) : Int)) = HT.sIx x.length x.length none by rw [HT.sIx_nat]; exact Nat.min_self _]
  rw [e2, z]
  exact List.take_of_length_le (by
    have : x.cps.toList.length = x.length := rfl
    rw [List.length_drop]
    omega)
theorem deep_list {os : List Nat} {o : Nat} (h : ∀ y ∈ os ++ [o], y < 4) : (frontT (os ++ [o])).cps.toList = hdI ++ opsI os ++ opI o ++ [123] := by
  rw [front_list h, opsI_snoc]
  simp only [List.append_assoc]
theorem deep_else {os : List Nat} {o : Nat} (h : ∀ y ∈ os ++ [o], y < 4) : decide (V.str (cutS (frontT (os ++ [o])) (some (((frontT (os ++ [o])).length : Int) - ((6 : Nat) : Int))) none) = V.str "else {") = decide (o = 2) := by
  have ho : o < 4 := h o (List.mem_append_right _ (List.mem_singleton.mpr rfl))
  have hl := front_len h
  have hd := deep_list h
  have hln : (frontT (os ++ [o])).cps.toList.length = (frontT (os ++ [o])).length := rfl
  have hc : (cutS (frontT (os ++ [o])) (some (((frontT (os ++ [o])).length : Int) - ((6 : Nat) : Int))) none).cps.toList = (opI o ++ [123]).drop ((opI o).length + 1 - 6) := by
    rw [cut_back (by omega), ← hln, hd]
    have e : hdI ++ opsI os ++ opI o ++ [123] = (hdI ++ opsI os) ++ (opI o ++ [123]) := by simp only [List.append_assoc]
    have h6 : ∀ o, o < 4 → 6 ≤ (opI o).length + 1 := by decide
    have h6' := h6 o ho
    rw [e, List.drop_append, List.drop_eq_nil_of_le ?_, List.nil_append]
    · congr 1
      simp only [List.length_append, List.length_cons, List.length_nil]
      omega
    · simp only [List.length_append, List.length_cons, List.length_nil]
      omega
  have h7 : ∀ o, o < 4 → ((opI o ++ [123]).drop ((opI o).length + 1 - 6) = [101, 108, 115, 101, 32, 123] ↔ o = 2) := by decide
  refine decide_eq_decide.mpr ⟨fun z => ?_, fun z => ?_⟩
  · have z2 : (cutS (frontT (os ++ [o])) (some (((frontT (os ++ [o])).length : Int) - ((6 : Nat) : Int))) none).cps.toList = [101, 108, 115, 101, 32, 123] := congrArg (fun s : Str => s.cps.toList) (V.str.inj z)
    rw [hc] at z2
    exact (h7 o ho).mp z2
  · refine congrArg V.str (TL.ext_tl ?_)
    show (cutS _ _ _).cps.toList = _
    rw [hc, (h7 o ho).mpr z]
    decide +kernel
theorem deep_par {os : List Nat} {o : Nat} (h : ∀ y ∈ os ++ [o], y < 4) : (cutS (frontT (os ++ [o])) none (some (((frontT (os ++ [o])).length : Int) - ((1 : Nat) : Int))) ++ "(").cps.toList = hdI ++ opsI os ++ (opI o ++ [40]) := by
  have hl := front_len h
  have hd := deep_list h
  have hln : (frontT (os ++ [o])).cps.toList.length = (frontT (os ++ [o])).length := rfl
  have e40 : ("(" : Str).cps.toList = [40] := by decide +kernel
  rw [app_list, cut_front (by omega), ← hln, hd, e40, List.length_append, List.length_singleton, Nat.add_sub_cancel, List.take_left, List.append_assoc]
section
variable {P : Program} {w : World} {K : PySem.W.Frag} {mg : Str → Option Value} {base : Heap} {H H1 H' : Hp} {Q : VK} {E : XK}
def spLR : Sp := fun vs H Q _ => ∃ st sc, vs = [.ref st] ∧ PoolAt K H st sc ∧ ∀ H', Kp [st] H H' → PoolAt K H' st sc → Q (.bl true) H'
def bigD : PyData := encX (.big "depth")
theorem ok_law_levels_right (T : Tx P K mg) : OkF P w K mg base CX0 42 a__law_levels_right ["pool"] (spLR (K := K)) := by
  have nd := sc__law_levels_right.nd
  have F__law_take := ok_law_take (P := P) (w := w) (base := base) T
  have F__law_nested := ok_law_nested (P := P) (w := w) (base := base) T
  have F__law_told := ok_law_told (P := P) (w := w) (base := base) T
  refine T.f__law_levels_right.ok (CX := CX0) sc__law_levels_right (fun vs H Q E h => ?_) (fun cdv A outer s H vs Q E hr h => ?_)
  · obtain ⟨_, _, rfl, _⟩ := h
    rfl
  · obtain ⟨st, sc, rfl, s0, k⟩ := h
    refine ⟨_, PSs.nox (pss_cons (ps_set (i := 1) nd rfl (Or.inl rfl) (pe_op op_add pe_int (pe_call F__law_take (hr.mono (by decide)) rfl T.g__law_take T.k__law_take T.b__law_take .nil pass0 (pa_cons (pv 0) (pa_cons pe_int pa_nil)))))
      (pss_cons (ps_asg (pe_call F__law_nested (hr.mono (by decide)) rfl T.g__law_nested T.k__law_nested T.b__law_nested .nil pass0 (pa_cons (pv 0) (pa_cons (pv 1) pa_nil))) (L2.pg_lst rfl (pgs_cons (pg_name (i := 2) nd rfl (Or.inl rfl)) (pgs_cons (pg_name (i := 3) nd rfl (Or.inl rfl)) (pgs_cons (pg_name (i := 4) nd rfl (Or.inl rfl)) pgs_nil)))))
      (pss_cons (ps_set (i := 5) nd rfl (Or.inr rfl) (pe_op op_add_str (pe_op op_add_str (pv 2) pe_str) (pv 3)))
      (pss_cons (ps_if (pt_cmpR op_gt (pv 1) pe_int (nomark _)) (pss_cons (ps_if (pt_cmpR (op_neD hr.units) (pe_lc (own := [("call", 8)]) (g := gName 8) (tt := tYes) rfl nd (pi_list (pe_lst (pa_cons (pe_gref T.g_parse) (pa_cons (pe_gref T.g_parse_function) (pa_cons (pe_gref T.g_program_of) pa_nil))))) (blkOk_by (N := (["pool", "levels", "text", "end", "block", "whole", "deep", "due", "call"] : List Str)) (sc := defScope s__law_levels_right) (by decide +kernel)) (fun _ _ _ _ _ => pg_name (i := 8) nd rfl (Or.inl rfl)) (fun _ _ _ _ _ => pts_nil) (fun _ _ _ _ _ => by exact (pe_call F__law_told (hr.mono (by decide)) rfl T.g__law_told T.k__law_told T.b__law_told .nil pass0 (pa_cons (pv 8) (pa_cons (pv 5) pa_nil))))) (pe_op op_rep (pe_lst (pa_cons (pe_tup (pa_cons pe_str (pa_cons pe_str pa_nil))) pa_nil)) pe_int) (nomark _)) (pss_one (ps_ret pe_bl)) pss_nil)
      (pss_cons (ps_asg (pe_call F__law_nested (hr.mono (by decide)) rfl T.g__law_nested T.k__law_nested T.b__law_nested .nil pass0 (pa_cons (pv 0) (pa_cons pe_int pa_nil))) (L2.pg_lst rfl (pgs_cons (pg_name (i := 6) nd rfl (Or.inl rfl)) (pgs_cons (pg_name (i := 3) nd rfl (Or.inl rfl)) (pgs_cons (pg_name (i := 4) nd rfl (Or.inl rfl)) pgs_nil)))))
      (pss_cons (ps_set (i := 7) nd rfl (Or.inl rfl) (pe_tup (pa_cons pe_str (pa_cons (pe_op op_sub (pe_callB call_len_str (by rfl) T.n_len PySem.boot_len (pa_cons (pv 6) pa_nil)) pe_int) pa_nil))))
      (pss_cons (ps_if (pt_cmpR op_eq (pe_slice sl_str (pv 6) (po_some (pe_op op_sub (pe_callB call_len_str (by rfl) T.n_len PySem.boot_len (pa_cons (pv 6) pa_nil)) pe_int)) po_none) pe_str (nomark _)) (pss_one (ps_set (i := 7) nd rfl (Or.inl rfl) (pe_tup (pa_cons pe_str (pa_cons pe_str pa_nil))))) pss_nil)
      (pss_one (ps_ret (pe_cmpR (op_eqD hr.units) (pe_call F__law_told (hr.mono (by decide)) rfl T.g__law_told T.k__law_told T.b__law_told .nil pass0 (pa_cons (pe_gref T.g_parse_function) (pa_cons (pe_op op_add_str (pe_slice sl_str (pv 6) po_none (po_some (pe_op op_sub (pe_callB call_len_str (by rfl) T.n_len PySem.boot_len (pa_cons (pv 6) pa_nil)) pe_int))) pe_str) pa_nil))) (pv 7) (nomark _)))))))) pss_nil)
      (pss_cons (ps_set (i := 7) nd rfl (Or.inl rfl) (pe_tup (pa_cons pe_str (pa_cons (pe_tup (pa_cons pe_str pa_nil)) (pa_cons (pv 4) pa_nil)))))
      (pss_one (ps_ret (pe_and (pe_cmpR (op_eqD hr.units) (pe_call F__law_told (hr.mono (by decide)) rfl T.g__law_told T.k__law_told T.b__law_told .nil pass0 (pa_cons (pe_gref T.g_parse_function) (pa_cons (pv 5) pa_nil))) (pe_tup (pa_cons pe_str (pa_cons (pv 7) pa_nil))) (nomark _)) (pe_one (pe_cmpR (op_eqD hr.units) (pe_call F__law_told (hr.mono (by decide)) rfl T.g__law_told T.k__law_told T.b__law_told .nil pass0 (pa_cons (pe_gref T.g_parse) (pa_cons (pv 5) pa_nil))) (pe_tup (pa_cons pe_str (pa_cons (pe_lst (pa_cons (pe_tup (pa_cons pe_str (pa_cons (pv 7) pa_nil))) pa_nil)) pa_nil))) (nomark _))))))))))), ?_⟩
    walk_at "rd"
    refine ⟨st, sc, 6, rfl, by decide, by decide, s0, fun t ht H1 k1 s1 => ?_⟩
    walk_at "rd"
    refine ⟨st, sc, 9 + t, (by
      have e : (10 + (t : Int)) = ((9 + t : Nat) : Int) + 1 := by omega
      rw [← e] <;> rfl), by omega, s1, fun os hl h4 u b H2 hu r2 s2 d2 l2 => ?_⟩
    have k2 := k1.trans r2
    refine ⟨_, _, rfl, SqL.of l2, rfl, ?_⟩
    refine ⟨_, _, rfl, _, _, rfl, _, _, rfl, rfl, ?_⟩
    have hf := front_len h4
    have ho := opsI_len os
    have he := end_len (9 + t)
    have hb : (" " : Str).length = 1 := by decide +kernel
    have hw : frontT os ++ " " ++ endT (9 + t) = wholeT os := by
      unfold wholeT
      rw [hl]
    have hwl := whole_len h4 (by omega)
    walk_at "rd"
    simp only [hw]
    refine ⟨szl (by rw [Str.length_append]; omega), ?_⟩
    walk_at "rd"
    refine iteB (fun h => ?_) (fun h => ?_)
    · have h12 := of_decide_eq_true h
      obtain ⟨bp, br⟩ := whole_big h4 (by omega) (by omega)
      walk_at "rd"
      first | refine ⟨szl (Nat.le_of_ble_eq_true rfl), fun p3 hp3 => ?_⟩ | refine fun p3 hp3 => ?_
      have k3 : Kp [] H2 (upd H2 p3 (HO.lst [V.ref (ga K "parse"), V.ref (ga K "parse_function"), V.ref (ga K "program_of")])) := Kp.new hp3
      have l3 : (upd H2 p3 (HO.lst [V.ref (ga K "parse"), V.ref (ga K "parse_function"), V.ref (ga K "program_of")])) p3 = some (HO.lst [V.ref (ga K "parse"), V.ref (ga K "parse_function"), V.ref (ga K "program_of")]) := upd_same
      generalize upd H2 p3 (HO.lst [V.ref (ga K "parse"), V.ref (ga K "parse_function"), V.ref (ga K "program_of")]) = H3 at k3 l3
      have says : ∀ (i : Nat) (y : V), ([V.ref (ga K "parse"), V.ref (ga K "parse_function"), V.ref (ga K "program_of")] : List V)[i]? = some y → ∃ f, y = V.ref f ∧ Says K (wholeT os) f (.error (.big "depth")) := fun i y hy => by
        match i, hy with
        | 0, hy => exact ⟨fAd K a_parse, (Option.some.inj hy).symm, .prs (fu := 101) (r := .error (.big "depth")) (by decide) br⟩
        | 1, hy => exact ⟨fAd K a_parse_function, (Option.some.inj hy).symm, .pfn (fu := 100) (r := .error (.big "depth")) (by decide) bp⟩
        | 2, hy => exact ⟨fAd K a_program_of, (Option.some.inj hy).symm, .prg (fu := 101) (by decide) br⟩
        | i + 3, hy => cases hy
      have kb : Kn (.big "depth") := show PyData.strOk "depth" = true by decide +kernel
      have nb : noL bigD = true := rfl
      walk_at "rd"
      refine ⟨⟨_, SqL.of l3⟩, ?_⟩
      intro D hD
      refine lc_list (xs := [V.ref (ga K "parse"), V.ref (ga K "parse_function"), V.ref (ga K "program_of")]) (fun i H' => ∃ vs, Kp [] H3 H' ∧ DpAll K H' vs (List.replicate i bigD) ∧ vs.length = i ∧ H' D = some (.lst vs)) ⟨[], Kp.new hD, .nil, rfl, upd_same⟩ ?_ ?_ ?_
      · rintro i H' hi ⟨vs, k4, d4, hvl, hD4⟩
        exact SqL.of (k4.keep _ _ (by simp) l3)
      · rintro i y H4 hy ⟨vs, k4, d4, hvl, hD4⟩
        have hi3 : i < 3 := (List.getElem?_eq_some_iff.mp hy).1
        obtain ⟨f, rfl, hsay⟩ := says i y hy
        refine ⟨rfl, ?_⟩
        walk_at "rd"
        refine ⟨f, _, _, rfl, by omega, hsay, kb, fun u6 H6 k6 hu6 => ?_⟩
        have kD : Kp [D] H6 (upd H6 D (.lst (vs ++ [u6]))) := Kp.put (k6.keep _ _ (by simp) hD4) nt_lst (by simp)
        walk_at "rd"
        refine ⟨_, k6.keep _ _ (by simp) hD4, szt (by omega), vs ++ [u6], (k4.trans k6).mine hD, ?_, by rw [List.length_append, hvl]; rfl, upd_same⟩
        rw [List.replicate_succ']
        exact DpAll.snoc (Dp.kps kD _ _ (noLs_rep nb _) (Dp.kps k6 _ _ (noLs_rep nb _) d4)) (Dp.kp kD _ _ nb hu6)
      rintro H5 ⟨vs, k5, d5, hvl, hD5⟩
      walk_at "rd"
      first | refine ⟨szl (Nat.le_of_ble_eq_true rfl), fun q1 hq1 => ?_⟩ | refine fun q1 hq1 => ?_
      walk_at "rd"
      first | refine ⟨szl (Nat.le_of_ble_eq_true rfl), fun q2 hq2 => ?_⟩ | refine fun q2 hq2 => ?_
      walk_at "rd"
      have k6 : Kp [] H5 (upd (upd H5 q1 (.tup [.str "oversized", .str "depth"])) q2 (.lst [.ref q1])) := (Kp.new hq1).trans (Kp.new hq2)
      have dq : Dp K (upd (upd H5 q1 (.tup [.str "oversized", .str "depth"])) q2 (.lst [.ref q1])) (.ref q1) bigD := Dp.kq (Kp.new hq2) _ _ (Dp.new (vs := [.str "oversized", .str "depth"]) (ds := [.str "oversized", .str "depth"]) (by walk_at "dp") rfl hq1)
      have l6 : (upd (upd H5 q1 (.tup [.str "oversized", .str "depth"])) q2 (.lst [.ref q1])) q2 = some (.lst [.ref q1]) := upd_same
      generalize upd (upd H5 q1 (HO.tup [.str "oversized", .str "depth"])) q2 (HO.lst [.ref q1]) = H6 at k6 dq l6
      refine ⟨_, _, _, rfl, rfl, l6, by decide, by decide, Nat.le_of_ble_eq_true rfl, fun q3 hq3 => ?_⟩
      have k7 : Kp [] H6 (upd H6 q3 (.lst (List.replicate (3 : Int).toNat [V.ref q1]).flatten)) := Kp.new hq3
      have dl : Dp K (upd H6 q3 (.lst (List.replicate (3 : Int).toNat [V.ref q1]).flatten)) (.ref q3) (.list (List.replicate 3 bigD)) := by
        have z := Dp.kq k7 _ _ dq
        exact .lst (SqL.of upd_same) (.cons z (.cons z (.cons z .nil)))
      have dr : Dp K (upd H6 q3 (.lst (List.replicate (3 : Int).toNat [V.ref q1]).flatten)) (.ref D) (.list (List.replicate 3 bigD)) := by
        have k57 := k6.trans k7
        exact .lst (SqL.of (k57.keep _ _ (by simp) hD5)) (Dp.kqs k57 _ _ d5)
      have so : Sok 2 (.list (List.replicate 3 bigD)) := .lst fun d m => by
        rw [List.eq_of_mem_replicate m]
        exact encX_sok kb
      refine ⟨_, _, dr, dl, so.shaped (by decide), so.shaped (by decide), ?_⟩
      rw [so.refl]
      have k37 := k3.trans (k5.trans (k6.trans k7))
      generalize upd H6 q3 (.lst (List.replicate (3 : Int).toNat [V.ref q1]).flatten) = H7 at k37
      have s7 := s2.kp k37
      replace k7 := k2.trans k37.nil
      clear dl dr
      walk_at "rd"
      refine ⟨st, sc, 12, rfl, by decide, s7, fun os2 hl2 h42 u2 b2 H8 hu2 r8 s8 d8 l8 => ?_⟩
      have k8 := k7.trans r8
      refine ⟨_, _, rfl, SqL.of l8, rfl, ?_⟩
      refine ⟨_, _, rfl, _, _, rfl, _, _, rfl, rfl, ?_⟩
      obtain ⟨os', o, rfl⟩ : ∃ os' o, os2 = os' ++ [o] := ⟨_, _, (List.dropLast_concat_getLast (by intro z; rw [z] at hl2; cases hl2)).symm⟩
      have hl' : os'.length = 11 := by
        rw [List.length_append, List.length_singleton] at hl2
        omega
      have h4' : ∀ y ∈ os', y < 4 := fun y m => h42 y (List.mem_append_left _ m)
      have ho' : o < 4 := h42 o (List.mem_append_right _ (List.mem_singleton.mpr rfl))
      have hf2 := front_len h42
      have hf3 := opsI_len (os' ++ [o])
      have hfl : (frontT (os' ++ [o])).length ≤ 600 := by omega
      have hfe : (hdI ++ opsI os' ++ opI o).length + 1 = (frontT (os' ++ [o])).length := by
        have e : (frontT (os' ++ [o])).length = (frontT (os' ++ [o])).cps.toList.length := rfl
        rw [e, deep_list h42, List.length_append (bs := [123])]
        rfl
      have hpf := deep_pfn h4' ho' hl' (deep_par h42)
      have hel := deep_else h42
      have hpl : (cutS (frontT (os' ++ [o])) none (some (((frontT (os' ++ [o])).length : Int) - ((1 : Nat) : Int))) ++ "(").length ≤ 600 := by
        have e : (cutS (frontT (os' ++ [o])) none (some (((frontT (os' ++ [o])).length : Int) - ((1 : Nat) : Int))) ++ "(").length = (cutS (frontT (os' ++ [o])) none (some (((frontT (os' ++ [o])).length : Int) - ((1 : Nat) : Int))) ++ "(").cps.toList.length := rfl
        rw [e, deep_par h42]
        simp only [List.length_append, List.length_cons, List.length_nil] at hfe ⊢
        omega
      generalize hF : frontT (os' ++ [o]) = F at hf2 hfl hfe hpf hel hpl
      have hme : ((F.length : Int) - 1) = (((hdI ++ opsI os' ++ opI o).length : Nat) : Int) := by omega
      walk_at "rd"
      first | refine ⟨szl (Nat.le_of_ble_eq_true rfl), fun q4 hq4 => ?_⟩ | refine fun q4 hq4 => ?_
      have k9 : Kp [] H8 (upd H8 q4 (.tup [.str "malformed", .int ((F.length : Int) - 1)])) := Kp.new hq4
      have d9 : Dp K (upd H8 q4 (.tup [.str "malformed", .int ((F.length : Int) - 1)])) (.ref q4) (encX (.mal (hdI ++ opsI os' ++ opI o).length)) := by
        have hq := hq4
        rw [hme]
        exact Dp.new (vs := [.str "malformed", .int (((hdI ++ opsI os' ++ opI o).length : Nat) : Int)]) (ds := [.str "malformed", .int (((hdI ++ opsI os' ++ opI o).length : Nat) : Int)]) (by walk_at "dp") rfl hq
      generalize upd H8 q4 (.tup [.str "malformed", .int ((F.length : Int) - 1)]) = H9 at k9 d9
      have s9 : PoolAt K H9 st sc := s8.kp k9
      replace k9 := k8.trans k9.nil
      have hpl2 := hpl
      rw [Str.length_append] at hpl2
      walk_at "rd"
      refine iteB (fun h => ?_) (fun h => ?_)
      · have ho2 : o = 2 := of_decide_eq_true (hel.symm.trans h)
        rw [if_pos ho2] at hpf
        walk_at "rd"
        first | refine ⟨szl (Nat.le_of_ble_eq_true rfl), fun q5 hq5 => ?_⟩ | refine fun q5 hq5 => ?_
        have k10 : Kp [] H9 (upd H9 q5 (.tup [.str "oversized", .str "depth"])) := Kp.new hq5
        have d10 : Dp K (upd H9 q5 (.tup [.str "oversized", .str "depth"])) (.ref q5) (encX (.big "depth")) := Dp.new (vs := [.str "oversized", .str "depth"]) (ds := [.str "oversized", .str "depth"]) (by walk_at "dp") rfl hq5
        generalize upd H9 q5 (.tup [.str "oversized", .str "depth"]) = HA at k10 d10
        have s10 := s9.kp k10
        replace k10 := k9.trans k10.nil
        walk_at "rd"
        refine ⟨szl (Nat.le_trans hpl2 (by decide)), ?_⟩
        walk_at "rd"
        refine ⟨fAd K a_parse_function, cutS F none (some ((F.length : Int) - ((1 : Nat) : Int))) ++ "(", _, rfl, by omega, .pfn (fu := 100) (by decide) hpf, kb, fun uz Hz kz hz => ?_⟩
        walk_at "rd"
        refine ⟨_, _, hz, Dp.kq kz _ _ d10, (encX_sok kb).shaped (by decide), (encX_sok kb).shaped (by decide), ?_⟩
        rw [(encX_sok kb).refl]
        walk_at "rd"
        exact k _ (k10.trans kz.nil) (s10.kp kz)
      · have ho2 : ¬ o = 2 := of_decide_eq_false (hel.symm.trans h)
        rw [if_neg ho2] at hpf
        have km : Kn (.mal (hdI ++ opsI os' ++ opI o).length) := trivial
        walk_at "rd"
        refine ⟨szl (Nat.le_trans hpl2 (by decide)), ?_⟩
        walk_at "rd"
        refine ⟨fAd K a_parse_function, cutS F none (some ((F.length : Int) - ((1 : Nat) : Int))) ++ "(", _, rfl, by omega, .pfn (fu := 100) (by decide) hpf, km, fun uz Hz kz hz => ?_⟩
        walk_at "rd"
        refine ⟨_, _, hz, Dp.kq kz _ _ d9, (encX_sok km).shaped (by decide), (encX_sok km).shaped (by decide), ?_⟩
        rw [(encX_sok km).refl]
        walk_at "rd"
        exact k _ (k9.trans kz.nil) (s9.kp kz)
    · have h12 := of_decide_eq_false h
      obtain ⟨bp, br⟩ := whole_ok h4 (by omega)
      have nlg := Fd.nl ⟨"f", ["p"], blk 0 os⟩
      have sog : Sok 29 (Fd.enc ⟨"f", ["p"], blk 0 os⟩) := (fd_sok (by decide +kernel) (blk_sok os 0)).mono (by omega)
      have sop := fine_sok sog
      have soq : Sok 32 (fineD (itmsD [.fn ⟨"f", ["p"], blk 0 os⟩])) := fine_sok (.lst (all_cons (.tup (all_cons (.str (show PyData.strOk "fn" = true by decide +kernel)) (all_cons sog all_nil))) all_nil))
      walk_at "rd"
      first | refine ⟨szl (Nat.le_of_ble_eq_true rfl), fun q1 hq1 => ?_⟩ | refine fun q1 hq1 => ?_
      walk_at "rd"
      first | refine ⟨szl (Nat.le_of_ble_eq_true rfl), fun q2 hq2 => ?_⟩ | refine fun q2 hq2 => ?_
      have k3 : Kp [] H2 (upd (upd H2 q1 (.tup [.str "p"])) q2 (.tup [.str "f", .ref q1, b])) := (Kp.new hq1).trans (Kp.new hq2)
      have d3 : Dp K (upd (upd H2 q1 (.tup [.str "p"])) q2 (.tup [.str "f", .ref q1, b])) (.ref q2) (Fd.enc ⟨"f", ["p"], blk 0 os⟩) := by
        have e1 : Dp K (upd H2 q1 (.tup [.str "p"])) (.ref q1) (.tuple [.str "p"]) := Dp.new (vs := [.str "p"]) (by walk_at "dp") rfl hq1
        exact Dp.new (.cons (.str _) (.cons e1 (.cons (Dp.kq (Kp.new hq1) _ _ d2) .nil))) nlg hq2
      generalize upd (upd H2 q1 (.tup [.str "p"])) q2 (.tup [.str "f", .ref q1, b]) = H3 at k3 d3
      have s3 := s2.kp k3
      replace k3 := k2.trans k3.nil
      walk_at "rd"
      refine ⟨fAd K a_parse_function, wholeT os, _, rfl, by omega, .pfn (fu := 100) (by decide) bp, fun u4 H4 k4 hu4 => ?_⟩
      replace d3 := Dp.kq k4 _ _ d3
      have s4 := s3.kp k4
      replace k4 := k3.trans k4.nil
      walk_at "rd"
      first | refine ⟨szl (Nat.le_of_ble_eq_true rfl), fun q3 hq3 => ?_⟩ | refine fun q3 hq3 => ?_
      have k5 : Kp [] H4 (upd H4 q3 (.tup [.str "fine", .ref q2])) := Kp.new hq3
      have d5 : Dp K (upd H4 q3 (.tup [.str "fine", .ref q2])) (.ref q3) (fineD (Fd.enc ⟨"f", ["p"], blk 0 os⟩)) := .tup (SqT.of upd_same) (.cons (.str _) (.cons (Dp.kq k5 _ _ d3) .nil))
      replace d3 := Dp.kq k5 _ _ d3
      replace hu4 := Dp.kq k5 _ _ hu4
      generalize upd H4 q3 (.tup [.str "fine", .ref q2]) = H5 at k5 d5 d3 hu4
      have s5 := s4.kp k5
      replace k5 := k4.trans k5.nil
      refine ⟨_, _, hu4, d5, sop.shaped (by decide), sop.shaped (by decide), ?_⟩
      rw [sop.refl]
      walk_at "rd"
      refine ⟨fAd K a_parse, wholeT os, _, rfl, by omega, .prs (fu := 101) (by decide) br, fun u6 H6 k6 hu6 => ?_⟩
      replace d3 := Dp.kq k6 _ _ d3
      have s6 := s5.kp k6
      replace k6 := k5.trans k6.nil
      walk_at "rd"
      first | refine ⟨szl (Nat.le_of_ble_eq_true rfl), fun q4 hq4 => ?_⟩ | refine fun q4 hq4 => ?_
      walk_at "rd"
      first | refine ⟨szl (Nat.le_of_ble_eq_true rfl), fun q5 hq5 => ?_⟩ | refine fun q5 hq5 => ?_
      walk_at "rd"
      first | refine ⟨szl (Nat.le_of_ble_eq_true rfl), fun q6 hq6 => ?_⟩ | refine fun q6 hq6 => ?_
      have k7 : Kp [] H6 (upd H6 q4 (.tup [.str "fn", .ref q2])) := Kp.new hq4
      have k8 : Kp [] (upd H6 q4 (.tup [.str "fn", .ref q2])) (upd (upd H6 q4 (.tup [.str "fn", .ref q2])) q5 (.lst [.ref q4])) := Kp.new hq5
      have k9 : Kp [] (upd (upd H6 q4 (.tup [.str "fn", .ref q2])) q5 (.lst [.ref q4])) (upd (upd (upd H6 q4 (.tup [.str "fn", .ref q2])) q5 (.lst [.ref q4])) q6 (.tup [.str "fine", .ref q5])) := Kp.new hq6
      have d7 : Dp K (upd H6 q4 (.tup [.str "fn", .ref q2])) (.ref q4) (Itm.enc (.fn ⟨"f", ["p"], blk 0 os⟩)) := .tup (SqT.of upd_same) (.cons (.str _) (.cons (Dp.kq k7 _ _ d3) .nil))
      have d8 : Dp K (upd (upd H6 q4 (.tup [.str "fn", .ref q2])) q5 (.lst [.ref q4])) (.ref q5) (itmsD [.fn ⟨"f", ["p"], blk 0 os⟩]) := .lst (SqL.of upd_same) (.cons (Dp.kq k8 _ _ d7) .nil)
      have d9 : Dp K (upd (upd (upd H6 q4 (.tup [.str "fn", .ref q2])) q5 (.lst [.ref q4])) q6 (.tup [.str "fine", .ref q5])) (.ref q6) (fineD (itmsD [.fn ⟨"f", ["p"], blk 0 os⟩])) := .tup (SqT.of upd_same) (.cons (.str _) (.cons (Dp.kq k9 _ _ d8) .nil))
      have kz := k7.trans (k8.trans k9)
      refine ⟨_, _, Dp.kq kz _ _ hu6, d9, soq.shaped (by decide), soq.shaped (by decide), ?_⟩
      rw [soq.refl]
      walk_at "rd"
      exact k _ (k6.trans kz.nil) (s6.kp kz)
end
end K14


set_option Elab.async false
set_option linter.all false
set_option maxRecDepth 100000
set_option maxHeartbeats 4000000
namespace K14
open PySem PySem.Spec PyProof.Rows L2 He Hz Cm Lx Px Ly Qx Nx
local macro_rules | `(tactic| walk_at "rd") => `(tactic| repeat (first | (refine ⟨_, rfl, ?_⟩) | (refine ⟨_, _, rfl, rfl, ?_⟩) | (refine ⟨rfl, ?_⟩) | (refine ⟨szl (by omega), ?_⟩) | (refine ⟨_, _, _, _, _, rfl, (by assumption), (by assumption), (by assumption), (by rfl), ?_⟩) | (refine ⟨_, _, rfl, Or.inl (by assumption), ?_⟩)))
local macro_rules | `(tactic| walk_at "dp") => `(tactic| (repeat' (first | exact DpAll.nil | apply DpAll.cons | exact Dp.str _ | exact Dp.int _ | exact Dp.non | exact Dp.bl _ | assumption)))
local macro_rules | `(tactic| walk_at "st") => `(tactic| repeat (first | (refine ⟨_, rfl, ?_⟩) | (refine ⟨_, _, rfl, rfl, ?_⟩) | (refine ⟨rfl, ?_⟩) | (refine ⟨szl (by omega), ?_⟩) | (refine ⟨szl (by simp only [PySem.Str.length_append]; omega), ?_⟩)))
def sumT (sub : Bool) (m : Nat) : Str := "fn f(y) { x = y " ++ ⟨#[if sub = true then 45 else 43]⟩ ++ " " ++ numS m ++ "; }"
theorem sumT_list (sub : Bool) (m : Nat) : (sumT sub m).cps.toList = sumH ++ ((if sub = true then [45, 32] else [43, 32]) ++ (digs m ++ [59] ++ ([32] ++ [125]))) := by
  have e1 : ("fn f(y) { x = y " : Str).cps.toList = sumH := by decide +kernel
  have e2 : (" " : Str).cps.toList = [32] := by decide +kernel
  have e3 : ("; }" : Str).cps.toList = [59] ++ ([32] ++ [125]) := by decide +kernel
  have e4 : (numS m).cps.toList = digs m := numS_list m
  unfold sumT
  rw [app_list, app_list, app_list, app_list, e1, e2, e3, e4]
  cases sub <;> simp
theorem sumT_len {sub : Bool} {m : Nat} (h : m ≤ 65535) : (sumT sub m).length ≤ 600 := by
  have e : (sumT sub m).length = (sumT sub m).cps.toList.length := rfl
  have h1 := digs_len (m := m) (Nat.lt_of_le_of_lt h (by decide))
  have h2 : (if sub = true then [45, 32] else [43, 32] : List Nat).length = 2 := by cases sub <;> rfl
  have h3 : sumH.length = 16 := rfl
  rw [e, sumT_list]
  simp only [List.length_append, h2, h3, List.length_cons, List.length_nil]
  omega
theorem fl_len : ∀ g ∈ FL, g.length ≤ 2 ∧ (stT g).length ≤ 600 ∧ (ldT g).length ≤ 600 ∧ PyData.strOk g = true := by decide +kernel
section
variable {P : Program} {w : World} {K : PySem.W.Frag} {mg : Str → Option Value} {base : Heap} {H H1 H' : Hp} {Q : VK} {E : XK}
theorem ok_law_sums_right (T : Tx P K mg) : OkF P w K mg base CX0 42 a__law_sums_right ["pool"] (spLR (K := K)) := by
  have nd := sc__law_sums_right.nd
  have F__law_take := ok_law_take (P := P) (w := w) (base := base) T
  have F__law_told := ok_law_told (P := P) (w := w) (base := base) T
  refine T.f__law_sums_right.ok (CX := CX0) sc__law_sums_right (fun vs H Q E h => ?_) (fun cdv A outer s H vs Q E hr h => ?_)
  · obtain ⟨_, _, rfl, _⟩ := h
    rfl
  · obtain ⟨st, sc, rfl, s0, k⟩ := h
    refine ⟨_, PSs.nox (pss_cons (ps_set (i := 1) nd rfl (Or.inl rfl) (pe_ix ix_list (pe_lst (pa_cons pe_int (pa_cons pe_int (pa_cons pe_int (pa_cons (pe_call F__law_take (hr.mono (by decide)) rfl T.g__law_take T.k__law_take T.b__law_take .nil pass0 (pa_cons (pv 0) (pa_cons pe_int pa_nil))) pa_nil))))) (pe_call F__law_take (hr.mono (by decide)) rfl T.g__law_take T.k__law_take T.b__law_take .nil pass0 (pa_cons (pv 0) (pa_cons pe_int pa_nil))) (fun _ _ => rfl)))
      (pss_cons (ps_set (i := 2) nd rfl (Or.inl rfl) (pe_call F__law_take (hr.mono (by decide)) rfl T.g__law_take T.k__law_take T.b__law_take .nil pass0 (pa_cons (pv 0) (pa_cons pe_int pa_nil))))
      (pss_cons (ps_set (i := 3) nd rfl (Or.inl rfl) (pe_op op_add_str (pe_op op_add_str (pe_op op_add_str (pe_op op_add_str pe_str (pe_ix ix_str pe_str (pv 2) (fun _ _ => rfl))) pe_str) (pe_callTy call_str_int (by rfl) T.n_str (by decide +kernel) (pa_cons (pv 1) pa_nil))) pe_str))
      (pss_cons (ps_set (i := 4) nd rfl (Or.inl rfl) (pe_tup (pa_cons pe_str (pa_cons pe_str (pa_cons pe_str (pa_cons (pe_ifExp (pt_cmpR op_eq (pv 2) pe_int (nomark _)) (pv 1) (pe_op op_mod (pe_callTy call_int1 (by rfl) T.n_int (by decide +kernel) (pa_cons (pe_op op_sub pe_int (pv 1)) pa_nil)) pe_int)) (pa_cons pe_int pa_nil)))))))
      (pss_cons (ps_if (pt_cmpR (op_neD hr.units) (pe_call F__law_told (hr.mono (by decide)) rfl T.g__law_told T.k__law_told T.b__law_told .nil pass0 (pa_cons (pe_gref T.g_parse_function) (pa_cons (pv 3) pa_nil))) (pe_tup (pa_cons pe_str (pa_cons (pe_tup (pa_cons pe_str (pa_cons (pe_tup (pa_cons pe_str pa_nil)) (pa_cons (pe_tup (pa_cons (pv 4) pa_nil)) pa_nil)))) pa_nil))) (nomark _)) (pss_one (ps_ret pe_bl)) pss_nil)
      (pss_cons (ps_set (i := 5) nd rfl (Or.inl rfl) (pe_ix ix_list (pe_lst (pa_cons pe_str (pa_cons pe_str (pa_cons pe_str (pa_cons pe_str (pa_cons pe_str (pa_cons pe_str pa_nil))))))) (pe_call F__law_take (hr.mono (by decide)) rfl T.g__law_take T.k__law_take T.b__law_take .nil pass0 (pa_cons (pv 0) (pa_cons pe_int pa_nil))) (fun _ _ => rfl)))
      (pss_cons (ps_for PassesOwn.never rfl (pi_list (pe_lst (pa_cons (pe_tup (pa_cons pe_str (pa_cons (pe_tup (pa_cons pe_str (pa_cons pe_str (pa_cons (pv 5) (pa_cons (pe_tup (pa_cons pe_str pa_nil)) (pa_cons pe_int pa_nil)))))) pa_nil))) (pa_cons (pe_tup (pa_cons pe_str (pa_cons (pe_tup (pa_cons pe_str (pa_cons pe_str (pa_cons pe_str (pa_cons (pv 5) (pa_cons pe_int pa_nil)))))) pa_nil))) pa_nil)))) (pg_tup rfl (pgs_cons (pg_name (i := 6) nd rfl (Or.inl rfl)) (pgs_cons (pg_name (i := 7) nd rfl (Or.inl rfl)) pgs_nil))) (pss_cons (ps_set (i := 3) nd rfl (Or.inl rfl) (pe_op op_add_str (pe_op op_add_str (pe_op op_add_str pe_str (pv 6)) (pv 5)) (pe_ix ix_list (pe_lst (pa_cons pe_str (pa_cons pe_str pa_nil))) (pe_callTy call_int1 (by rfl) T.n_int (by decide +kernel) (pa_cons (pe_cmpR op_ne (pv 6) pe_str (nomark _)) pa_nil)) (fun _ _ => rfl))))
      (pss_cons (ps_set (i := 4) nd rfl (Or.inl rfl) (pe_tup (pa_cons pe_str (pa_cons (pe_tup (pa_cons pe_str (pa_cons (pe_tup (pa_cons pe_str pa_nil)) (pa_cons (pe_tup (pa_cons (pv 7) pa_nil)) pa_nil)))) pa_nil))))
      (pss_cons (ps_if (pt_cmpR op_notIn_seq (pv 5) (pe_lst (pa_cons pe_str (pa_cons pe_str pa_nil))) (by with_unfolding_all rfl)) (pss_one (ps_set (i := 4) nd rfl (Or.inl rfl) (pe_tup (pa_cons pe_str (pa_cons (pe_op op_add pe_int (pe_callB call_len_str (by rfl) T.n_len PySem.boot_len (pa_cons (pv 6) pa_nil))) pa_nil))))) pss_nil)
      (pss_one (ps_if (pt_cmpR (op_neD hr.units) (pe_call F__law_told (hr.mono (by decide)) rfl T.g__law_told T.k__law_told T.b__law_told .nil pass0 (pa_cons (pe_gref T.g_parse_function) (pa_cons (pv 3) pa_nil))) (pv 4) (nomark _)) (pss_one (ps_ret pe_bl)) pss_nil))))))
      (pss_one (ps_ret pe_bl))))))))), ?_⟩
    have K0 : Kp [st] H H := Kp.refl
    walk_at "rd"
    refine ⟨st, sc, 65536, rfl, by decide, by decide, s0, fun t1 ht1 G1 r_t1 s_t1 => ?_⟩
    have K_t1 := K0.trans r_t1
    walk_at "rd"
    first | refine ⟨szl (Nat.le_of_ble_eq_true rfl), fun p1 hp1 => ?_⟩ | refine fun p1 hp1 => ?_
    have kp1 : Kp [] G1 (upd G1 p1 (.lst [.int 0, .int 1, .int 65535, .int (t1 : Nat)])) := Kp.new hp1
    have lp1 : (upd G1 p1 (.lst [.int 0, .int 1, .int 65535, .int (t1 : Nat)])) p1 = some (.lst [.int 0, .int 1, .int 65535, .int (t1 : Nat)]) := upd_same
    have s_p1 := s_t1.kp kp1
    have K_p1 := K_t1.trans kp1.nil
    generalize upd G1 p1 (.lst [.int 0, .int 1, .int 65535, .int (t1 : Nat)]) = G2 at kp1 lp1 s_p1 K_p1
    walk_at "rd"
    have o1 : p1 ≠ st := s_t1.old hp1
    refine ⟨st, sc, 4, rfl, by decide, by decide, s_p1, fun t2 ht2 G3 r_t2 s_t2 => ?_⟩
    have K_t2 := K_p1.trans r_t2
    walk_at "rd"
    have l1 := r_t2.keep _ _ (by simpa using o1) lp1
    obtain ⟨m, hm, hat⟩ : ∃ m : Nat, m ≤ 65535 ∧ ([.int 0, .int 1, .int 65535, .int (t1 : Nat)] : List V)[t2]? = some (.int (m : Nat)) := by
      rcases (show t2 = 0 ∨ t2 = 1 ∨ t2 = 2 ∨ t2 = 3 by omega) with rfl | rfl | rfl | rfl
      · exact ⟨0, by decide, rfl⟩
      · exact ⟨1, by decide, rfl⟩
      · exact ⟨65535, by decide, rfl⟩
      · exact ⟨t1, by omega, rfl⟩
    refine ⟨_, _, _, _, rfl, rfl, SqL.of l1, atI_nat hat, ?_⟩
    walk_at "rd"
    refine ⟨st, sc, 2, rfl, by decide, by decide, s_t2, fun t3 ht3 G4 r_t3 s_t3 => ?_⟩
    have K_t3 := K_t2.trans r_t3
    walk_at "rd"
    have hnl : (Str.ofString (toString ((m : Nat) : Int))).length ≤ 10 := num_len (Nat.lt_of_le_of_lt hm (by decide))
    obtain ⟨L1, L2, L3⟩ : ("fn f(y) { x = y " : Str).length = 16 ∧ (" " : Str).length = 1 ∧ ("; }" : Str).length = 3 := by decide +kernel
    rcases (show t3 = 0 ∨ t3 = 1 by omega) with rfl | rfl
    · have hpf : pfn 100 (sumT false m) = some (.ok ⟨"f", ["y"], [.add "x" "y" (m : Int) 0]⟩) := sum_ok hm (sumT_list false m)
      have hsl := sumT_len (sub := false) hm
      refine ⟨_, _, 43, rfl, rfl, szl (show ("+-" : Str).length ≤ _ by decide +kernel), (by decide +kernel), ?_⟩
      have Lc : (⟨#[43]⟩ : Str).length = 1 := rfl
      walk_at "st"
      refine ⟨log_small (by omega), ?_⟩
      walk_at "st"
      first | refine ⟨szl (Nat.le_of_ble_eq_true rfl), fun du hdu => ?_⟩ | refine fun du hdu => ?_
      have kdu : Kp [] G4 (upd G4 du (.tup [.str "add", .str "x", .str "y", .int (m : Nat), .int 0])) := Kp.new hdu
      have ddu : Dp K (upd G4 du (.tup [.str "add", .str "x", .str "y", .int (m : Nat), .int 0])) (.ref du) (Sm.add "x" "y" (m : Int) 0).enc := .tup (SqT.of upd_same) (.cons (.str _) (.cons (.str _) (.cons (.str _) (.cons (.int _) (.cons (.int _) .nil)))))
      have s_du := s_t3.kp kdu
      have K_du := K_t3.trans kdu.nil
      generalize upd G4 du (.tup [.str "add", .str "x", .str "y", .int (m : Nat), .int 0]) = G5 at kdu ddu s_du K_du
      walk_at "rd"
      refine ⟨fAd K a_parse_function, sumT false m, _, rfl, by omega, .pfn (fu := 100) (by decide) hpf, fun u1 G6 ku1 du1 => ?_⟩
      replace ddu := Dp.kq ku1 _ _ ddu
      have s_u1 := s_du.kp ku1
      have K_u1 := K_du.trans ku1.nil
      walk_at "rd"
      first | refine ⟨szl (Nat.le_of_ble_eq_true rfl), fun y1 hy1 => ?_⟩ | refine fun y1 hy1 => ?_
      have ky1 : Kp [] G6 (upd G6 y1 (.tup [.str "y"])) := Kp.new hy1
      replace ddu := Dp.kq ky1 _ _ ddu
      replace du1 := Dp.kq ky1 _ _ du1
      have dy1 : Dp K (upd G6 y1 (.tup [.str "y"])) (.ref y1) (.tuple [.str "y"]) := .tup (SqT.of upd_same) (.cons (.str _) .nil)
      have s_y1 := s_u1.kp ky1
      have K_y1 := K_u1.trans ky1.nil
      generalize upd G6 y1 (.tup [.str "y"]) = G7 at ky1 ddu du1 dy1 s_y1 K_y1
      walk_at "rd"
      first | refine ⟨szl (Nat.le_of_ble_eq_true rfl), fun y2 hy2 => ?_⟩ | refine fun y2 hy2 => ?_
      have ky2 : Kp [] G7 (upd G7 y2 (.tup [.ref du])) := Kp.new hy2
      replace ddu := Dp.kq ky2 _ _ ddu
      replace du1 := Dp.kq ky2 _ _ du1
      replace dy1 := Dp.kq ky2 _ _ dy1
      have dy2 : Dp K (upd G7 y2 (.tup [.ref du])) (.ref y2) (.tuple (encs [(Sm.add "x" "y" (m : Int) 0)])) := .tup (SqT.of upd_same) (.cons ddu .nil)
      have s_y2 := s_y1.kp ky2
      have K_y2 := K_y1.trans ky2.nil
      generalize upd G7 y2 (.tup [.ref du]) = G8 at ky2 ddu du1 dy1 dy2 s_y2 K_y2
      walk_at "rd"
      first | refine ⟨szl (Nat.le_of_ble_eq_true rfl), fun y3 hy3 => ?_⟩ | refine fun y3 hy3 => ?_
      have ky3 : Kp [] G8 (upd G8 y3 (.tup [.str "f", .ref y1, .ref y2])) := Kp.new hy3
      replace ddu := Dp.kq ky3 _ _ ddu
      replace du1 := Dp.kq ky3 _ _ du1
      replace dy1 := Dp.kq ky3 _ _ dy1
      replace dy2 := Dp.kq ky3 _ _ dy2
      have dy3 : Dp K (upd G8 y3 (.tup [.str "f", .ref y1, .ref y2])) (.ref y3) (Fd.enc ⟨"f", ["y"], [(Sm.add "x" "y" (m : Int) 0)]⟩) := .tup (SqT.of upd_same) (.cons (.str _) (.cons dy1 (.cons dy2 .nil)))
      have s_y3 := s_y2.kp ky3
      have K_y3 := K_y2.trans ky3.nil
      generalize upd G8 y3 (.tup [.str "f", .ref y1, .ref y2]) = G9 at ky3 ddu du1 dy1 dy2 dy3 s_y3 K_y3
      walk_at "rd"
      first | refine ⟨szl (Nat.le_of_ble_eq_true rfl), fun y4 hy4 => ?_⟩ | refine fun y4 hy4 => ?_
      have ky4 : Kp [] G9 (upd G9 y4 (.tup [.str "fine", .ref y3])) := Kp.new hy4
      replace ddu := Dp.kq ky4 _ _ ddu
      replace du1 := Dp.kq ky4 _ _ du1
      replace dy1 := Dp.kq ky4 _ _ dy1
      replace dy2 := Dp.kq ky4 _ _ dy2
      replace dy3 := Dp.kq ky4 _ _ dy3
      have dy4 : Dp K (upd G9 y4 (.tup [.str "fine", .ref y3])) (.ref y4) (fineD (Fd.enc ⟨"f", ["y"], [(Sm.add "x" "y" (m : Int) 0)]⟩)) := .tup (SqT.of upd_same) (.cons (.str _) (.cons dy3 .nil))
      have s_y4 := s_y3.kp ky4
      have K_y4 := K_y3.trans ky4.nil
      generalize upd G9 y4 (.tup [.str "fine", .ref y3]) = G10 at ky4 ddu du1 dy1 dy2 dy3 dy4 s_y4 K_y4
      walk_at "rd"
      have so : Sok 4 (fineD (Fd.enc ⟨"f", ["y"], [(Sm.add "x" "y" (m : Int) 0)]⟩)) := fine_sok (fd_sok (by decide +kernel) (all_cons (.tup (n := 0) (all_cons (.str (by decide +kernel)) (all_cons (.str (by decide +kernel)) (all_cons (.str (by decide +kernel)) (all_cons .int (all_cons .int all_nil)))))) all_nil))
      refine ⟨_, _, du1, dy4, so.shaped (by decide), so.shaped (by decide), ?_⟩
      rw [so.refl]
      walk_at "rd"
      first | refine ⟨szl (Nat.le_of_ble_eq_true rfl), fun f1 hf1 => ?_⟩ | refine fun f1 hf1 => ?_
      have kf1 : Kp [] G10 (upd G10 f1 (.lst [.str "a", .str "b", .str "c", .str "x", .str "a1", .str "if"])) := Kp.new hf1
      have lf1 : (upd G10 f1 (.lst [.str "a", .str "b", .str "c", .str "x", .str "a1", .str "if"])) f1 = some (.lst [.str "a", .str "b", .str "c", .str "x", .str "a1", .str "if"]) := upd_same
      have s_f1 := s_y4.kp kf1
      have K_f1 := K_y4.trans kf1.nil
      generalize upd G10 f1 (.lst [.str "a", .str "b", .str "c", .str "x", .str "a1", .str "if"]) = G11 at kf1 lf1 s_f1 K_f1
      walk_at "rd"
      have o_f1 : f1 ≠ st := s_y4.old hf1
      refine ⟨st, sc, 6, rfl, by decide, by decide, s_f1, fun t4 ht4 G12 r_t4 s_t4 => ?_⟩
      have K_t4 := K_f1.trans r_t4
      walk_at "rd"
      obtain ⟨g, g0, gm⟩ := pick_at FL (t := t4) ht4
      have g1 : (FL.map V.str)[t4]? = some (.str g) := by rw [List.getElem?_map, g0]; rfl
      have lf2 := r_t4.keep _ _ (by simpa using o_f1) lf1
      refine ⟨_, _, _, _, rfl, rfl, SqL.of lf2, atI_nat g1, ?_⟩
      obtain ⟨hgl, hst, hld, hgok⟩ := fl_len g gm
      have hps := st_ok g gm
      have hpl := ld_ok g gm
      walk_at "rd"
      obtain ⟨F1, F2, F3, F4⟩ : ("fn f(x) { " : Str).length = 10 ∧ ("x." : Str).length = 2 ∧ ("y = x." : Str).length = 6 ∧ (" = nil; }" : Str).length = 9 := by decide +kernel
      first | refine ⟨szl (Nat.le_of_ble_eq_true rfl), fun r1 hr1 => ?_⟩ | refine fun r1 hr1 => ?_
      have kr1 : Kp [] G12 (upd G12 r1 (.tup [.str "nil"])) := Kp.new hr1
      have dr1 : Dp K (upd G12 r1 (.tup [.str "nil"])) (.ref r1) Vl.nil.enc := .tup (SqT.of upd_same) (.cons (.str _) .nil)
      have s_r1 := s_t4.kp kr1
      have K_r1 := K_t4.trans kr1.nil
      generalize upd G12 r1 (.tup [.str "nil"]) = G13 at kr1 dr1 s_r1 K_r1
      walk_at "rd"
      first | refine ⟨szl (Nat.le_of_ble_eq_true rfl), fun r2 hr2 => ?_⟩ | refine fun r2 hr2 => ?_
      have kr2 : Kp [] G13 (upd G13 r2 (.tup [.str "store", .str "x", .str g, .ref r1, .int 0])) := Kp.new hr2
      replace dr1 := Dp.kq kr2 _ _ dr1
      have dr2 : Dp K (upd G13 r2 (.tup [.str "store", .str "x", .str g, .ref r1, .int 0])) (.ref r2) (Sm.store "x" g .nil 0).enc := .tup (SqT.of upd_same) (.cons (.str _) (.cons (.str _) (.cons (.str _) (.cons dr1 (.cons (.int _) .nil)))))
      have s_r2 := s_r1.kp kr2
      have K_r2 := K_r1.trans kr2.nil
      generalize upd G13 r2 (.tup [.str "store", .str "x", .str g, .ref r1, .int 0]) = G14 at kr2 dr1 dr2 s_r2 K_r2
      walk_at "rd"
      first | refine ⟨szl (Nat.le_of_ble_eq_true rfl), fun r3 hr3 => ?_⟩ | refine fun r3 hr3 => ?_
      have kr3 : Kp [] G14 (upd G14 r3 (.tup [.str "x.", .ref r2])) := Kp.new hr3
      replace dr1 := Dp.kq kr3 _ _ dr1
      replace dr2 := Dp.kq kr3 _ _ dr2
      have tr3 : SqT K (upd G14 r3 (.tup [.str "x.", .ref r2])) r3 [.str "x.", .ref r2] := SqT.of upd_same
      have s_r3 := s_r2.kp kr3
      have K_r3 := K_r2.trans kr3.nil
      generalize upd G14 r3 (.tup [.str "x.", .ref r2]) = G15 at kr3 dr1 dr2 tr3 s_r3 K_r3
      walk_at "rd"
      first | refine ⟨szl (Nat.le_of_ble_eq_true rfl), fun r4 hr4 => ?_⟩ | refine fun r4 hr4 => ?_
      have kr4 : Kp [] G15 (upd G15 r4 (.tup [.str "load", .str "y", .str "x", .str g, .int 0])) := Kp.new hr4
      replace dr1 := Dp.kq kr4 _ _ dr1
      replace dr2 := Dp.kq kr4 _ _ dr2
      replace tr3 := kr4.sqt tr3
      have dr4 : Dp K (upd G15 r4 (.tup [.str "load", .str "y", .str "x", .str g, .int 0])) (.ref r4) (Sm.load "y" "x" g 0).enc := .tup (SqT.of upd_same) (.cons (.str _) (.cons (.str _) (.cons (.str _) (.cons (.str _) (.cons (.int _) .nil)))))
      have s_r4 := s_r3.kp kr4
      have K_r4 := K_r3.trans kr4.nil
      generalize upd G15 r4 (.tup [.str "load", .str "y", .str "x", .str g, .int 0]) = G16 at kr4 dr1 dr2 tr3 dr4 s_r4 K_r4
      walk_at "rd"
      first | refine ⟨szl (Nat.le_of_ble_eq_true rfl), fun r5 hr5 => ?_⟩ | refine fun r5 hr5 => ?_
      have kr5 : Kp [] G16 (upd G16 r5 (.tup [.str "y = x.", .ref r4])) := Kp.new hr5
      replace dr1 := Dp.kq kr5 _ _ dr1
      replace dr2 := Dp.kq kr5 _ _ dr2
      replace dr4 := Dp.kq kr5 _ _ dr4
      replace tr3 := kr5.sqt tr3
      have tr5 : SqT K (upd G16 r5 (.tup [.str "y = x.", .ref r4])) r5 [.str "y = x.", .ref r4] := SqT.of upd_same
      have s_r5 := s_r4.kp kr5
      have K_r5 := K_r4.trans kr5.nil
      generalize upd G16 r5 (.tup [.str "y = x.", .ref r4]) = G17 at kr5 dr1 dr2 dr4 tr3 tr5 s_r5 K_r5
      walk_at "rd"
      first | refine ⟨szl (Nat.le_of_ble_eq_true rfl), fun r6 hr6 => ?_⟩ | refine fun r6 hr6 => ?_
      have kr6 : Kp [] G17 (upd G17 r6 (.lst [.ref r3, .ref r5])) := Kp.new hr6
      replace dr1 := Dp.kq kr6 _ _ dr1
      replace dr2 := Dp.kq kr6 _ _ dr2
      replace dr4 := Dp.kq kr6 _ _ dr4
      replace tr3 := kr6.sqt tr3
      replace tr5 := kr6.sqt tr5
      have lr6 : (upd G17 r6 (.lst [.ref r3, .ref r5])) r6 = some (.lst [.ref r3, .ref r5]) := upd_same
      have s_r6 := s_r5.kp kr6
      have K_r6 := K_r5.trans kr6.nil
      generalize upd G17 r6 (.lst [.ref r3, .ref r5]) = G18 at kr6 dr1 dr2 dr4 tr3 tr5 lr6 s_r6 K_r6
      walk_at "rd"
      refine ⟨⟨_, SqL.of lr6⟩, for_list (xs := [.ref r3, .ref r5]) (fun i σ H' => ∃ z3 z4 z6 z7, σ = [some (.ref st), some (.int (m : Nat)), some (.int ((0 : Nat) : Int)), z3, z4, some (.str g), z6, z7] ∧ Kp [] G18 H') ⟨_, _, _, _, rfl, Kp.refl⟩ ?_ ?_ ?_⟩
      · rintro i σ H' _ ⟨z3, z4, z6, z7, rfl, ki⟩
        exact SqL.of (ki.keep _ _ (by simp) lr6)
      · rintro i y σ H' hy ⟨z3, z4, z6, z7, rfl, ki⟩
        have si := s_r6.kp ki
        have Ki := K_r6.trans ki.nil
        match i, hy with
        | 0, hy =>
          obtain rfl := Option.some.inj hy
          have ds := Dp.kq ki _ _ dr2
          have tp := ki.sqt tr3
          refine ⟨_, _, rfl, tp, rfl, ?_⟩
          refine ⟨_, _, rfl, _, _, rfl, rfl, ?_⟩
          walk_at "st"
          first | refine ⟨szl (Nat.le_of_ble_eq_true rfl), fun s1 hs1 => ?_⟩ | refine fun s1 hs1 => ?_
          have ks1 : Kp [] H' (upd H' s1 (.lst [.str " = nil; }", .str "; }"])) := Kp.new hs1
          replace ds := Dp.kq ks1 _ _ ds
          have ls1 : (upd H' s1 (.lst [.str " = nil; }", .str "; }"])) s1 = some (.lst [.str " = nil; }", .str "; }"]) := upd_same
          have s_s1 := si.kp ks1
          have K_s1 := ki.trans ks1.nil
          generalize upd H' s1 (.lst [.str " = nil; }", .str "; }"]) = G51 at ks1 ds ls1 s_s1 K_s1
          walk_at "rd"
          refine .inr ⟨_, rfl, ?_⟩
          walk_at "st"
          refine ⟨_, _, _, .str " = nil; }", rfl, rfl, SqL.of ls1, (by kernel_rfl), ?_⟩
          walk_at "st"
          first | refine ⟨szl (Nat.le_of_ble_eq_true rfl), fun s2 hs2 => ?_⟩ | refine fun s2 hs2 => ?_
          have ks2 : Kp [] G51 (upd G51 s2 (.tup [.str "x"])) := Kp.new hs2
          replace ds := Dp.kq ks2 _ _ ds
          replace ls1 := ks2.keep _ _ (by simp) ls1
          have ds2 : Dp K (upd G51 s2 (.tup [.str "x"])) (.ref s2) (.tuple [.str "x"]) := .tup (SqT.of upd_same) (.cons (.str _) .nil)
          have s_s2 := s_s1.kp ks2
          have K_s2 := K_s1.trans ks2.nil
          generalize upd G51 s2 (.tup [.str "x"]) = G52 at ks2 ds ls1 ds2 s_s2 K_s2
          walk_at "rd"
          first | refine ⟨szl (Nat.le_of_ble_eq_true rfl), fun s3 hs3 => ?_⟩ | refine fun s3 hs3 => ?_
          have ks3 : Kp [] G52 (upd G52 s3 (.tup [.ref r2])) := Kp.new hs3
          replace ds := Dp.kq ks3 _ _ ds
          replace ds2 := Dp.kq ks3 _ _ ds2
          replace ls1 := ks3.keep _ _ (by simp) ls1
          have ds3 : Dp K (upd G52 s3 (.tup [.ref r2])) (.ref s3) (.tuple (encs [(Sm.store "x" g .nil 0)])) := .tup (SqT.of upd_same) (.cons ds .nil)
          have s_s3 := s_s2.kp ks3
          have K_s3 := K_s2.trans ks3.nil
          generalize upd G52 s3 (.tup [.ref r2]) = G53 at ks3 ds ds2 ls1 ds3 s_s3 K_s3
          walk_at "rd"
          first | refine ⟨szl (Nat.le_of_ble_eq_true rfl), fun s4 hs4 => ?_⟩ | refine fun s4 hs4 => ?_
          have ks4 : Kp [] G53 (upd G53 s4 (.tup [.str "f", .ref s2, .ref s3])) := Kp.new hs4
          replace ds := Dp.kq ks4 _ _ ds
          replace ds2 := Dp.kq ks4 _ _ ds2
          replace ds3 := Dp.kq ks4 _ _ ds3
          replace ls1 := ks4.keep _ _ (by simp) ls1
          have ds4 : Dp K (upd G53 s4 (.tup [.str "f", .ref s2, .ref s3])) (.ref s4) (Fd.enc ⟨"f", ["x"], [(Sm.store "x" g .nil 0)]⟩) := .tup (SqT.of upd_same) (.cons (.str _) (.cons ds2 (.cons ds3 .nil)))
          have s_s4 := s_s3.kp ks4
          have K_s4 := K_s3.trans ks4.nil
          generalize upd G53 s4 (.tup [.str "f", .ref s2, .ref s3]) = G54 at ks4 ds ds2 ds3 ls1 ds4 s_s4 K_s4
          walk_at "rd"
          first | refine ⟨szl (Nat.le_of_ble_eq_true rfl), fun s5 hs5 => ?_⟩ | refine fun s5 hs5 => ?_
          have ks5 : Kp [] G54 (upd G54 s5 (.tup [.str "fine", .ref s4])) := Kp.new hs5
          replace ds := Dp.kq ks5 _ _ ds
          replace ds2 := Dp.kq ks5 _ _ ds2
          replace ds3 := Dp.kq ks5 _ _ ds3
          replace ds4 := Dp.kq ks5 _ _ ds4
          replace ls1 := ks5.keep _ _ (by simp) ls1
          have ds5 : Dp K (upd G54 s5 (.tup [.str "fine", .ref s4])) (.ref s5) (fineD (Fd.enc ⟨"f", ["x"], [(Sm.store "x" g .nil 0)]⟩)) := .tup (SqT.of upd_same) (.cons (.str _) (.cons ds4 .nil))
          have s_s5 := s_s4.kp ks5
          have K_s5 := K_s4.trans ks5.nil
          generalize upd G54 s5 (.tup [.str "fine", .ref s4]) = G55 at ks5 ds ds2 ds3 ds4 ls1 ds5 s_s5 K_s5
          walk_at "rd"
          first | refine ⟨szl (Nat.le_of_ble_eq_true rfl), fun s6 hs6 => ?_⟩ | refine fun s6 hs6 => ?_
          have ks6 : Kp [] G55 (upd G55 s6 (.lst [.str "a", .str "b"])) := Kp.new hs6
          replace ds := Dp.kq ks6 _ _ ds
          replace ds2 := Dp.kq ks6 _ _ ds2
          replace ds3 := Dp.kq ks6 _ _ ds3
          replace ds4 := Dp.kq ks6 _ _ ds4
          replace ds5 := Dp.kq ks6 _ _ ds5
          replace ls1 := ks6.keep _ _ (by simp) ls1
          have ls6 : (upd G55 s6 (.lst [.str "a", .str "b"])) s6 = some (.lst [.str "a", .str "b"]) := upd_same
          have s_s6 := s_s5.kp ks6
          have K_s6 := K_s5.trans ks6.nil
          generalize upd G55 s6 (.lst [.str "a", .str "b"]) = G56 at ks6 ds ds2 ds3 ds4 ds5 ls1 ls6 s_s6 K_s6
          walk_at "rd"
          refine ⟨_, _, rfl, .inl (SqL.of ls6), rfl, ?_⟩
          refine ⟨flat_strs (["a", "b"] : List Str), _, rfl, ?_⟩
          have ein : inV (.str g) ((["a", "b"] : List Str).map V.str) = decide (g ∈ (["a", "b"] : List Str)) := inV_strs _ _
          refine iteB (fun h => ?_) (fun h => ?_)
          · have hg : ¬ g ∈ (["a", "b"] : List Str) := of_decide_eq_false (ein.symm.trans (nb1 _ h))
            unfold fdR at hps
            rw [if_neg hg] at hps
            walk_at "st"
            first | refine ⟨szl (Nat.le_of_ble_eq_true rfl), fun s7 hs7 => ?_⟩ | refine fun s7 hs7 => ?_
            have ks7 : Kp [] G56 (upd G56 s7 (.tup [.str "malformed", .int (10 + (("x." : Str).length : Nat))])) := Kp.new hs7
            replace ds := Dp.kq ks7 _ _ ds
            replace ds2 := Dp.kq ks7 _ _ ds2
            replace ds3 := Dp.kq ks7 _ _ ds3
            replace ds4 := Dp.kq ks7 _ _ ds4
            replace ds5 := Dp.kq ks7 _ _ ds5
            replace ls1 := ks7.keep _ _ (by simp) ls1
            replace ls6 := ks7.keep _ _ (by simp) ls6
            have ds7 : Dp K (upd G56 s7 (.tup [.str "malformed", .int (10 + (("x." : Str).length : Nat))])) (.ref s7) (encX (.mal 12)) := .tup (SqT.of upd_same) (.cons (.str _) (.cons (show Dp K _ (.int (10 + ((("x." : Str).length : Nat) : Int))) (.int ((12 : Nat) : Int)) by rw [F2]; exact .int _) .nil))
            have s_s7 := s_s6.kp ks7
            have K_s7 := K_s6.trans ks7.nil
            generalize upd G56 s7 (.tup [.str "malformed", .int (10 + (("x." : Str).length : Nat))]) = G57 at ks7 ds ds2 ds3 ds4 ds5 ls1 ls6 ds7 s_s7 K_s7
            walk_at "rd"
            refine ⟨fAd K a_parse_function, stT g, _, rfl, by omega, .pfn (fu := 100) (by decide) hps, (show Kn (.mal 12) from trivial), fun u2 G58 ku2 du2 => ?_⟩
            replace ds := Dp.kq ku2 _ _ ds
            replace ds2 := Dp.kq ku2 _ _ ds2
            replace ds3 := Dp.kq ku2 _ _ ds3
            replace ds4 := Dp.kq ku2 _ _ ds4
            replace ds5 := Dp.kq ku2 _ _ ds5
            replace ds7 := Dp.kq ku2 _ _ ds7
            replace ls1 := ku2.keep _ _ (by simp) ls1
            replace ls6 := ku2.keep _ _ (by simp) ls6
            have s_u2 := s_s7.kp ku2
            have K_u2 := K_s7.trans ku2.nil
            walk_at "rd"
            refine ⟨_, _, du2, ds7, (encX_sok (show Kn (.mal 12) from trivial)).shaped (by decide), (encX_sok (show Kn (.mal 12) from trivial)).shaped (by decide), ?_⟩
            rw [(encX_sok (show Kn (.mal 12) from trivial)).refl]
            walk_at "rd"
            exact ⟨_, _, _, _, rfl, K_u2⟩
          · have hg : g ∈ (["a", "b"] : List Str) := of_decide_eq_true (ein.symm.trans (nb2 _ h))
            unfold fdR at hps
            rw [if_pos hg] at hps
            walk_at "st"
            refine ⟨fAd K a_parse_function, stT g, _, rfl, by omega, .pfn (fu := 100) (by decide) hps, fun u2 G57 ku2 du2 => ?_⟩
            replace ds := Dp.kq ku2 _ _ ds
            replace ds2 := Dp.kq ku2 _ _ ds2
            replace ds3 := Dp.kq ku2 _ _ ds3
            replace ds4 := Dp.kq ku2 _ _ ds4
            replace ds5 := Dp.kq ku2 _ _ ds5
            replace ls1 := ku2.keep _ _ (by simp) ls1
            replace ls6 := ku2.keep _ _ (by simp) ls6
            have s_u2 := s_s6.kp ku2
            have K_u2 := K_s6.trans ku2.nil
            walk_at "rd"
            have so : Sok 5 (fineD (Fd.enc ⟨"f", ["x"], [(Sm.store "x" g .nil 0)]⟩)) := fine_sok (fd_sok (by decide +kernel) (all_cons (.tup (n := 1) (all_cons (.str (by decide +kernel)) (all_cons (.str (by decide +kernel)) (all_cons (.str hgok) (all_cons (.tup (n := 0) (all_cons (.str (by decide +kernel)) all_nil)) (all_cons .int all_nil)))))) all_nil))
            refine ⟨_, _, du2, ds5, so.shaped (by decide), so.shaped (by decide), ?_⟩
            rw [so.refl]
            walk_at "rd"
            exact ⟨_, _, _, _, rfl, K_u2⟩
        | 1, hy =>
          obtain rfl := Option.some.inj hy
          have ds := Dp.kq ki _ _ dr4
          have tp := ki.sqt tr5
          refine ⟨_, _, rfl, tp, rfl, ?_⟩
          refine ⟨_, _, rfl, _, _, rfl, rfl, ?_⟩
          walk_at "st"
          first | refine ⟨szl (Nat.le_of_ble_eq_true rfl), fun s1 hs1 => ?_⟩ | refine fun s1 hs1 => ?_
          have ks1 : Kp [] H' (upd H' s1 (.lst [.str " = nil; }", .str "; }"])) := Kp.new hs1
          replace ds := Dp.kq ks1 _ _ ds
          have ls1 : (upd H' s1 (.lst [.str " = nil; }", .str "; }"])) s1 = some (.lst [.str " = nil; }", .str "; }"]) := upd_same
          have s_s1 := si.kp ks1
          have K_s1 := ki.trans ks1.nil
          generalize upd H' s1 (.lst [.str " = nil; }", .str "; }"]) = G51 at ks1 ds ls1 s_s1 K_s1
          walk_at "rd"
          refine .inr ⟨_, rfl, ?_⟩
          walk_at "st"
          refine ⟨_, _, _, .str "; }", rfl, rfl, SqL.of ls1, (by kernel_rfl), ?_⟩
          walk_at "st"
          first | refine ⟨szl (Nat.le_of_ble_eq_true rfl), fun s2 hs2 => ?_⟩ | refine fun s2 hs2 => ?_
          have ks2 : Kp [] G51 (upd G51 s2 (.tup [.str "x"])) := Kp.new hs2
          replace ds := Dp.kq ks2 _ _ ds
          replace ls1 := ks2.keep _ _ (by simp) ls1
          have ds2 : Dp K (upd G51 s2 (.tup [.str "x"])) (.ref s2) (.tuple [.str "x"]) := .tup (SqT.of upd_same) (.cons (.str _) .nil)
          have s_s2 := s_s1.kp ks2
          have K_s2 := K_s1.trans ks2.nil
          generalize upd G51 s2 (.tup [.str "x"]) = G52 at ks2 ds ls1 ds2 s_s2 K_s2
          walk_at "rd"
          first | refine ⟨szl (Nat.le_of_ble_eq_true rfl), fun s3 hs3 => ?_⟩ | refine fun s3 hs3 => ?_
          have ks3 : Kp [] G52 (upd G52 s3 (.tup [.ref r4])) := Kp.new hs3
          replace ds := Dp.kq ks3 _ _ ds
          replace ds2 := Dp.kq ks3 _ _ ds2
          replace ls1 := ks3.keep _ _ (by simp) ls1
          have ds3 : Dp K (upd G52 s3 (.tup [.ref r4])) (.ref s3) (.tuple (encs [(Sm.load "y" "x" g 0)])) := .tup (SqT.of upd_same) (.cons ds .nil)
          have s_s3 := s_s2.kp ks3
          have K_s3 := K_s2.trans ks3.nil
          generalize upd G52 s3 (.tup [.ref r4]) = G53 at ks3 ds ds2 ls1 ds3 s_s3 K_s3
          walk_at "rd"
          first | refine ⟨szl (Nat.le_of_ble_eq_true rfl), fun s4 hs4 => ?_⟩ | refine fun s4 hs4 => ?_
          have ks4 : Kp [] G53 (upd G53 s4 (.tup [.str "f", .ref s2, .ref s3])) := Kp.new hs4
          replace ds := Dp.kq ks4 _ _ ds
          replace ds2 := Dp.kq ks4 _ _ ds2
          replace ds3 := Dp.kq ks4 _ _ ds3
          replace ls1 := ks4.keep _ _ (by simp) ls1
          have ds4 : Dp K (upd G53 s4 (.tup [.str "f", .ref s2, .ref s3])) (.ref s4) (Fd.enc ⟨"f", ["x"], [(Sm.load "y" "x" g 0)]⟩) := .tup (SqT.of upd_same) (.cons (.str _) (.cons ds2 (.cons ds3 .nil)))
          have s_s4 := s_s3.kp ks4
          have K_s4 := K_s3.trans ks4.nil
          generalize upd G53 s4 (.tup [.str "f", .ref s2, .ref s3]) = G54 at ks4 ds ds2 ds3 ls1 ds4 s_s4 K_s4
          walk_at "rd"
          first | refine ⟨szl (Nat.le_of_ble_eq_true rfl), fun s5 hs5 => ?_⟩ | refine fun s5 hs5 => ?_
          have ks5 : Kp [] G54 (upd G54 s5 (.tup [.str "fine", .ref s4])) := Kp.new hs5
          replace ds := Dp.kq ks5 _ _ ds
          replace ds2 := Dp.kq ks5 _ _ ds2
          replace ds3 := Dp.kq ks5 _ _ ds3
          replace ds4 := Dp.kq ks5 _ _ ds4
          replace ls1 := ks5.keep _ _ (by simp) ls1
          have ds5 : Dp K (upd G54 s5 (.tup [.str "fine", .ref s4])) (.ref s5) (fineD (Fd.enc ⟨"f", ["x"], [(Sm.load "y" "x" g 0)]⟩)) := .tup (SqT.of upd_same) (.cons (.str _) (.cons ds4 .nil))
          have s_s5 := s_s4.kp ks5
          have K_s5 := K_s4.trans ks5.nil
          generalize upd G54 s5 (.tup [.str "fine", .ref s4]) = G55 at ks5 ds ds2 ds3 ds4 ls1 ds5 s_s5 K_s5
          walk_at "rd"
          first | refine ⟨szl (Nat.le_of_ble_eq_true rfl), fun s6 hs6 => ?_⟩ | refine fun s6 hs6 => ?_
          have ks6 : Kp [] G55 (upd G55 s6 (.lst [.str "a", .str "b"])) := Kp.new hs6
          replace ds := Dp.kq ks6 _ _ ds
          replace ds2 := Dp.kq ks6 _ _ ds2
          replace ds3 := Dp.kq ks6 _ _ ds3
          replace ds4 := Dp.kq ks6 _ _ ds4
          replace ds5 := Dp.kq ks6 _ _ ds5
          replace ls1 := ks6.keep _ _ (by simp) ls1
          have ls6 : (upd G55 s6 (.lst [.str "a", .str "b"])) s6 = some (.lst [.str "a", .str "b"]) := upd_same
          have s_s6 := s_s5.kp ks6
          have K_s6 := K_s5.trans ks6.nil
          generalize upd G55 s6 (.lst [.str "a", .str "b"]) = G56 at ks6 ds ds2 ds3 ds4 ds5 ls1 ls6 s_s6 K_s6
          walk_at "rd"
          refine ⟨_, _, rfl, .inl (SqL.of ls6), rfl, ?_⟩
          refine ⟨flat_strs (["a", "b"] : List Str), _, rfl, ?_⟩
          have ein : inV (.str g) ((["a", "b"] : List Str).map V.str) = decide (g ∈ (["a", "b"] : List Str)) := inV_strs _ _
          refine iteB (fun h => ?_) (fun h => ?_)
          · have hg : ¬ g ∈ (["a", "b"] : List Str) := of_decide_eq_false (ein.symm.trans (nb1 _ h))
            unfold fdR at hpl
            rw [if_neg hg] at hpl
            walk_at "st"
            first | refine ⟨szl (Nat.le_of_ble_eq_true rfl), fun s7 hs7 => ?_⟩ | refine fun s7 hs7 => ?_
            have ks7 : Kp [] G56 (upd G56 s7 (.tup [.str "malformed", .int (10 + (("y = x." : Str).length : Nat))])) := Kp.new hs7
            replace ds := Dp.kq ks7 _ _ ds
            replace ds2 := Dp.kq ks7 _ _ ds2
            replace ds3 := Dp.kq ks7 _ _ ds3
            replace ds4 := Dp.kq ks7 _ _ ds4
            replace ds5 := Dp.kq ks7 _ _ ds5
            replace ls1 := ks7.keep _ _ (by simp) ls1
            replace ls6 := ks7.keep _ _ (by simp) ls6
            have ds7 : Dp K (upd G56 s7 (.tup [.str "malformed", .int (10 + (("y = x." : Str).length : Nat))])) (.ref s7) (encX (.mal 16)) := .tup (SqT.of upd_same) (.cons (.str _) (.cons (show Dp K _ (.int (10 + ((("y = x." : Str).length : Nat) : Int))) (.int ((16 : Nat) : Int)) by rw [F3]; exact .int _) .nil))
            have s_s7 := s_s6.kp ks7
            have K_s7 := K_s6.trans ks7.nil
            generalize upd G56 s7 (.tup [.str "malformed", .int (10 + (("y = x." : Str).length : Nat))]) = G57 at ks7 ds ds2 ds3 ds4 ds5 ls1 ls6 ds7 s_s7 K_s7
            walk_at "rd"
            refine ⟨fAd K a_parse_function, ldT g, _, rfl, by omega, .pfn (fu := 100) (by decide) hpl, (show Kn (.mal 16) from trivial), fun u2 G58 ku2 du2 => ?_⟩
            replace ds := Dp.kq ku2 _ _ ds
            replace ds2 := Dp.kq ku2 _ _ ds2
            replace ds3 := Dp.kq ku2 _ _ ds3
            replace ds4 := Dp.kq ku2 _ _ ds4
            replace ds5 := Dp.kq ku2 _ _ ds5
            replace ds7 := Dp.kq ku2 _ _ ds7
            replace ls1 := ku2.keep _ _ (by simp) ls1
            replace ls6 := ku2.keep _ _ (by simp) ls6
            have s_u2 := s_s7.kp ku2
            have K_u2 := K_s7.trans ku2.nil
            walk_at "rd"
            refine ⟨_, _, du2, ds7, (encX_sok (show Kn (.mal 16) from trivial)).shaped (by decide), (encX_sok (show Kn (.mal 16) from trivial)).shaped (by decide), ?_⟩
            rw [(encX_sok (show Kn (.mal 16) from trivial)).refl]
            walk_at "rd"
            exact ⟨_, _, _, _, rfl, K_u2⟩
          · have hg : g ∈ (["a", "b"] : List Str) := of_decide_eq_true (ein.symm.trans (nb2 _ h))
            unfold fdR at hpl
            rw [if_pos hg] at hpl
            walk_at "st"
            refine ⟨fAd K a_parse_function, ldT g, _, rfl, by omega, .pfn (fu := 100) (by decide) hpl, fun u2 G57 ku2 du2 => ?_⟩
            replace ds := Dp.kq ku2 _ _ ds
            replace ds2 := Dp.kq ku2 _ _ ds2
            replace ds3 := Dp.kq ku2 _ _ ds3
            replace ds4 := Dp.kq ku2 _ _ ds4
            replace ds5 := Dp.kq ku2 _ _ ds5
            replace ls1 := ku2.keep _ _ (by simp) ls1
            replace ls6 := ku2.keep _ _ (by simp) ls6
            have s_u2 := s_s6.kp ku2
            have K_u2 := K_s6.trans ku2.nil
            walk_at "rd"
            have so : Sok 5 (fineD (Fd.enc ⟨"f", ["x"], [(Sm.load "y" "x" g 0)]⟩)) := fine_sok (fd_sok (by decide +kernel) (all_cons (.tup (n := 1) (all_cons (.str (by decide +kernel)) (all_cons (.str (by decide +kernel)) (all_cons (.str (by decide +kernel)) (all_cons (.str hgok) (all_cons .int all_nil)))))) all_nil))
            refine ⟨_, _, du2, ds5, so.shaped (by decide), so.shaped (by decide), ?_⟩
            rw [so.refl]
            walk_at "rd"
            exact ⟨_, _, _, _, rfl, K_u2⟩
        | i + 2, hy => cases hy
      · rintro σ H' ⟨z3, z4, z6, z7, rfl, ki⟩
        walk_at "rd"
        exact k _ (K_r6.trans ki.nil) (s_r6.kp ki)
    · have hpf : pfn 100 (sumT true m) = some (.ok ⟨"f", ["y"], [.add "x" "y" (-(m : Int) % 65536) 0]⟩) := sum_ok hm (sumT_list true m)
      have hsl := sumT_len (sub := true) hm
      refine ⟨_, _, 45, rfl, rfl, szl (show ("+-" : Str).length ≤ _ by decide +kernel), (by decide +kernel), ?_⟩
      have Lc : (⟨#[45]⟩ : Str).length = 1 := rfl
      walk_at "st"
      refine ⟨log_small (by omega), ?_⟩
      walk_at "st"
      have hv : (65536 - (m : Int)) % 65536 = -(m : Int) % 65536 := by omega
      refine .inl ⟨_, rfl, ?_⟩
      walk_at "st"
      refine ⟨(by decide : (0 : Int) < 65536), ?_⟩
      walk_at "st"
      first | refine ⟨szl (Nat.le_of_ble_eq_true rfl), fun du hdu => ?_⟩ | refine fun du hdu => ?_
      have kdu : Kp [] G4 (upd G4 du (.tup [.str "add", .str "x", .str "y", .int ((65536 - (m : Int)) % 65536), .int 0])) := Kp.new hdu
      have ddu : Dp K (upd G4 du (.tup [.str "add", .str "x", .str "y", .int ((65536 - (m : Int)) % 65536), .int 0])) (.ref du) (Sm.add "x" "y" (-(m : Int) % 65536) 0).enc := .tup (SqT.of upd_same) (.cons (.str _) (.cons (.str _) (.cons (.str _) (.cons (show Dp K _ (.int ((65536 - (m : Int)) % 65536)) (.int (-(m : Int) % 65536)) by rw [hv]; exact .int _) (.cons (.int _) .nil)))))
      have s_du := s_t3.kp kdu
      have K_du := K_t3.trans kdu.nil
      generalize upd G4 du (.tup [.str "add", .str "x", .str "y", .int ((65536 - (m : Int)) % 65536), .int 0]) = G5 at kdu ddu s_du K_du
      walk_at "rd"
      refine ⟨fAd K a_parse_function, sumT true m, _, rfl, by omega, .pfn (fu := 100) (by decide) hpf, fun u1 G6 ku1 du1 => ?_⟩
      replace ddu := Dp.kq ku1 _ _ ddu
      have s_u1 := s_du.kp ku1
      have K_u1 := K_du.trans ku1.nil
      walk_at "rd"
      first | refine ⟨szl (Nat.le_of_ble_eq_true rfl), fun y1 hy1 => ?_⟩ | refine fun y1 hy1 => ?_
      have ky1 : Kp [] G6 (upd G6 y1 (.tup [.str "y"])) := Kp.new hy1
      replace ddu := Dp.kq ky1 _ _ ddu
      replace du1 := Dp.kq ky1 _ _ du1
      have dy1 : Dp K (upd G6 y1 (.tup [.str "y"])) (.ref y1) (.tuple [.str "y"]) := .tup (SqT.of upd_same) (.cons (.str _) .nil)
      have s_y1 := s_u1.kp ky1
      have K_y1 := K_u1.trans ky1.nil
      generalize upd G6 y1 (.tup [.str "y"]) = G7 at ky1 ddu du1 dy1 s_y1 K_y1
      walk_at "rd"
      first | refine ⟨szl (Nat.le_of_ble_eq_true rfl), fun y2 hy2 => ?_⟩ | refine fun y2 hy2 => ?_
      have ky2 : Kp [] G7 (upd G7 y2 (.tup [.ref du])) := Kp.new hy2
      replace ddu := Dp.kq ky2 _ _ ddu
      replace du1 := Dp.kq ky2 _ _ du1
      replace dy1 := Dp.kq ky2 _ _ dy1
      have dy2 : Dp K (upd G7 y2 (.tup [.ref du])) (.ref y2) (.tuple (encs [(Sm.add "x" "y" (-(m : Int) % 65536) 0)])) := .tup (SqT.of upd_same) (.cons ddu .nil)
      have s_y2 := s_y1.kp ky2
      have K_y2 := K_y1.trans ky2.nil
      generalize upd G7 y2 (.tup [.ref du]) = G8 at ky2 ddu du1 dy1 dy2 s_y2 K_y2
      walk_at "rd"
      first | refine ⟨szl (Nat.le_of_ble_eq_true rfl), fun y3 hy3 => ?_⟩ | refine fun y3 hy3 => ?_
      have ky3 : Kp [] G8 (upd G8 y3 (.tup [.str "f", .ref y1, .ref y2])) := Kp.new hy3
      replace ddu := Dp.kq ky3 _ _ ddu
      replace du1 := Dp.kq ky3 _ _ du1
      replace dy1 := Dp.kq ky3 _ _ dy1
      replace dy2 := Dp.kq ky3 _ _ dy2
      have dy3 : Dp K (upd G8 y3 (.tup [.str "f", .ref y1, .ref y2])) (.ref y3) (Fd.enc ⟨"f", ["y"], [(Sm.add "x" "y" (-(m : Int) % 65536) 0)]⟩) := .tup (SqT.of upd_same) (.cons (.str _) (.cons dy1 (.cons dy2 .nil)))
      have s_y3 := s_y2.kp ky3
      have K_y3 := K_y2.trans ky3.nil
      generalize upd G8 y3 (.tup [.str "f", .ref y1, .ref y2]) = G9 at ky3 ddu du1 dy1 dy2 dy3 s_y3 K_y3
      walk_at "rd"
      first | refine ⟨szl (Nat.le_of_ble_eq_true rfl), fun y4 hy4 => ?_⟩ | refine fun y4 hy4 => ?_
      have ky4 : Kp [] G9 (upd G9 y4 (.tup [.str "fine", .ref y3])) := Kp.new hy4
      replace ddu := Dp.kq ky4 _ _ ddu
      replace du1 := Dp.kq ky4 _ _ du1
      replace dy1 := Dp.kq ky4 _ _ dy1
      replace dy2 := Dp.kq ky4 _ _ dy2
      replace dy3 := Dp.kq ky4 _ _ dy3
      have dy4 : Dp K (upd G9 y4 (.tup [.str "fine", .ref y3])) (.ref y4) (fineD (Fd.enc ⟨"f", ["y"], [(Sm.add "x" "y" (-(m : Int) % 65536) 0)]⟩)) := .tup (SqT.of upd_same) (.cons (.str _) (.cons dy3 .nil))
      have s_y4 := s_y3.kp ky4
      have K_y4 := K_y3.trans ky4.nil
      generalize upd G9 y4 (.tup [.str "fine", .ref y3]) = G10 at ky4 ddu du1 dy1 dy2 dy3 dy4 s_y4 K_y4
      walk_at "rd"
      have so : Sok 4 (fineD (Fd.enc ⟨"f", ["y"], [(Sm.add "x" "y" (-(m : Int) % 65536) 0)]⟩)) := fine_sok (fd_sok (by decide +kernel) (all_cons (.tup (n := 0) (all_cons (.str (by decide +kernel)) (all_cons (.str (by decide +kernel)) (all_cons (.str (by decide +kernel)) (all_cons .int (all_cons .int all_nil)))))) all_nil))
      refine ⟨_, _, du1, dy4, so.shaped (by decide), so.shaped (by decide), ?_⟩
      rw [so.refl]
      walk_at "rd"
      first | refine ⟨szl (Nat.le_of_ble_eq_true rfl), fun f1 hf1 => ?_⟩ | refine fun f1 hf1 => ?_
      have kf1 : Kp [] G10 (upd G10 f1 (.lst [.str "a", .str "b", .str "c", .str "x", .str "a1", .str "if"])) := Kp.new hf1
      have lf1 : (upd G10 f1 (.lst [.str "a", .str "b", .str "c", .str "x", .str "a1", .str "if"])) f1 = some (.lst [.str "a", .str "b", .str "c", .str "x", .str "a1", .str "if"]) := upd_same
      have s_f1 := s_y4.kp kf1
      have K_f1 := K_y4.trans kf1.nil
      generalize upd G10 f1 (.lst [.str "a", .str "b", .str "c", .str "x", .str "a1", .str "if"]) = G11 at kf1 lf1 s_f1 K_f1
      walk_at "rd"
      have o_f1 : f1 ≠ st := s_y4.old hf1
      refine ⟨st, sc, 6, rfl, by decide, by decide, s_f1, fun t4 ht4 G12 r_t4 s_t4 => ?_⟩
      have K_t4 := K_f1.trans r_t4
      walk_at "rd"
      obtain ⟨g, g0, gm⟩ := pick_at FL (t := t4) ht4
      have g1 : (FL.map V.str)[t4]? = some (.str g) := by rw [List.getElem?_map, g0]; rfl
      have lf2 := r_t4.keep _ _ (by simpa using o_f1) lf1
      refine ⟨_, _, _, _, rfl, rfl, SqL.of lf2, atI_nat g1, ?_⟩
      obtain ⟨hgl, hst, hld, hgok⟩ := fl_len g gm
      have hps := st_ok g gm
      have hpl := ld_ok g gm
      walk_at "rd"
      obtain ⟨F1, F2, F3, F4⟩ : ("fn f(x) { " : Str).length = 10 ∧ ("x." : Str).length = 2 ∧ ("y = x." : Str).length = 6 ∧ (" = nil; }" : Str).length = 9 := by decide +kernel
      first | refine ⟨szl (Nat.le_of_ble_eq_true rfl), fun r1 hr1 => ?_⟩ | refine fun r1 hr1 => ?_
      have kr1 : Kp [] G12 (upd G12 r1 (.tup [.str "nil"])) := Kp.new hr1
      have dr1 : Dp K (upd G12 r1 (.tup [.str "nil"])) (.ref r1) Vl.nil.enc := .tup (SqT.of upd_same) (.cons (.str _) .nil)
      have s_r1 := s_t4.kp kr1
      have K_r1 := K_t4.trans kr1.nil
      generalize upd G12 r1 (.tup [.str "nil"]) = G13 at kr1 dr1 s_r1 K_r1
      walk_at "rd"
      first | refine ⟨szl (Nat.le_of_ble_eq_true rfl), fun r2 hr2 => ?_⟩ | refine fun r2 hr2 => ?_
      have kr2 : Kp [] G13 (upd G13 r2 (.tup [.str "store", .str "x", .str g, .ref r1, .int 0])) := Kp.new hr2
      replace dr1 := Dp.kq kr2 _ _ dr1
      have dr2 : Dp K (upd G13 r2 (.tup [.str "store", .str "x", .str g, .ref r1, .int 0])) (.ref r2) (Sm.store "x" g .nil 0).enc := .tup (SqT.of upd_same) (.cons (.str _) (.cons (.str _) (.cons (.str _) (.cons dr1 (.cons (.int _) .nil)))))
      have s_r2 := s_r1.kp kr2
      have K_r2 := K_r1.trans kr2.nil
      generalize upd G13 r2 (.tup [.str "store", .str "x", .str g, .ref r1, .int 0]) = G14 at kr2 dr1 dr2 s_r2 K_r2
      walk_at "rd"
      first | refine ⟨szl (Nat.le_of_ble_eq_true rfl), fun r3 hr3 => ?_⟩ | refine fun r3 hr3 => ?_
      have kr3 : Kp [] G14 (upd G14 r3 (.tup [.str "x.", .ref r2])) := Kp.new hr3
      replace dr1 := Dp.kq kr3 _ _ dr1
      replace dr2 := Dp.kq kr3 _ _ dr2
      have tr3 : SqT K (upd G14 r3 (.tup [.str "x.", .ref r2])) r3 [.str "x.", .ref r2] := SqT.of upd_same
      have s_r3 := s_r2.kp kr3
      have K_r3 := K_r2.trans kr3.nil
      generalize upd G14 r3 (.tup [.str "x.", .ref r2]) = G15 at kr3 dr1 dr2 tr3 s_r3 K_r3
      walk_at "rd"
      first | refine ⟨szl (Nat.le_of_ble_eq_true rfl), fun r4 hr4 => ?_⟩ | refine fun r4 hr4 => ?_
      have kr4 : Kp [] G15 (upd G15 r4 (.tup [.str "load", .str "y", .str "x", .str g, .int 0])) := Kp.new hr4
      replace dr1 := Dp.kq kr4 _ _ dr1
      replace dr2 := Dp.kq kr4 _ _ dr2
      replace tr3 := kr4.sqt tr3
      have dr4 : Dp K (upd G15 r4 (.tup [.str "load", .str "y", .str "x", .str g, .int 0])) (.ref r4) (Sm.load "y" "x" g 0).enc := .tup (SqT.of upd_same) (.cons (.str _) (.cons (.str _) (.cons (.str _) (.cons (.str _) (.cons (.int _) .nil)))))
      have s_r4 := s_r3.kp kr4
      have K_r4 := K_r3.trans kr4.nil
      generalize upd G15 r4 (.tup [.str "load", .str "y", .str "x", .str g, .int 0]) = G16 at kr4 dr1 dr2 tr3 dr4 s_r4 K_r4
      walk_at "rd"
      first | refine ⟨szl (Nat.le_of_ble_eq_true rfl), fun r5 hr5 => ?_⟩ | refine fun r5 hr5 => ?_
      have kr5 : Kp [] G16 (upd G16 r5 (.tup [.str "y = x.", .ref r4])) := Kp.new hr5
      replace dr1 := Dp.kq kr5 _ _ dr1
      replace dr2 := Dp.kq kr5 _ _ dr2
      replace dr4 := Dp.kq kr5 _ _ dr4
      replace tr3 := kr5.sqt tr3
      have tr5 : SqT K (upd G16 r5 (.tup [.str "y = x.", .ref r4])) r5 [.str "y = x.", .ref r4] := SqT.of upd_same
      have s_r5 := s_r4.kp kr5
      have K_r5 := K_r4.trans kr5.nil
      generalize upd G16 r5 (.tup [.str "y = x.", .ref r4]) = G17 at kr5 dr1 dr2 dr4 tr3 tr5 s_r5 K_r5
      walk_at "rd"
      first | refine ⟨szl (Nat.le_of_ble_eq_true rfl), fun r6 hr6 => ?_⟩ | refine fun r6 hr6 => ?_
      have kr6 : Kp [] G17 (upd G17 r6 (.lst [.ref r3, .ref r5])) := Kp.new hr6
      replace dr1 := Dp.kq kr6 _ _ dr1
      replace dr2 := Dp.kq kr6 _ _ dr2
      replace dr4 := Dp.kq kr6 _ _ dr4
      replace tr3 := kr6.sqt tr3
      replace tr5 := kr6.sqt tr5
      have lr6 : (upd G17 r6 (.lst [.ref r3, .ref r5])) r6 = some (.lst [.ref r3, .ref r5]) := upd_same
      have s_r6 := s_r5.kp kr6
      have K_r6 := K_r5.trans kr6.nil
      generalize upd G17 r6 (.lst [.ref r3, .ref r5]) = G18 at kr6 dr1 dr2 dr4 tr3 tr5 lr6 s_r6 K_r6
      walk_at "rd"
      refine ⟨⟨_, SqL.of lr6⟩, for_list (xs := [.ref r3, .ref r5]) (fun i σ H' => ∃ z3 z4 z6 z7, σ = [some (.ref st), some (.int (m : Nat)), some (.int ((1 : Nat) : Int)), z3, z4, some (.str g), z6, z7] ∧ Kp [] G18 H') ⟨_, _, _, _, rfl, Kp.refl⟩ ?_ ?_ ?_⟩
      · rintro i σ H' _ ⟨z3, z4, z6, z7, rfl, ki⟩
        exact SqL.of (ki.keep _ _ (by simp) lr6)
      · rintro i y σ H' hy ⟨z3, z4, z6, z7, rfl, ki⟩
        have si := s_r6.kp ki
        have Ki := K_r6.trans ki.nil
        match i, hy with
        | 0, hy =>
          obtain rfl := Option.some.inj hy
          have ds := Dp.kq ki _ _ dr2
          have tp := ki.sqt tr3
          refine ⟨_, _, rfl, tp, rfl, ?_⟩
          refine ⟨_, _, rfl, _, _, rfl, rfl, ?_⟩
          walk_at "st"
          first | refine ⟨szl (Nat.le_of_ble_eq_true rfl), fun s1 hs1 => ?_⟩ | refine fun s1 hs1 => ?_
          have ks1 : Kp [] H' (upd H' s1 (.lst [.str " = nil; }", .str "; }"])) := Kp.new hs1
          replace ds := Dp.kq ks1 _ _ ds
          have ls1 : (upd H' s1 (.lst [.str " = nil; }", .str "; }"])) s1 = some (.lst [.str " = nil; }", .str "; }"]) := upd_same
          have s_s1 := si.kp ks1
          have K_s1 := ki.trans ks1.nil
          generalize upd H' s1 (.lst [.str " = nil; }", .str "; }"]) = G51 at ks1 ds ls1 s_s1 K_s1
          walk_at "rd"
          refine .inr ⟨_, rfl, ?_⟩
          walk_at "st"
          refine ⟨_, _, _, .str " = nil; }", rfl, rfl, SqL.of ls1, (by kernel_rfl), ?_⟩
          walk_at "st"
          first | refine ⟨szl (Nat.le_of_ble_eq_true rfl), fun s2 hs2 => ?_⟩ | refine fun s2 hs2 => ?_
          have ks2 : Kp [] G51 (upd G51 s2 (.tup [.str "x"])) := Kp.new hs2
          replace ds := Dp.kq ks2 _ _ ds
          replace ls1 := ks2.keep _ _ (by simp) ls1
          have ds2 : Dp K (upd G51 s2 (.tup [.str "x"])) (.ref s2) (.tuple [.str "x"]) := .tup (SqT.of upd_same) (.cons (.str _) .nil)
          have s_s2 := s_s1.kp ks2
          have K_s2 := K_s1.trans ks2.nil
          generalize upd G51 s2 (.tup [.str "x"]) = G52 at ks2 ds ls1 ds2 s_s2 K_s2
          walk_at "rd"
          first | refine ⟨szl (Nat.le_of_ble_eq_true rfl), fun s3 hs3 => ?_⟩ | refine fun s3 hs3 => ?_
          have ks3 : Kp [] G52 (upd G52 s3 (.tup [.ref r2])) := Kp.new hs3
          replace ds := Dp.kq ks3 _ _ ds
          replace ds2 := Dp.kq ks3 _ _ ds2
          replace ls1 := ks3.keep _ _ (by simp) ls1
          have ds3 : Dp K (upd G52 s3 (.tup [.ref r2])) (.ref s3) (.tuple (encs [(Sm.store "x" g .nil 0)])) := .tup (SqT.of upd_same) (.cons ds .nil)
          have s_s3 := s_s2.kp ks3
          have K_s3 := K_s2.trans ks3.nil
          generalize upd G52 s3 (.tup [.ref r2]) = G53 at ks3 ds ds2 ls1 ds3 s_s3 K_s3
          walk_at "rd"
          first | refine ⟨szl (Nat.le_of_ble_eq_true rfl), fun s4 hs4 => ?_⟩ | refine fun s4 hs4 => ?_
          have ks4 : Kp [] G53 (upd G53 s4 (.tup [.str "f", .ref s2, .ref s3])) := Kp.new hs4
          replace ds := Dp.kq ks4 _ _ ds
          replace ds2 := Dp.kq ks4 _ _ ds2
          replace ds3 := Dp.kq ks4 _ _ ds3
          replace ls1 := ks4.keep _ _ (by simp) ls1
          have ds4 : Dp K (upd G53 s4 (.tup [.str "f", .ref s2, .ref s3])) (.ref s4) (Fd.enc ⟨"f", ["x"], [(Sm.store "x" g .nil 0)]⟩) := .tup (SqT.of upd_same) (.cons (.str _) (.cons ds2 (.cons ds3 .nil)))
          have s_s4 := s_s3.kp ks4
          have K_s4 := K_s3.trans ks4.nil
          generalize upd G53 s4 (.tup [.str "f", .ref s2, .ref s3]) = G54 at ks4 ds ds2 ds3 ls1 ds4 s_s4 K_s4
          walk_at "rd"
          first | refine ⟨szl (Nat.le_of_ble_eq_true rfl), fun s5 hs5 => ?_⟩ | refine fun s5 hs5 => ?_
          have ks5 : Kp [] G54 (upd G54 s5 (.tup [.str "fine", .ref s4])) := Kp.new hs5
          replace ds := Dp.kq ks5 _ _ ds
          replace ds2 := Dp.kq ks5 _ _ ds2
          replace ds3 := Dp.kq ks5 _ _ ds3
          replace ds4 := Dp.kq ks5 _ _ ds4
          replace ls1 := ks5.keep _ _ (by simp) ls1
          have ds5 : Dp K (upd G54 s5 (.tup [.str "fine", .ref s4])) (.ref s5) (fineD (Fd.enc ⟨"f", ["x"], [(Sm.store "x" g .nil 0)]⟩)) := .tup (SqT.of upd_same) (.cons (.str _) (.cons ds4 .nil))
          have s_s5 := s_s4.kp ks5
          have K_s5 := K_s4.trans ks5.nil
          generalize upd G54 s5 (.tup [.str "fine", .ref s4]) = G55 at ks5 ds ds2 ds3 ds4 ls1 ds5 s_s5 K_s5
          walk_at "rd"
          first | refine ⟨szl (Nat.le_of_ble_eq_true rfl), fun s6 hs6 => ?_⟩ | refine fun s6 hs6 => ?_
          have ks6 : Kp [] G55 (upd G55 s6 (.lst [.str "a", .str "b"])) := Kp.new hs6
          replace ds := Dp.kq ks6 _ _ ds
          replace ds2 := Dp.kq ks6 _ _ ds2
          replace ds3 := Dp.kq ks6 _ _ ds3
          replace ds4 := Dp.kq ks6 _ _ ds4
          replace ds5 := Dp.kq ks6 _ _ ds5
          replace ls1 := ks6.keep _ _ (by simp) ls1
          have ls6 : (upd G55 s6 (.lst [.str "a", .str "b"])) s6 = some (.lst [.str "a", .str "b"]) := upd_same
          have s_s6 := s_s5.kp ks6
          have K_s6 := K_s5.trans ks6.nil
          generalize upd G55 s6 (.lst [.str "a", .str "b"]) = G56 at ks6 ds ds2 ds3 ds4 ds5 ls1 ls6 s_s6 K_s6
          walk_at "rd"
          refine ⟨_, _, rfl, .inl (SqL.of ls6), rfl, ?_⟩
          refine ⟨flat_strs (["a", "b"] : List Str), _, rfl, ?_⟩
          have ein : inV (.str g) ((["a", "b"] : List Str).map V.str) = decide (g ∈ (["a", "b"] : List Str)) := inV_strs _ _
          refine iteB (fun h => ?_) (fun h => ?_)
          · have hg : ¬ g ∈ (["a", "b"] : List Str) := of_decide_eq_false (ein.symm.trans (nb1 _ h))
            unfold fdR at hps
            rw [if_neg hg] at hps
            walk_at "st"
            first | refine ⟨szl (Nat.le_of_ble_eq_true rfl), fun s7 hs7 => ?_⟩ | refine fun s7 hs7 => ?_
            have ks7 : Kp [] G56 (upd G56 s7 (.tup [.str "malformed", .int (10 + (("x." : Str).length : Nat))])) := Kp.new hs7
            replace ds := Dp.kq ks7 _ _ ds
            replace ds2 := Dp.kq ks7 _ _ ds2
            replace ds3 := Dp.kq ks7 _ _ ds3
            replace ds4 := Dp.kq ks7 _ _ ds4
            replace ds5 := Dp.kq ks7 _ _ ds5
            replace ls1 := ks7.keep _ _ (by simp) ls1
            replace ls6 := ks7.keep _ _ (by simp) ls6
            have ds7 : Dp K (upd G56 s7 (.tup [.str "malformed", .int (10 + (("x." : Str).length : Nat))])) (.ref s7) (encX (.mal 12)) := .tup (SqT.of upd_same) (.cons (.str _) (.cons (show Dp K _ (.int (10 + ((("x." : Str).length : Nat) : Int))) (.int ((12 : Nat) : Int)) by rw [F2]; exact .int _) .nil))
            have s_s7 := s_s6.kp ks7
            have K_s7 := K_s6.trans ks7.nil
            generalize upd G56 s7 (.tup [.str "malformed", .int (10 + (("x." : Str).length : Nat))]) = G57 at ks7 ds ds2 ds3 ds4 ds5 ls1 ls6 ds7 s_s7 K_s7
            walk_at "rd"
            refine ⟨fAd K a_parse_function, stT g, _, rfl, by omega, .pfn (fu := 100) (by decide) hps, (show Kn (.mal 12) from trivial), fun u2 G58 ku2 du2 => ?_⟩
            replace ds := Dp.kq ku2 _ _ ds
            replace ds2 := Dp.kq ku2 _ _ ds2
            replace ds3 := Dp.kq ku2 _ _ ds3
            replace ds4 := Dp.kq ku2 _ _ ds4
            replace ds5 := Dp.kq ku2 _ _ ds5
            replace ds7 := Dp.kq ku2 _ _ ds7
            replace ls1 := ku2.keep _ _ (by simp) ls1
            replace ls6 := ku2.keep _ _ (by simp) ls6
            have s_u2 := s_s7.kp ku2
            have K_u2 := K_s7.trans ku2.nil
            walk_at "rd"
            refine ⟨_, _, du2, ds7, (encX_sok (show Kn (.mal 12) from trivial)).shaped (by decide), (encX_sok (show Kn (.mal 12) from trivial)).shaped (by decide), ?_⟩
            rw [(encX_sok (show Kn (.mal 12) from trivial)).refl]
            walk_at "rd"
            exact ⟨_, _, _, _, rfl, K_u2⟩
          · have hg : g ∈ (["a", "b"] : List Str) := of_decide_eq_true (ein.symm.trans (nb2 _ h))
            unfold fdR at hps
            rw [if_pos hg] at hps
            walk_at "st"
            refine ⟨fAd K a_parse_function, stT g, _, rfl, by omega, .pfn (fu := 100) (by decide) hps, fun u2 G57 ku2 du2 => ?_⟩
            replace ds := Dp.kq ku2 _ _ ds
            replace ds2 := Dp.kq ku2 _ _ ds2
            replace ds3 := Dp.kq ku2 _ _ ds3
            replace ds4 := Dp.kq ku2 _ _ ds4
            replace ds5 := Dp.kq ku2 _ _ ds5
            replace ls1 := ku2.keep _ _ (by simp) ls1
            replace ls6 := ku2.keep _ _ (by simp) ls6
            have s_u2 := s_s6.kp ku2
            have K_u2 := K_s6.trans ku2.nil
            walk_at "rd"
            have so : Sok 5 (fineD (Fd.enc ⟨"f", ["x"], [(Sm.store "x" g .nil 0)]⟩)) := fine_sok (fd_sok (by decide +kernel) (all_cons (.tup (n := 1) (all_cons (.str (by decide +kernel)) (all_cons (.str (by decide +kernel)) (all_cons (.str hgok) (all_cons (.tup (n := 0) (all_cons (.str (by decide +kernel)) all_nil)) (all_cons .int all_nil)))))) all_nil))
            refine ⟨_, _, du2, ds5, so.shaped (by decide), so.shaped (by decide), ?_⟩
            rw [so.refl]
            walk_at "rd"
            exact ⟨_, _, _, _, rfl, K_u2⟩
        | 1, hy =>
          obtain rfl := Option.some.inj hy
          have ds := Dp.kq ki _ _ dr4
          have tp := ki.sqt tr5
          refine ⟨_, _, rfl, tp, rfl, ?_⟩
          refine ⟨_, _, rfl, _, _, rfl, rfl, ?_⟩
          walk_at "st"
          first | refine ⟨szl (Nat.le_of_ble_eq_true rfl), fun s1 hs1 => ?_⟩ | refine fun s1 hs1 => ?_
          have ks1 : Kp [] H' (upd H' s1 (.lst [.str " = nil; }", .str "; }"])) := Kp.new hs1
          replace ds := Dp.kq ks1 _ _ ds
          have ls1 : (upd H' s1 (.lst [.str " = nil; }", .str "; }"])) s1 = some (.lst [.str " = nil; }", .str "; }"]) := upd_same
          have s_s1 := si.kp ks1
          have K_s1 := ki.trans ks1.nil
          generalize upd H' s1 (.lst [.str " = nil; }", .str "; }"]) = G51 at ks1 ds ls1 s_s1 K_s1
          walk_at "rd"
          refine .inr ⟨_, rfl, ?_⟩
          walk_at "st"
          refine ⟨_, _, _, .str "; }", rfl, rfl, SqL.of ls1, (by kernel_rfl), ?_⟩
          walk_at "st"
          first | refine ⟨szl (Nat.le_of_ble_eq_true rfl), fun s2 hs2 => ?_⟩ | refine fun s2 hs2 => ?_
          have ks2 : Kp [] G51 (upd G51 s2 (.tup [.str "x"])) := Kp.new hs2
          replace ds := Dp.kq ks2 _ _ ds
          replace ls1 := ks2.keep _ _ (by simp) ls1
          have ds2 : Dp K (upd G51 s2 (.tup [.str "x"])) (.ref s2) (.tuple [.str "x"]) := .tup (SqT.of upd_same) (.cons (.str _) .nil)
          have s_s2 := s_s1.kp ks2
          have K_s2 := K_s1.trans ks2.nil
          generalize upd G51 s2 (.tup [.str "x"]) = G52 at ks2 ds ls1 ds2 s_s2 K_s2
          walk_at "rd"
          first | refine ⟨szl (Nat.le_of_ble_eq_true rfl), fun s3 hs3 => ?_⟩ | refine fun s3 hs3 => ?_
          have ks3 : Kp [] G52 (upd G52 s3 (.tup [.ref r4])) := Kp.new hs3
          replace ds := Dp.kq ks3 _ _ ds
          replace ds2 := Dp.kq ks3 _ _ ds2
          replace ls1 := ks3.keep _ _ (by simp) ls1
          have ds3 : Dp K (upd G52 s3 (.tup [.ref r4])) (.ref s3) (.tuple (encs [(Sm.load "y" "x" g 0)])) := .tup (SqT.of upd_same) (.cons ds .nil)
          have s_s3 := s_s2.kp ks3
          have K_s3 := K_s2.trans ks3.nil
          generalize upd G52 s3 (.tup [.ref r4]) = G53 at ks3 ds ds2 ls1 ds3 s_s3 K_s3
          walk_at "rd"
          first | refine ⟨szl (Nat.le_of_ble_eq_true rfl), fun s4 hs4 => ?_⟩ | refine fun s4 hs4 => ?_
          have ks4 : Kp [] G53 (upd G53 s4 (.tup [.str "f", .ref s2, .ref s3])) := Kp.new hs4
          replace ds := Dp.kq ks4 _ _ ds
          replace ds2 := Dp.kq ks4 _ _ ds2
          replace ds3 := Dp.kq ks4 _ _ ds3
          replace ls1 := ks4.keep _ _ (by simp) ls1
          have ds4 : Dp K (upd G53 s4 (.tup [.str "f", .ref s2, .ref s3])) (.ref s4) (Fd.enc ⟨"f", ["x"], [(Sm.load "y" "x" g 0)]⟩) := .tup (SqT.of upd_same) (.cons (.str _) (.cons ds2 (.cons ds3 .nil)))
          have s_s4 := s_s3.kp ks4
          have K_s4 := K_s3.trans ks4.nil
          generalize upd G53 s4 (.tup [.str "f", .ref s2, .ref s3]) = G54 at ks4 ds ds2 ds3 ls1 ds4 s_s4 K_s4
          walk_at "rd"
          first | refine ⟨szl (Nat.le_of_ble_eq_true rfl), fun s5 hs5 => ?_⟩ | refine fun s5 hs5 => ?_
          have ks5 : Kp [] G54 (upd G54 s5 (.tup [.str "fine", .ref s4])) := Kp.new hs5
          replace ds := Dp.kq ks5 _ _ ds
          replace ds2 := Dp.kq ks5 _ _ ds2
          replace ds3 := Dp.kq ks5 _ _ ds3
          replace ds4 := Dp.kq ks5 _ _ ds4
          replace ls1 := ks5.keep _ _ (by simp) ls1
          have ds5 : Dp K (upd G54 s5 (.tup [.str "fine", .ref s4])) (.ref s5) (fineD (Fd.enc ⟨"f", ["x"], [(Sm.load "y" "x" g 0)]⟩)) := .tup (SqT.of upd_same) (.cons (.str _) (.cons ds4 .nil))
          have s_s5 := s_s4.kp ks5
          have K_s5 := K_s4.trans ks5.nil
          generalize upd G54 s5 (.tup [.str "fine", .ref s4]) = G55 at ks5 ds ds2 ds3 ds4 ls1 ds5 s_s5 K_s5
          walk_at "rd"
          first | refine ⟨szl (Nat.le_of_ble_eq_true rfl), fun s6 hs6 => ?_⟩ | refine fun s6 hs6 => ?_
          have ks6 : Kp [] G55 (upd G55 s6 (.lst [.str "a", .str "b"])) := Kp.new hs6
          replace ds := Dp.kq ks6 _ _ ds
          replace ds2 := Dp.kq ks6 _ _ ds2
          replace ds3 := Dp.kq ks6 _ _ ds3
          replace ds4 := Dp.kq ks6 _ _ ds4
          replace ds5 := Dp.kq ks6 _ _ ds5
          replace ls1 := ks6.keep _ _ (by simp) ls1
          have ls6 : (upd G55 s6 (.lst [.str "a", .str "b"])) s6 = some (.lst [.str "a", .str "b"]) := upd_same
          have s_s6 := s_s5.kp ks6
          have K_s6 := K_s5.trans ks6.nil
          generalize upd G55 s6 (.lst [.str "a", .str "b"]) = G56 at ks6 ds ds2 ds3 ds4 ds5 ls1 ls6 s_s6 K_s6
          walk_at "rd"
          refine ⟨_, _, rfl, .inl (SqL.of ls6), rfl, ?_⟩
          refine ⟨flat_strs (["a", "b"] : List Str), _, rfl, ?_⟩
          have ein : inV (.str g) ((["a", "b"] : List Str).map V.str) = decide (g ∈ (["a", "b"] : List Str)) := inV_strs _ _
          refine iteB (fun h => ?_) (fun h => ?_)
          · have hg : ¬ g ∈ (["a", "b"] : List Str) := of_decide_eq_false (ein.symm.trans (nb1 _ h))
            unfold fdR at hpl
            rw [if_neg hg] at hpl
            walk_at "st"
            first | refine ⟨szl (Nat.le_of_ble_eq_true rfl), fun s7 hs7 => ?_⟩ | refine fun s7 hs7 => ?_
            have ks7 : Kp [] G56 (upd G56 s7 (.tup [.str "malformed", .int (10 + (("y = x." : Str).length : Nat))])) := Kp.new hs7
            replace ds := Dp.kq ks7 _ _ ds
            replace ds2 := Dp.kq ks7 _ _ ds2
            replace ds3 := Dp.kq ks7 _ _ ds3
            replace ds4 := Dp.kq ks7 _ _ ds4
            replace ds5 := Dp.kq ks7 _ _ ds5
            replace ls1 := ks7.keep _ _ (by simp) ls1
            replace ls6 := ks7.keep _ _ (by simp) ls6
            have ds7 : Dp K (upd G56 s7 (.tup [.str "malformed", .int (10 + (("y = x." : Str).length : Nat))])) (.ref s7) (encX (.mal 16)) := .tup (SqT.of upd_same) (.cons (.str _) (.cons (show Dp K _ (.int (10 + ((("y = x." : Str).length : Nat) : Int))) (.int ((16 : Nat) : Int)) by rw [F3]; exact .int _) .nil))
            have s_s7 := s_s6.kp ks7
            have K_s7 := K_s6.trans ks7.nil
            generalize upd G56 s7 (.tup [.str "malformed", .int (10 + (("y = x." : Str).length : Nat))]) = G57 at ks7 ds ds2 ds3 ds4 ds5 ls1 ls6 ds7 s_s7 K_s7
            walk_at "rd"
            refine ⟨fAd K a_parse_function, ldT g, _, rfl, by omega, .pfn (fu := 100) (by decide) hpl, (show Kn (.mal 16) from trivial), fun u2 G58 ku2 du2 => ?_⟩
            replace ds := Dp.kq ku2 _ _ ds
            replace ds2 := Dp.kq ku2 _ _ ds2
            replace ds3 := Dp.kq ku2 _ _ ds3
            replace ds4 := Dp.kq ku2 _ _ ds4
            replace ds5 := Dp.kq ku2 _ _ ds5
            replace ds7 := Dp.kq ku2 _ _ ds7
            replace ls1 := ku2.keep _ _ (by simp) ls1
            replace ls6 := ku2.keep _ _ (by simp) ls6
            have s_u2 := s_s7.kp ku2
            have K_u2 := K_s7.trans ku2.nil
            walk_at "rd"
            refine ⟨_, _, du2, ds7, (encX_sok (show Kn (.mal 16) from trivial)).shaped (by decide), (encX_sok (show Kn (.mal 16) from trivial)).shaped (by decide), ?_⟩
            rw [(encX_sok (show Kn (.mal 16) from trivial)).refl]
            walk_at "rd"
            exact ⟨_, _, _, _, rfl, K_u2⟩
          · have hg : g ∈ (["a", "b"] : List Str) := of_decide_eq_true (ein.symm.trans (nb2 _ h))
            unfold fdR at hpl
            rw [if_pos hg] at hpl
            walk_at "st"
            refine ⟨fAd K a_parse_function, ldT g, _, rfl, by omega, .pfn (fu := 100) (by decide) hpl, fun u2 G57 ku2 du2 => ?_⟩
            replace ds := Dp.kq ku2 _ _ ds
            replace ds2 := Dp.kq ku2 _ _ ds2
            replace ds3 := Dp.kq ku2 _ _ ds3
            replace ds4 := Dp.kq ku2 _ _ ds4
            replace ds5 := Dp.kq ku2 _ _ ds5
            replace ls1 := ku2.keep _ _ (by simp) ls1
            replace ls6 := ku2.keep _ _ (by simp) ls6
            have s_u2 := s_s6.kp ku2
            have K_u2 := K_s6.trans ku2.nil
            walk_at "rd"
            have so : Sok 5 (fineD (Fd.enc ⟨"f", ["x"], [(Sm.load "y" "x" g 0)]⟩)) := fine_sok (fd_sok (by decide +kernel) (all_cons (.tup (n := 1) (all_cons (.str (by decide +kernel)) (all_cons (.str (by decide +kernel)) (all_cons (.str (by decide +kernel)) (all_cons (.str hgok) (all_cons .int all_nil)))))) all_nil))
            refine ⟨_, _, du2, ds5, so.shaped (by decide), so.shaped (by decide), ?_⟩
            rw [so.refl]
            walk_at "rd"
            exact ⟨_, _, _, _, rfl, K_u2⟩
        | i + 2, hy => cases hy
      · rintro σ H' ⟨z3, z4, z6, z7, rfl, ki⟩
        walk_at "rd"
        exact k _ (K_r6.trans ki.nil) (s_r6.kp ki)
end
end K14


set_option Elab.async false
set_option linter.all false
set_option maxRecDepth 100000
set_option maxHeartbeats 4000000
namespace K14
open PySem PySem.Spec PyProof.Rows L2 He Hz Cm Lx Px Ly Qx Nx
local macro_rules | `(tactic| walk_at "rd") => `(tactic| repeat (first | (refine ⟨_, rfl, ?_⟩) | (refine ⟨_, _, rfl, rfl, ?_⟩) | (refine ⟨rfl, ?_⟩) | (refine ⟨szl (by omega), ?_⟩) | (refine ⟨_, _, _, _, _, rfl, (by assumption), (by assumption), (by assumption), (by rfl), ?_⟩) | (refine ⟨_, _, rfl, Or.inl (by assumption), ?_⟩)))
local macro_rules | `(tactic| walk_at "dp") => `(tactic| (repeat' (first | exact DpAll.nil | apply DpAll.cons | exact Dp.str _ | exact Dp.int _ | exact Dp.non | exact Dp.bl _ | assumption)))
theorem cut_pre {x : Str} {n : Nat} (h : n ≤ x.length) : (cutS x none (some (n : Int))).length = n := by
  have z := cut_at (x := x) (n := 0) (m := n) (Nat.zero_le _) h
  have e0 : x.cps.toList.length = x.length := rfl
  have e : cutS x none (some (n : Int)) = cutS x (some ((0 : Nat) : Int)) (some (n : Int)) := by
    unfold cutS
    rw [show HT.sIx x.length 0 (some ((0 : Nat) : Int)) = HT.sIx x.length 0 none by rw [HT.sIx_nat]; exact Nat.zero_min _]
  show (cutS x none (some (n : Int))).cps.toList.length = n
  rw [e, z, List.drop_zero, Nat.sub_zero, List.length_take]
  omega
theorem sp1 : (" " : Str).length = 1 := by decide +kernel
theorem rep63 : (Tm.rep (Str.ofString " ") 6300).length = 6300 := (Tm.rep_len (" " : Str) 6300).trans (by rw [sp1])
section
variable {P : Program} {w : World} {K : PySem.W.Frag} {mg : Str → Option Value} {base : Heap} {H H1 H' : Hp} {Q : VK} {E : XK}
def spLaw : Sp := fun vs H Q _ => ∃ a ns, vs = [.ref a] ∧ SqL K H a ((ns : List Int).map V.int) ∧ ∀ H', Q (.bl true) H'
theorem ok_law (T : Tx P K mg) : OkF P w K mg base CX0 43 a_law ["script"] (spLaw (K := K)) := by
  have nd := sc_law.nd
  have F__law_take := ok_law_take (P := P) (w := w) (base := base) T
  have F__law_odd := ok_law_odd (P := P) (w := w) (base := base) T
  have F__law_piece := ok_law_piece (P := P) (w := w) (base := base) T
  have F__law_text_right := ok_law_text_right (P := P) (w := w) (base := base) T
  have F__law_levels_right := ok_law_levels_right (P := P) (w := w) (base := base) T
  have F__law_sums_right := ok_law_sums_right (P := P) (w := w) (base := base) T
  refine T.f_law.ok (CX := CX0) sc_law (fun vs H Q E h => ?_) (fun cdv A outer s H vs Q E hr h => ?_)
  · obtain ⟨_, _, rfl, _⟩ := h
    rfl
  · obtain ⟨sc, ns, rfl, hS, k⟩ := h
    refine ⟨_, PSs.nox (pss_cons (ps_set (i := 1) nd rfl (Or.inr rfl) (pe_lst (pa_cons pe_int (pa_cons (pe_callTy call_list_of (by rfl) T.n_list (by decide +kernel) (pa_cons (pv 0) pa_nil)) (pa_cons (pe_un un_neg pe_int) pa_nil)))))
      (pss_cons (ps_for PassesOwn.never rfl (pi_range1 rfl T.n_range (pa_cons pe_int pa_nil)) (pg_name (i := 2) nd rfl (Or.inl rfl)) (pss_cons (ps_set (i := 3) nd rfl (Or.inl rfl) (pe_bm PySem.F.plainAttrs_str PySem.F.slot_str_join PySem.F.type_str_join mt_join pe_str (pa_cons (pe_lc (own := [("k", 6)]) (g := gName 6) (tt := tYes) rfl nd (pi_range1 rfl T.n_range (pa_cons (pe_call F__law_take (hr.mono (by decide)) rfl T.g__law_take T.k__law_take T.b__law_take .nil pass0 (pa_cons (pv 1) (pa_cons pe_int pa_nil))) pa_nil)) (blkOk_by (N := (["script", "pool", "turn", "text", "long", "size", "k"] : List Str)) (sc := defScope s_law) (by decide +kernel)) (fun _ _ _ _ _ => pg_name (i := 6) nd rfl (Or.inl rfl)) (fun _ _ _ _ _ => pts_nil) (fun _ _ _ _ _ => by exact (pe_call F__law_piece (hr.mono (by decide)) rfl T.g__law_piece T.k__law_piece T.b__law_piece .nil pass0 (pa_cons (pv 1) pa_nil)))) pa_nil)))
      (pss_one (ps_if (pt_not (pt_val (pe_call F__law_text_right (hr.mono (by decide)) rfl T.g__law_text_right T.k__law_text_right T.b__law_text_right .nil pass0 (pa_cons (pv 3) pa_nil)) (fun _ => rfl))) (pss_one (ps_ret pe_bl)) pss_nil))))
      (pss_cons (ps_set (i := 4) nd rfl (Or.inl rfl) (pe_bm PySem.F.plainAttrs_str PySem.F.slot_str_join PySem.F.type_str_join mt_join pe_str (pa_cons (pe_lc (own := [("k", 6)]) (g := gName 6) (tt := tYes) rfl nd (pi_range1 rfl T.n_range (pa_cons pe_int pa_nil)) (blkOk_by (N := (["script", "pool", "turn", "text", "long", "size", "k"] : List Str)) (sc := defScope s_law) (by decide +kernel)) (fun _ _ _ _ _ => pg_name (i := 6) nd rfl (Or.inl rfl)) (fun _ _ _ _ _ => pts_nil) (fun _ _ _ _ _ => by exact (pe_call F__law_piece (hr.mono (by decide)) rfl T.g__law_piece T.k__law_piece T.b__law_piece .nil pass0 (pa_cons (pv 1) pa_nil)))) pa_nil)))
      (pss_cons (ps_set (i := 4) nd rfl (Or.inl rfl) (pe_op op_add_str (pv 4) (pe_bm PySem.F.plainAttrs_str PySem.F.slot_str_join PySem.F.type_str_join mt_join pe_str (pa_cons (pe_lc (own := [("k", 6)]) (g := gName 6) (tt := tYes) rfl nd (pi_range1 rfl T.n_range (pa_cons pe_int pa_nil)) (blkOk_by (N := (["script", "pool", "turn", "text", "long", "size", "k"] : List Str)) (sc := defScope s_law) (by decide +kernel)) (fun _ _ _ _ _ => pg_name (i := 6) nd rfl (Or.inl rfl)) (fun _ _ _ _ _ => pts_nil) (fun _ _ _ _ _ => by exact (pe_op Tm.op_mulS (pe_ix (show IxR _ (rIxL K) from ix_list) (pe_lst (pa_cons pe_str (pa_cons pe_str (pa_cons (pe_call F__law_odd (hr.mono (by decide)) rfl T.g__law_odd T.k__law_odd T.b__law_odd .nil pass0 (pa_cons (pv 1) pa_nil)) (pa_cons pe_str pa_nil))))) (pe_call F__law_take (hr.mono (by decide)) rfl T.g__law_take T.k__law_take T.b__law_take .nil pass0 (pa_cons (pv 1) (pa_cons pe_int pa_nil))) (fun _ _ => rfl)) pe_int))) pa_nil))))
      (pss_cons (ps_set (i := 5) nd rfl (Or.inl rfl) (pe_ix ix_list (pe_lst (pa_cons (pe_op op_add pe_int (pe_call F__law_take (hr.mono (by decide)) rfl T.g__law_take T.k__law_take T.b__law_take .nil pass0 (pa_cons (pv 1) (pa_cons pe_int pa_nil)))) (pa_cons pe_int (pa_cons pe_int pa_nil)))) (pe_call F__law_take (hr.mono (by decide)) rfl T.g__law_take T.k__law_take T.b__law_take .nil pass0 (pa_cons (pv 1) (pa_cons pe_int pa_nil))) (fun _ _ => rfl)))
      (pss_cons (ps_if (pt_not (pt_val (pe_call F__law_text_right (hr.mono (by decide)) rfl T.g__law_text_right T.k__law_text_right T.b__law_text_right .nil pass0 (pa_cons (pe_slice sl_str (pe_op op_add_str (pv 4) (pe_op Tm.op_mulS pe_str pe_int)) po_none (po_some (pv 5))) pa_nil)) (fun _ => rfl))) (pss_one (ps_ret pe_bl)) pss_nil)
      (pss_one (ps_ret (pe_and (pe_call F__law_levels_right (hr.mono (by decide)) rfl T.g__law_levels_right T.k__law_levels_right T.b__law_levels_right .nil pass0 (pa_cons (pv 1) pa_nil)) (pe_one (pe_call F__law_sums_right (hr.mono (by decide)) rfl T.g__law_sums_right T.k__law_sums_right T.b__law_sums_right .nil pass0 (pa_cons (pv 1) pa_nil)))))))))))), ?_⟩
    walk_at "rd"
    refine fun q hq => ?_
    walk_at "rd"
    first | refine ⟨szl (Nat.le_of_ble_eq_true rfl), fun st hst => ?_⟩ | refine fun st hst => ?_
    have hne : q ≠ st := fun z => by
      rw [z, upd_same] at hst
      cases hst
    have lst : (upd (upd H q (.lst (ns.map V.int))) st (.lst [.int 0, .ref q, .int (-1)])) st = some (.lst [.int 0, .ref q, .int (-1)]) := upd_same
    have lq : (upd (upd H q (.lst (ns.map V.int))) st (.lst [.int 0, .ref q, .int (-1)])) q = some (.lst (ns.map V.int)) := (upd_ne hne).trans upd_same
    generalize upd (upd H q (.lst (ns.map V.int))) st (.lst [.int 0, .ref q, .int (-1)]) = B at lst lq
    have s0 : PoolAt K B st q := ⟨ns, 0, -1, lst, fun H' kk => SqL.of (kk.keep _ _ (by simpa using hne) lq), by decide⟩
    clear lst lq hS
    walk_at "rd"
    refine ⟨by decide, by decide, for_range (n := 4) (lo := 0) (fun i σ H' => ∃ z2 z3, σ = [some (.ref sc), some (.ref st), z2, z3, none, none, none] ∧ PoolAt K H' st q) ⟨_, _, rfl, s0⟩ ?_ ?_⟩
    · rintro i σ H0 hi ⟨z2, z3, rfl, s0⟩
      walk_at "rd"
      refine ⟨st, q, 61, rfl, by decide, by decide, s0, fun t1 ht1 H1 r1 s1 => ?_⟩
      walk_at "rd"
      refine ⟨rng_lo t1, rng_hi (n := t1) (by omega), ?_⟩
      intro D hD
      refine lc_range (n := t1) (lo := 0) (fun i H' => ∃ l : List Str, l.length = i ∧ (∀ x ∈ l, x.length ≤ 6000) ∧ Kp [st] H1 H' ∧ PoolAt K H' st q ∧ H' D = some (.lst (l.map V.str))) ⟨[], rfl, all_nil, Kp.new hD, s1.kp (Kp.new hD), upd_same⟩ ?_ ?_
      · rintro i H4 hi ⟨l, hl, hA, k4, s4, hD4⟩
        refine ⟨rfl, ?_⟩
        walk_at "rd"
        refine ⟨st, q, rfl, s4, fun x hx H5 r5 s5 => ?_⟩
        have k5 := k4.trans r5
        walk_at "rd"
        refine ⟨_, r5.keep _ _ (by simpa using s1.old hD) hD4, by rw [List.length_map]; exact szt (by omega), l ++ [x], by rw [List.length_append, hl]; rfl, fun y m => ?_, k5.mine hD, s1.mine hD k5 s5, ?_⟩
        · rcases List.mem_append.mp m with m | m
          · exact hA y m
          · rw [List.mem_singleton.mp m]
            exact hx
        · rw [upd_same, List.map_append]
          rfl
      rintro H4 ⟨l, hl, hA, k4, s4, hD4⟩
      have hsum := sum_le l hA
      have hj := jlen (y := "") l hA
      have ez : ("" : Str).length = 0 := by decide +kernel
      rw [ez, hl] at hj
      rw [hl] at hsum
      refine ⟨_, _, l, rfl, rfl, .inl (SqL.of hD4), by rw [ez, hl]; omega, ?_⟩
      generalize Txt.join (Str.ofString "") l = X at hj
      walk_at "rd"
      refine ⟨by omega, fun H6 k6 => ?_⟩
      walk_at "rd"
      exact ⟨_, _, rfl, s4.kp k6⟩
    rintro σ H1 ⟨z2, z3, rfl, s1⟩
    clear s0
    walk_at "rd"
    refine ⟨rng_lo 20, rng_hi (n := 20) (by omega), ?_⟩
    intro D hD
    refine lc_range (n := 20) (lo := 0) (fun i H' => ∃ l : List Str, l.length = i ∧ (∀ x ∈ l, x.length ≤ 6000) ∧ Kp [st] H1 H' ∧ PoolAt K H' st q ∧ H' D = some (.lst (l.map V.str))) ⟨[], rfl, all_nil, Kp.new hD, s1.kp (Kp.new hD), upd_same⟩ ?_ ?_
    · rintro i H4 hi ⟨l, hl, hA, k4, s4, hD4⟩
      refine ⟨rfl, ?_⟩
      walk_at "rd"
      refine ⟨st, q, rfl, s4, fun x hx H5 r5 s5 => ?_⟩
      have k5 := k4.trans r5
      walk_at "rd"
      refine ⟨_, r5.keep _ _ (by simpa using s1.old hD) hD4, by rw [List.length_map]; exact szt (by omega), l ++ [x], by rw [List.length_append, hl]; rfl, fun y m => ?_, k5.mine hD, s1.mine hD k5 s5, ?_⟩
      · rcases List.mem_append.mp m with m | m
        · exact hA y m
        · rw [List.mem_singleton.mp m]
          exact hx
      · rw [upd_same, List.map_append]
        rfl
    rintro H4 ⟨l, hl, hA, k4, s4, hD4⟩
    have hsum := sum_le l hA
    have hj := jlen (y := " ") l hA
    have ez : (" " : Str).length = 1 := by decide +kernel
    rw [ez, hl] at hj
    rw [hl] at hsum
    refine ⟨_, _, l, rfl, rfl, .inl (SqL.of hD4), by rw [ez, hl]; omega, ?_⟩
    generalize Txt.join (Str.ofString " ") l = X at hj
    walk_at "rd"
    have s2 := s4
    clear hsum
    refine ⟨rng_lo 14, rng_hi (n := 14) (by decide), ?_⟩
    intro D2 hD2
    refine lc_range (n := 14) (lo := 0) (fun i H' => ∃ l : List Str, l.length = i ∧ (∀ x ∈ l, x.length ≤ 1000) ∧ Kp [st] H4 H' ∧ PoolAt K H' st q ∧ H' D2 = some (.lst (l.map V.str))) ⟨[], rfl, all_nil, Kp.new hD2, s2.kp (Kp.new hD2), upd_same⟩ ?_ ?_
    · rintro i H5 hi ⟨l2, hl2, hA2, k5, s5, hD5⟩
      refine ⟨rfl, ?_⟩
      walk_at "rd"
      refine ⟨st, q, rfl, s5, fun c H6 r6 s6 => ?_⟩
      have k6 := k5.trans r6
      have hD6 := r6.keep _ _ (by simpa using s2.old hD2) hD5
      walk_at "rd"
      first | refine ⟨szl (Nat.le_of_ble_eq_true rfl), fun p hp => ?_⟩ | refine fun p hp => ?_
      have hDp : D2 ≠ p := fun z => by
        rw [← z, hD6] at hp
        cases hp
      have op : p ≠ st := s6.old hp
      have k7 : Kp [st] H4 (upd H6 p (.lst [.str " ", .str "x ", .str ⟨#[c]⟩, .str ";"])) := k6.trans (Kp.new hp)
      have s7 : PoolAt K (upd H6 p (.lst [.str " ", .str "x ", .str ⟨#[c]⟩, .str ";"])) st q := s6.kp (Kp.new hp)
      have l7 : (upd H6 p (.lst [.str " ", .str "x ", .str ⟨#[c]⟩, .str ";"])) p = some (.lst (([(" " : Str), "x ", ⟨#[c]⟩, ";"] : List Str).map V.str)) := upd_same
      have hD7 : (upd H6 p (.lst [.str " ", .str "x ", .str ⟨#[c]⟩, .str ";"])) D2 = some (.lst (l2.map V.str)) := (upd_ne hDp).trans hD6
      generalize upd H6 p (.lst [.str " ", .str "x ", .str ⟨#[c]⟩, .str ";"]) = H7 at k7 s7 l7 hD7
      walk_at "rd"
      refine ⟨st, q, 4, rfl, by decide, by decide, s7, fun t8 ht8 H8 r8 s8 => ?_⟩
      have k8 := k7.trans r8
      have hD8 := r8.keep _ _ (by simpa using s2.old hD2) hD7
      have l8 := r8.keep _ _ (by simpa using op) l7
      walk_at "rd"
      obtain ⟨x, x0, xm⟩ := pick_at ([(" " : Str), "x ", ⟨#[c]⟩, ";"] : List Str) (t := t8) ht8
      have x1 : (([(" " : Str), "x ", ⟨#[c]⟩, ";"] : List Str).map V.str)[t8]? = some (.str x) := by rw [List.getElem?_map, x0]; rfl
      have hx2 : 1 ≤ x.length ∧ x.length ≤ 2 := by
        have := all_cons (p := fun y : Str => 1 ≤ y.length ∧ y.length ≤ 2) (a := (" " : Str)) (by decide +kernel) (all_cons (a := ("x " : Str)) (by decide +kernel) (all_cons (a := (⟨#[c]⟩ : Str)) ⟨Nat.le_refl 1, (by decide : 1 ≤ 2)⟩ (all_cons (a := (";" : Str)) (by decide +kernel) all_nil)))
        exact this x xm
      refine ⟨_, _, _, _, rfl, rfl, SqL.of l8, atI_nat x1, ?_⟩
      walk_at "rd"
      refine ⟨_, _, 500, rfl, rfl, rfl, by decide, hx2.1, by omega, by decide, ?_⟩
      have hrl := Tm.rep_len x 500
      refine ⟨_, hD8, by rw [List.length_map]; exact szt (by omega), l2 ++ [Tm.rep x 500], by rw [List.length_append, hl2]; rfl, fun y m => ?_, k8.mine hD2, s2.mine hD2 k8 s8, ?_⟩
      · rcases List.mem_append.mp m with m | m
        · exact hA2 y m
        · rw [List.mem_singleton.mp m]
          omega
      · rw [upd_same, List.map_append]
        rfl
    rintro H5 ⟨l2, hl2, hA2, k5, s5, hD5⟩
    have hsum2 := sum_le l2 hA2
    have hj2 := jlen (y := "") l2 hA2
    have ez2 : ("" : Str).length = 0 := rfl
    rw [ez2, hl2] at hj2
    rw [hl2] at hsum2
    refine ⟨_, _, l2, rfl, rfl, .inl (SqL.of hD5), by rw [ez2, hl2]; omega, ?_⟩
    generalize Txt.join (Str.ofString "") l2 = X2 at hj2
    walk_at "rd"
    refine ⟨(show X.length + X2.length ≤ sizeLine by rw [sizeLine_eq]; omega), ?_⟩
    have hXX : (X ++ X2).length ≤ 140000 := by rw [Str.length_append]; omega
    generalize X ++ X2 = Y at hXX
    walk_at "rd"
    refine ⟨st, q, 200, rfl, by decide, by decide, s5, fun t6 ht6 H6 r6 s6 => ?_⟩
    walk_at "rd"
    first | refine ⟨szl (Nat.le_of_ble_eq_true rfl), fun p hp => ?_⟩ | refine fun p hp => ?_
    have op : p ≠ st := s6.old hp
    have s7 : PoolAt K (upd H6 p (.lst [.int (6001 + (t6 : Nat)), .int 6001, .int 6000])) st q := s6.kp (Kp.new hp)
    have l7 : (upd H6 p (.lst [.int (6001 + (t6 : Nat)), .int 6001, .int 6000])) p = some (.lst [.int (6001 + (t6 : Nat)), .int 6001, .int 6000]) := upd_same
    generalize upd H6 p (.lst [.int (6001 + (t6 : Nat)), .int 6001, .int 6000]) = H7 at s7 l7
    walk_at "rd"
    refine ⟨st, q, 3, rfl, by decide, by decide, s7, fun t8 ht8 H8 r8 s8 => ?_⟩
    have l8 := r8.keep _ _ (by simpa using op) l7
    walk_at "rd"
    obtain ⟨n, hn, hat⟩ : ∃ n : Nat, n ≤ 6300 ∧ ([.int (6001 + (t6 : Nat)), .int 6001, .int 6000] : List V)[t8]? = some (.int (n : Nat)) := by
      rcases (show t8 = 0 ∨ t8 = 1 ∨ t8 = 2 by omega) with rfl | rfl | rfl
      · exact ⟨6001 + t6, by omega, congrArg (fun i : Int => some (V.int i)) (Int.natCast_add 6001 t6).symm⟩
      · exact ⟨6001, by decide, rfl⟩
      · exact ⟨6000, by decide, rfl⟩
    refine ⟨_, _, _, _, rfl, rfl, SqL.of l8, atI_nat hat, ?_⟩
    walk_at "rd"
    refine ⟨_, _, 6300, rfl, rfl, rfl, by decide, by decide +kernel, by decide +kernel, by decide, ?_⟩
    have hrl := rep63
    generalize Tm.rep (Str.ofString " ") 6300 = R at hrl ⊢
    have hYl : (Y ++ R).length = Y.length + 6300 := by rw [Str.length_append, hrl]
    refine ⟨_, _, rfl, rfl, (show Y.length + R.length ≤ sizeLine by rw [sizeLine_eq]; omega), ?_⟩
    have hcl := cut_pre (x := Y ++ R) (n := n) (by omega)
    walk_at "rd"
    refine ⟨(show (Y ++ R).length ≤ sizeLine by rw [sizeLine_eq]; omega), ?_⟩
    walk_at "rd"
    refine ⟨by rw [hcl]; omega, fun H9 k9 => ?_⟩
    have s9 := s8.kp k9
    walk_at "rd"
    refine ⟨st, q, rfl, s9, fun HA rA sA => ?_⟩
    walk_at "rd"
    refine ⟨st, q, rfl, sA, fun HB rB sB => ?_⟩
    exact k _
end
end K14


set_option Elab.async false
set_option linter.all false
set_option maxRecDepth 100000
set_option maxHeartbeats 0
/-! the head: the top's run in the kernel, what it leaves -/
namespace K14
open PySem PySem.Spec PyProof.Rows L2 He Hz
abbrev R : PySem.W.OpenRow := PySem.W.OpenLaw.row PySem.Challenge.rw_outlives_k14_texts_sign_by_sign
abbrev hk : PySem.W.Hook := hookZ 5 "/claim/cut.py" fa fn xs ex
def ob (s : PySem.W.SharedT) : AlZ := obsZG 5 "/claim/cut.py" fa fn xs ex (HandSHeadRun.getT s)
theorem ob_eq (s : PySem.W.SharedT) : ob s = hk.obs s.abs := obsZG_eq (HandSHeadRun.getT_eq s)
theorem run (w : World) : HandSHeadRun.RunEq R (PySem.W.view R.prog [lawAt]) hk ob 6000 names w := by
  intro os
  kernel_rfl
end K14


set_option Elab.async false
set_option linter.all false
set_option maxRecDepth 100000
set_option maxHeartbeats 0
/-! the end -/
namespace K14
open PySem PySem.Spec PyProof.Rows L2 He Hz
theorem sxn_at : PySem.SXE.SxN "at" := ⟨rfl, rfl, rfl, rfl, rfl, by decide +kernel, by decide +kernel, fun _ _ _ _ _ _ _ _ _ _ _ _ _ _ => rfl⟩
theorem sxn_name : PySem.SXE.SxN "name" := ⟨rfl, rfl, rfl, rfl, rfl, by decide +kernel, by decide +kernel, fun _ _ _ _ _ _ _ _ _ _ _ _ _ _ => rfl⟩
theorem sxn_limit : PySem.SXE.SxN "limit" := ⟨rfl, rfl, rfl, rfl, rfl, by decide +kernel, by decide +kernel, fun _ _ _ _ _ _ _ _ _ _ _ _ _ _ => rfl⟩
theorem sxn_why : PySem.SXE.SxN "why" := ⟨rfl, rfl, rfl, rfl, rfl, by decide +kernel, by decide +kernel, fun _ _ _ _ _ _ _ _ _ _ _ _ _ _ => rfl⟩
abbrev PP : Program := PySem.Challenge.rw_outlives_k14_texts_sign_by_sign.prog
theorem top_super : (PP.main.scope.names.lookup ("super" : Str)).isSome = false := by kernel_rfl
theorem xs_ok : ∀ d, d ∈ xs → XcOk PP d := by
  unfold xs
  refine Qx.all_cons ⟨sxn_at, fun env => ⟨_, rfl⟩, top_super⟩ (Qx.all_cons ⟨sxn_name, fun env => ⟨_, rfl⟩, top_super⟩ (Qx.all_cons ⟨sxn_name, fun env => ⟨_, rfl⟩, top_super⟩ (Qx.all_cons ⟨sxn_limit, fun env => ⟨_, rfl⟩, top_super⟩ (Qx.all_cons ⟨sxn_why, fun env => ⟨_, rfl⟩, top_super⟩ Qx.all_nil))))
theorem facts {w : World} {K : PySem.W.Frag} {h : Heap} {mg : Str → Option Value} {f : Addr} (X : K.In h) (G : h.Ns mainGlobals mg) (hfa : mg ("law" : Str) = some (.ref f)) (c : SaysZ PP.main.file fa fn xs ex K) :
    ∃ fd : FuncData, (∀ (s : Shared) (v : Value), BindsTo s fd ⟨[v], []⟩ [("script", v)]) ∧ ∀ base : Heap, K.In base → base.Ns mainGlobals mg → FnOk PP w K mg base CX0 43 f fd ["script"] (spLaw (K := K)) := by
  have T : Tx PP K mg := ⟨c, fun x m => glo_ok X G (c.fact m), fun x m => free_ok X G (c.fact m), fun x j m => int_ok X G (c.fact m), fun d m => c.xcg X G m, xs_ok⟩
  have e := hfa.symm.trans T.g_law
  cases e
  have b := FunD.bindsA (ps := ["script"]) T.f_law fun _ _ _ _ _ _ us hl => match us, hl with | [_], _ => rfl
  exact ⟨_, fun s v => b s [v] rfl, fun base _ _ => ok_law T⟩
end K14
open PySem PySem.W PySem.Calls PyProof.Rows
theorem PySem.Challenge.cw_outlives_k14_texts_sign_by_sign_holds : PySem.Challenge.rw_outlives_k14_texts_sign_by_sign.Holds := by
  w_on; o_law
  refine HandSHeadRun.head_any (r := OpenLaw.row PySem.Challenge.rw_outlives_k14_texts_sign_by_sign) (q := view (OpenLaw.row PySem.Challenge.rw_outlives_k14_texts_sign_by_sign).prog [63]) (H := K14.hk) (ob := K14.ob) (M := 6000) (loose := K14.names) (d := HandSHeadRun.topDef (OpenLaw.row PySem.Challenge.rw_outlives_k14_texts_sign_by_sign).prog 63) (kwd := []) K14.ob_eq
    (by kernel_rfl) (fun s => by kernel_rfl) K14.run (by kernel_rfl) (by kernel_rfl) (by kernel_rfl) (by rfl) (by first | assumption | decide +kernel) (by decide +kernel) ⟨rfl, rfl, rfl, rfl, rfl, by decide +kernel⟩ ?hw ?hc
  case hw => w_witness2
  case hc =>
    refine L2.walk_ofE (l := PySem.Challenge.rw_outlives_k14_texts_sign_by_sign) (n := 63) (k := 43) (x := "script") (CX := L2.CX0) rfl (by decide) (by kernel_rfl) ⟨rfl, by decide, by decide⟩ ?F (fun _ _ _ _ z => z)
    intro w mg fa h Y G hmg0
    obtain ⟨K, KX, c⟩ := Y
    have hmg : mg ("law" : PySem.Str) = some (.ref fa) := by
      have e : (HandSHeadRun.topDef (OpenLaw.row PySem.Challenge.rw_outlives_k14_texts_sign_by_sign).prog 63).name = ("law" : PySem.Str) := by kernel_rfl
      rw [← e]
      exact hmg0
    obtain ⟨fd, hb, hF⟩ := K14.facts (w := w) KX G hmg c
    exact ⟨K, fd, K14.spLaw (K := K), KX, hb, fun H a ns hl _ hS => ⟨a, ns, rfl, hS, fun _ => rfl⟩, hF⟩

