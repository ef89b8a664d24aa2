import PyProof.Rows.All
import Wide.All
import OpenK.AllK
import Wide.FinOn
import KE.KExcSuper
import HandS.ForMost
import HandS.Exc
import HandS.TryOnly
import HandS.ExcOwn
import HandS.WordsExc
import HandS.ExcInit
import HandS.RaiseMore
import HandS.More
import HandS.Defaults
import HandS.HeadHook1
import HandS.HeadHook2
import HandS.ExcField
import KE.KIsAll
import KE.KExcIs
import HandS.Base
import HandS.Call
import HandS.TupAny
import KE.KStateDown
import HandS.StrMore
import KE.IntTextLaws
import HandS.Walk
import HandS.Text
import KE.KxText
import PyProof.EqLayable
import PyProof.P3Eq
import HandS.Head0
import HandS.Head1
import HandS.Head2
import HandS.HeadEnd
import PySem.Challenge.RW_outlives_k07_programs_of_texts
set_option Elab.async false
set_option linter.all false
set_option maxRecDepth 100000
set_option maxHeartbeats 4000000
/-! own exceptions whose __init__ says super().__init__(str(x)); self.f = x -/
namespace PySem
namespace SXE
open PySem.W PySem.Calls PyProof.Rows PySem.HandSPX
def sxA (fld : Str) (a1 a2 : Pos) : Arguments := { posonlyargs := [], args := [{ arg := "self", annotation := none, pos := a1 }, { arg := fld, annotation := none, pos := a2 }], vararg := none, kwonlyargs := [], kw_defaults := [], kwarg := none, defaults := [] }
def sxE (fld : Str) (p0 p1 p2 p3 p4 p5 p6 : Pos) : Expr := .Call (.Attribute (.Call (.Name "super" p0) [] [] p1) "__init__" p2) [.Call (.Name "str" p3) [.Name fld p4] [] p5] [] p6
def sxB (fld : Str) (p0 p1 p2 p3 p4 p5 p6 p7 q1 q2 q3 q4 : Pos) : List Stmt := [.Expr (sxE fld p0 p1 p2 p3 p4 p5 p6) p7, .Assign [.Attribute (.Name "self" q1) fld q2] (.Name fld q3) q4]
def sxS (fld : Str) : Scope := { kind := .function, names := [(PySem.Str.ofString "self", .local), (fld, .local), (PySem.Str.ofString "__class__", .free), (PySem.Str.ofString "super", .globalImplicit), (PySem.Str.ofString "str", .globalImplicit)], isGenerator := false, isCoroutine := false, more := [] }
/-- the field's name is a plain one -/
structure SxN (fld : Str) : Prop where
  l0 : (sxS fld).names.lookup ("self" : Str) = some .local
  l1 : (sxS fld).names.lookup fld = some .local
  l2 : (sxS fld).names.lookup ("__class__" : Str) = some .free
  l3 : (sxS fld).names.lookup ("super" : Str) = some .globalImplicit
  l4 : (sxS fld).names.lookup ("str" : Str) = some .globalImplicit
  ns : (("self" : Str) == fld) = false
  nd : (fld == ("__debug__" : Str)) = false
  bd : ∀ (a1 a2 : Pos) (nm q : Str) (body : List Stmt) (kV doc pm cdv ct : Value) (an : Option Addr) (cc x : Addr) (v : Value), bindArgs (ksFn nm q (sxA fld a1 a2) body (sxS fld) .none kV doc pm an cdv ct cc) ⟨[.ref x, v], []⟩ = pure [(("self" : Str), Value.ref x), (fld, v)]
/-- where the super call stands -/
def SxP (fld : Str) (p0 p1 p2 p3 p4 p5 p6 : Pos) : Prop := ∀ env : Env, ∃ pl : Sem Bool, eval (sxE fld p0 p1 p2 p3 p4 p5 p6) env = (do
      let ov ← attributeBase (.Call (.Name "super" p0) [] [] p1) "__init__" env (eval (.Call (.Name "super" p0) [] [] p1) env)
      standAt p2.atName
      let (f, first) ← holding [ov] (getMethod ov "__init__" pl)
      callWith p6 f first (backTo p6 (starEach [.Call (.Name "str" p3) [.Name fld p4] [] p5] env)) [])
/-- what the written part says of the class at C, its __init__ at fI -/
structure SxTxt (P : Program) (K : Frag) (C fI : Addr) (qual fld : Str) : Prop where
  oex : L2.OexC K C
  iC : findIn K (.ref C) "__init__" = some (some (.ref fI))
  tI : typeIn K (.ref fI) = some (.type "function")
  noN : findIn K (.ref C) fld = some none
  opq : nsIn K cStatics "thirdparty.any" = some none
  sup : ks_superIn K C C "__init__" = some (some (.builtin "ValueError.__init__"))
  sVE : subIn K (.ref C) (.type "ValueError") = some true
  mro : mroIn K C (.ref C) = some true
  nsup : nsIn K mainGlobals "super" = some none
  nstr : nsIn K mainGlobals "str" = some none
  top : (P.main.scope.names.lookup ("super" : Str)).isSome = false
  nm : SxN fld
  fn : ∃ (a1 a2 p0 p1 p2 p3 p4 p5 p6 p7 q1 q2 q3 q4 : Pos) (oc : Value) (od : Option Addr) (kV doc pm ct : Value) (an : Option Addr) (osl : Array (Option Value)) (cc cda : Addr) (ccl cl : Value) (cdd cld : Option Addr) (vs : Array Value) (ccs csl : Array (Option Value)) (file : Str) (tf : Tok),
    SxP fld p0 p1 p2 p3 p4 p5 p6 ∧ K.lookup fI = some ⟨oc, od, .func (ksFn "__init__" qual (sxA fld a1 a2) (sxB fld p0 p1 p2 p3 p4 p5 p6 p7 q1 q2 q3 q4) (sxS fld) .none kV doc pm an (.ref cda) ct cc), osl⟩ ∧ codeIn K (.ref cda) qual = true ∧
    K.lookup cda = some ⟨ccl, cdd, .fields vs, ccs⟩ ∧ vs[2]? = some (.str file tf) ∧ ((P.main.file : Str) == file) = true ∧ K.lookup cc = some ⟨cl, cld, .cell (some (.ref C)), csl⟩
/-- str(v) gives some text, the objects kept -/
def StrOk (P : Program) (w : World) (h₀ : Heap) (v : Value) : Prop := ∀ (A : Around) (s : Shared) (Q : Value → Shared → Prop) (E : Value → Shared → Prop), A.units + 200 < cLine → (∀ b o, h₀.get? b = some o → s.heap.get? b = some o) →
  (∀ (z : Str) (t : Tok) (k : Nat), Q (.str z t) { s with toks := k }) → wpAny (model P w) A (call (.type "str") [v]) Q E s
theorem strOk_int {P : Program} {w : World} {h₀ : Heap} {i : Int} {t : Tok} (h : i.natAbs.log2 < 1920) : StrOk P w h₀ (.int i t) := fun A s Q E _ _ q => PySem.P.str_of_int h (q _ _ _)
theorem strOk_str {P : Program} {w : World} {h₀ : Heap} {z : Str} {t : Tok} : StrOk P w h₀ (.str z t) := fun A s Q E _ _ q => PySem.P.str_of_str (q z t s.toks)
/-- what __init__ leaves of a fresh exception at x -/
structure InitEnd (h h' : Heap) (x C dx t1 : Addr) (fld : Str) (v : Value) : Prop where
  keep : ∀ b o, b ≠ x → h.get? b = some o → h'.get? b = some o
  obj : h'.get? x = some { cls := .ref C, dict := some dx, data := .fields #[.ref t1, .none, .none, .none, .bool false, .none] }
  dbig : h.objs.size ≤ dx
  dne : dx ≠ x
  ns : h'.Ns1 dx (fun y => if y = fld then some v else none)
theorem sx_ld {M : Model} {A : Around} {E : Value → Shared → Prop} {s : Shared} {env : Env} {m : Str → Option Value} {x : Str} {pos : Pos} {v : Value} {Q : Value → Shared → Prop} (hn : s.heap.Ns env.locals m) (hv : m x = some v) (hk : env.scope.kind = .function) (hl : env.kindOf x = some .local) (h : Q v s)
    (hd : (x == ("__debug__" : Str)) = false) : wpAny M A (eval (.Name x pos) env) Q E s := wpAny_Name (wpAny_loadName_local hk hl hn hv h) hd
section
variable {P : Program} {w : World} {A : Around} {E : Value → Shared → Prop} {R : Result → Shared → Prop} {s : Shared} {K : Frag} {mg mb : Str → Option Value} {C fI : Addr} {qual fld : Str}
theorem sx_call {nm q : Str} {N : Addr} {bs bm : List Value} {hdct : Bool} {sn : List Str} {sub : List Value} {ab : Bool} {col : Option Bool} {dd : Option Addr} {k0 k1 k2 k3 k5 : Option Value} {h : Heap} {g : Array GenState} {d : Drawn} {t : Nat} {os : OsState} {u x t0 : Addr} {rest : List Value} {Q : Value → Shared → Prop} (hbm : refsVE bm = true)
    (hC : h.get? C = some (excClassObj nm q C N bs bm hdct sn sub ab col dd k0 k1 k2 k3 k5 "ValueError.__new__")) (he : h.get? x = some (excO C t0)) (hu : h.get? u = some (kxs_mw "ValueError.__init__" x)) (hz : rest.length ≤ sizeLine)
    (hq : ∀ h' t', (∀ b o, b ≠ x → h.get? b = some o → h'.get? b = some o) → h'.get? x = some (excO C t') → Q .none ⟨h', g, d, t, os⟩) : wpAny (model P w) A (call (.ref u) rest) Q E ⟨h, g, d, t, os⟩ := by
  refine wpAny_call (codeAny_of_tree ?_)
  show wpAny _ A.in1 (callAny (.ref u) ⟨rest, []⟩) _ _ _
  simp only [callAny]
  refine wpAny_bind (wpAny_load hu ?_)
  simp only [kxs_mw, show (Value.type "method-wrapper" == Value.type "method" || Value.type "method-wrapper" == Value.type "builtin_function_or_method" || Value.type "method-wrapper" == Value.type "method-wrapper") = true by decide, if_true]
  refine KFB.if_so (by decide) ?_
  refine wpAny_bind (check_bound_init F.excBase_ValueError.toExcCallFacts hC he rfl ?_)
  refine wpAny_bind (wpAny_pure (wpAny_pure ?_))
  refine ⟨plainId_quiet F.excBase_ValueError.init.plain _, codeAny_builtin F.excBase_ValueError.initEntry ?_⟩
  exact exc_init_tree (cls := .ref C) (t0 := t0) (dv := none) (c2 := .none) (c3 := .none) (b4 := .bool false) he hz fun h' k e _ => hq h' _ k e
theorem sx_init (T : SxTxt P K C fI qual fld) {x t0 : Addr} {v : Value} (X : K.In s.heap) (G : s.heap.Ns mainGlobals mg) (B : s.heap.Ns builtinsNs mb) (hB : ∀ y : Str, y ≠ "__name__" → mb y = bootBuiltins y) (hlim : s.heap.NoLimit)
    (hx : s.heap.get? x = some (excO C t0)) (hnx : K.lookup x = none) (hroom : A.depth < recursionLimit) (hun : A.units + 208 < cLine) (hstr : StrOk P w s.heap v)
    (hq : ∀ h' tk dx t1, InitEnd s.heap h' x C dx t1 fld v → R (.ok (.ret .none)) { s with heap := h', toks := tk }) :
    codeAny (model P w) A (.call (.ref fI) ⟨[.ref x, v], []⟩) R s := by
  obtain ⟨a1, a2, p0, p1, p2, p3, p4, p5, p6, p7, q1, q2, q3, q4, oc, od, kV, doc, pm, ct, an, osl, cc, cda, ccl, cl, cdd, cld, vs, ccs, csl, file, tf, hP, hf, hcd, hcode, hvs, hfile, hcell⟩ := T.fn
  obtain ⟨nm, q, N, bs, bm, sn, sub, ab, col, dd, k0, k1, k2, k3, k5, hC, hbm⟩ := T.oex.cls
  have hcl : clsIn K C = some { name := nm, bases := bs, mro := .ref C :: bm, ns := N, qualname := q, hasDict := true, slotNames := sn, subclasses := sub, abstract := ab, collection := col, hasDel := false } := by unfold clsIn; rw [hC] <;> rfl
  have mgs : mg "super" = none := mg_none_of X G T.nsup
  have mgt : mg "str" = none := mg_none_of X G T.nstr
  refine ks_codeAny_call_defAt (fd := ksFn "__init__" qual (sxA fld a1 a2) (sxB fld p0 p1 p2 p3 p4 p5 p6 p7 q1 q2 q3 q4) (sxS fld) .none kV doc pm an (.ref cda) ct cc) (body := sxB fld p0 p1 p2 p3 p4 p5 p6 p7 q1 q2 q3 q4) (binds := [(("self" : Str), Value.ref x), (fld, v)]) hroom (X _ _ hf) rfl hlim (codeRec_of X hcd) rfl
    (BindsTo.of_eq (T.nm.bd _ _ _ _ _ _ _ _ _ _ _ _ _ _)) ?hcell ?hloc (fun h₀ hns k => ?body)
  case hcell =>
    intro y hy
    have hy' : y ∈ [(PySem.Str.ofString "self", NameKind.local), (fld, .local), (PySem.Str.ofString "__class__", .free), (PySem.Str.ofString "super", .globalImplicit), (PySem.Str.ofString "str", .globalImplicit)] := hy
    simp only [List.mem_cons, List.not_mem_nil, or_false] at hy'
    rcases hy' with rfl | rfl | rfl | rfl | rfl <;> (intro z; cases z)
  case hloc =>
    intro y hy
    simp only [List.mem_cons, List.not_mem_nil, or_false] at hy
    rcases hy with rfl | rfl
    · exact T.nm.l0
    · exact T.nm.l1
  case body =>
    have X₁ : K.In h₀ := X.keeps k
    have hx₁ := k _ _ hx
    have hmS : ([(("self" : Str), Value.ref x), (fld, v)].reverse.lookup ("self" : Str)) = some (.ref x) := by
      show (match ("self" : Str) == fld with | true => some v | false => List.lookup ("self" : Str) [(("self" : Str), Value.ref x)]) = _
      rw [T.nm.ns]
      rfl
    have hmF : ([(("self" : Str), Value.ref x), (fld, v)].reverse.lookup fld) = some v := by
      show (match fld == fld with | true => some v | false => List.lookup fld [(("self" : Str), Value.ref x)]) = _
      rw [beq_self_eq_true]
    have hL : s.heap.objs.size ≠ x := Nat.ne_of_gt (Heap.lt_size hx)
    obtain ⟨pl, hEv⟩ := hP (callEnv (ksFn "__init__" qual (sxA fld a1 a2) (sxB fld p0 p1 p2 p3 p4 p5 p6 p7 q1 q2 q3 q4) (sxS fld) .none kV doc pm an (.ref cda) ct cc) s.heap.objs.size fI)
    refine ks_wpAt_execs_cons (ks_wpAt_Expr_any (ks_wpAt_MethodCall (pl := pl) ?_ hEv))
    have I₁ : InstAt h₀ x (excO C t0) C none := ⟨hx₁, rfl, rfl, trivial⟩
    obtain ⟨oD, hD1, hD2⟩ : ∃ oD, h₀.get? C = some oD ∧ oD.data = .cls { name := nm, bases := bs, mro := .ref C :: bm, ns := N, qualname := q, hasDict := true, slotNames := sn, subclasses := sub, abstract := ab, collection := col, hasDel := false } := ⟨_, X₁ _ _ hC, rfl⟩
    refine ks_wpAt_super_base (env := ksEnv qual (sxS fld) s.heap.objs.size fI (.ref cda) cc) T.nm.l3 T.nm.l2 rfl rfl (X₁ _ _ hf) rfl rfl rfl (X₁ _ _ hcode) rfl hvs hfile T.top ?_
    refine ks_loadName_global rfl T.nm.l3 (loadGlobal_builtin (env := ksEnv qual (sxS fld) s.heap.objs.size fI (.ref cda) cc) (G.keeps k) mgs (B.keeps k) ((hB _ (by decide +kernel)).trans (by first | boot_by_name | rfl | kernel_rfl)) ⟨rfl, ?_⟩)
    refine wpAny_loadName_free rfl T.nm.l2 rfl ⟨_, X₁ _ _ hcell, rfl⟩ ?_
    refine wpAny_loadName_local rfl T.nm.l0 hns hmS ?_
    refine ks_wpAny_isType_cls hD1 hD2 ⟨rfl, ?_⟩
    refine ks_wpAny_call_super hD1 hD2 hx₁ rfl (fun c e => by cases e) (looks_mroIn X₁ T.mro) (fun h₂ e2 k2 => ?_)
    have kk2 : ∀ b o, s.heap.get? b = some o → h₂.get? b = some o := fun b o z => k2 b o (k b o z)
    have X₂ : K.In h₂ := X.keeps kk2
    have I₂ : InstAt h₂ x (excO C t0) C none := ⟨kk2 _ _ hx, rfl, rfl, trivial⟩
    have hxC : x ≠ C := fun z => by
      rw [z, hC] at hnx
      cases hnx
    have hal : alongIn K "__init__" (((Value.ref C :: bm).dropWhile (· != .ref C)).drop 1) = some (some (.builtin "ValueError.__init__")) := by
      have q := T.sup
      unfold ks_superIn at q
      rw [hcl] at q
      exact q
    refine kxs_getMethod kxs_ValueError e2 (looks_opaque X₂ T.opq) (l₀ := .ref C :: bm) (fun A Q E s k q => wpAny_bind ((looks_clsIn X₂ hcl) A _ E s k (wpAny_pure q))) rfl X₂ hal (I₂.type.andThen (looks_subIn X₂ T.sVE)) hxC rfl ?_
    have k3 : ∀ b o, s.heap.get? b = some o → (h₂.push (kxs_mw "ValueError.__init__" x)).get? b = some o := fun b o z => Heap.get?_push_of_some _ (kk2 b o z)
    have hu : (h₂.push (kxs_mw "ValueError.__init__" x)).get? h₂.objs.size = some (kxs_mw "ValueError.__init__" x) := Heap.get?_push_at rfl rfl
    have ns3 : (h₂.push (kxs_mw "ValueError.__init__" x)).Ns s.heap.objs.size (fun y => [(("self" : Str), Value.ref x), (fld, v)].reverse.lookup y) := hns.keeps fun b o z => Heap.get?_push_of_some _ (k2 b o z)
    refine kxs_callWith (i := "ValueError.__init__") (x := x) (by rfl) ?_
    refine evalArgs_plain (x := eval (.Call (.Name "str" p3) [.Name fld p4] [] p5) (ksEnv qual (sxS fld) s.heap.objs.size fI (.ref cda) cc)) (rest := []) ?_
    refine Calls.spliced_cons (wpAny_Call_Name_kw ?_)
    refine Calls.Name_function_global (env := ksEnv qual (sxS fld) s.heap.objs.size fI (.ref cda) cc) rfl T.nm.l4 (loadGlobal_builtin (env := ksEnv qual (sxS fld) s.heap.objs.size fI (.ref cda) cc) (G.keeps k3) mgt (B.keeps k3) ((hB _ (by decide +kernel)).trans (by first | boot_by_name | rfl | kernel_rfl)) ?_) (by decide)
    refine PyProof.Rows.callWith_type1 (e := .Name fld p4) (rest := []) ?_ (by rfl) (by rfl)
    refine Calls.spliced_cons (x := eval (.Name fld p4) (ksEnv qual (sxS fld) s.heap.objs.size fI (.ref cda) cc)) (rest := []) (sx_ld (m := fun y => [(("self" : Str), Value.ref x), (fld, v)].reverse.lookup y) ns3 hmF rfl T.nm.l1 ?_ T.nm.nd)
    refine Calls.spliced_nil ?_
    refine hstr _ _ _ _ ?_ k3 (fun z tz kz => ?_)
    · show A.units + 3 + 200 < cLine
      omega
    refine Calls.spliced_nil ⟨hu, ?_⟩
    have hx3 := k3 _ _ hx
    refine sx_call (hbm := hbm) (k3 _ _ (X _ _ hC)) hx3 hu (by show 1 ≤ sizeLine; rw [sizeLine_eq]; omega) (fun h₄ t4 k4 hx4 => ?_)
    have k5 : ∀ b o, b ≠ x → s.heap.get? b = some o → h₄.get? b = some o := fun b o hb z => k4 b o hb (k3 b o z)
    have X₄ : K.In h₄ := fun b o e => k5 b o (fun z => by rw [z, hnx] at e; cases e) (X b o e)
    have ns4 : h₄.Ns s.heap.objs.size (fun y => [(("self" : Str), Value.ref x), (fld, v)].reverse.lookup y) := by
      obtain ⟨o', es, ep, e1, e2⟩ := ns3
      exact ⟨o', es, ep, k4 _ _ hL e1, e2⟩
    refine ks_wpAt_execs_cons (ks_wpAt_Assign_Attr (wpAt_of_wpAny ?_))
    refine sx_ld (m := fun y => [(("self" : Str), Value.ref x), (fld, v)].reverse.lookup y) ns4 hmF rfl T.nm.l1 ?_ T.nm.nd
    refine sx_ld (m := fun y => [(("self" : Str), Value.ref x), (fld, v)].reverse.lookup y) ns4 hmS rfl T.nm.l0 ?_ (by decide)
    refine set_plain X₄ (ox := excO C t4) (od := none) ⟨hx4, rfl, rfl, trivial⟩ T.oex.sa ?_
    refine exc_osa X₄ hx4 hcl (show refsVE (.ref C :: bm) = true from hbm) rfl T.noN (fun h₆ tk₆ dx k6 dn dne hx6 hn6 => ?_)
    refine wpAt_of_wpAny (wpAny_execs_nil (hq h₆ tk₆ dx t4 ⟨fun b o hb e => k6 b o hb (k5 b o hb e), hx6, ?_, dne, hn6⟩))
    · exact Nat.le_of_lt (Nat.lt_of_lt_of_le ns4.lt dn)
/-- a made exception -/
structure OwnMade (h h' : Heap) (e C d : Addr) (fld : Str) (v : Value) : Prop where
  keep : ∀ b o, h.get? b = some o → h'.get? b = some o
  new : h.objs.size ≤ e
  obj : ∃ oe vs, h'.get? e = some oe ∧ oe.cls = .ref C ∧ oe.dict = some d ∧ oe.data = .fields vs ∧ vs[1]? = some .none
  dbig : h.objs.size ≤ d
  dne : d ≠ e
  ns : h'.Ns1 d (fun y => if y = fld then some v else none)
theorem sx_made (T : SxTxt P K C fI qual fld) {v : Value} (X : K.In s.heap) (G : s.heap.Ns mainGlobals mg) (B : s.heap.Ns builtinsNs mb) (hB : ∀ y : Str, y ≠ "__name__" → mb y = bootBuiltins y) (hlim : s.heap.NoLimit)
    (hroom : A.depth + 1 < recursionLimit) (hun : A.units + 209 < cLine) (hstr : StrOk P w s.heap v)
    (hq : ∀ h' tk e d, OwnMade s.heap h' e C d fld v → R (.ok (.ret (.ref e))) { s with heap := h', toks := tk }) :
    codeAny (model P w) A (.call (.ref C) ⟨[v], []⟩) R s := by
  obtain ⟨nm, q, N, bs, bm, sn, sub, ab, col, dd, k0, k1, k2, k3, k5, hC, hbm⟩ := T.oex.cls
  obtain ⟨hp, g, dr, tk, os⟩ := s
  have k : ∀ b o, hp.get? b = some o → ((hp.push (kdv_tup [v])).push (excO C hp.objs.size)).get? b = some o := fun b o e => Heap.get?_push_of_some _ (Heap.get?_push_of_some _ e)
  have hget : ((hp.push (kdv_tup [v])).push (excO C hp.objs.size)).get? (hp.objs.size + 1) = some (excO C hp.objs.size) := by heap_get
  have hnx : K.lookup (hp.objs.size + 1) = none := by
    cases e : K.lookup (hp.objs.size + 1) with
    | none => rfl
    | some o =>
      have z : hp.get? (hp.objs.size + 1) = some o := X _ _ e
      exact absurd (Nat.lt_of_succ_lt (Heap.lt_size z)) (Nat.lt_irrefl _)
  refine call_own F.excBase_ValueError (fun X => refsVE_contains X bm hbm) (X _ _ hC) (looks_findIn X T.iC) (fun self => bind_fn X self T.tI) (by show 1 ≤ sizeLine; rw [sizeLine_eq]; omega) ?_
  refine sx_init (s := ⟨(hp.push (kdv_tup [v])).push (excO C hp.objs.size), g, dr, tk, os⟩) T (X.keeps k) (G.keeps k) (B.keeps k) hB (hlim.keeps k) hget hnx ?_ ?_ (fun A s Q E hu kk => hstr A s Q E hu fun b o e => kk b o (k b o e)) fun h' tk' dx t1 ⟨k', hx, dn, dne, hns⟩ => ?_
  · rw [L2.make_depth]
    exact hroom
  · rw [L2.make_units]
    omega
  · have old : ∀ b o, hp.get? b = some o → h'.get? b = some o := fun b o e => k' b o (Nat.ne_of_lt (Nat.lt_succ_of_lt (Heap.lt_size e))) (k b o e)
    have z : hp.objs.size + 1 + 1 ≤ dx := by
      first
        | (simpa only [Heap.size_push] using dn)
        | exact dn
        | (have q := dn; rw [Heap.size_push, Heap.size_push] at q; exact q)
    exact ⟨rfl, hq h' tk' (hp.objs.size + 1) dx ⟨old, Nat.le_succ _, ⟨_, _, hx, rfl, rfl, rfl, rfl⟩, Nat.le_trans (Nat.le_trans (Nat.le_succ _) (Nat.le_succ _)) z, dne, hns⟩⟩
end
end SXE
end PySem
namespace L2
open PySem PySem.Spec PyProof.Rows PySem.SXE
theorem relO_fld {v : V} {v' : Value} {fld : Str} (r : RelV v v') (f : Str) : RelO (List.lookup f [(fld, v)]) (if f = fld then some v' else none) := by
  by_cases hw : f = fld
  · subst hw
    rw [if_pos rfl]
    have q : List.lookup f [(f, v)] = some v := by simp [List.lookup]
    rw [q]
    exact r
  · rw [if_neg hw]
    have qw : (f == fld) = false := by simpa using hw
    have q2 : List.lookup f [(fld, v)] = none := by simp [List.lookup, qw]
    rw [q2]
    trivial
section
variable {X : Cx} {C fI : Addr} {qual fld cn : Str}
/-- C(e): SO tells that str(e) runs -/
def tMkSx (C : Addr) (fld : Str) (SO : V → Hp → Prop) (ta : TA) : St → Hp → XK → Prop := fun σ H Q => ta σ H fun vs H1 => ∃ v, vs = [v] ∧ SO v H1 ∧ ∀ d, H1 d = none → Q (.ref C) (some d) (upd H1 d (.xd [(fld, v)]))
/-- str of such values runs -/
def StrR (X : Cx) (SO : V → Hp → Prop) : Prop := ∀ (pins : List (Addr × Obj)) (s : Shared) (σ : St) (H : Hp) (v : V) (u : Value), Inv X pins σ H s → RelV v u → SO v H → StrOk X.prog X.w s.heap u
def soScal : V → Hp → Prop := fun v _ => match v with
  | .int i => i.natAbs.log2 < 1920
  | .str _ => True
  | _ => False
theorem strR_scal : StrR X soScal := fun pins s σ H v u I r h => by
  cases v with
  | int i =>
    obtain ⟨t, rfl⟩ := r
    exact strOk_int h
  | str z =>
    obtain ⟨t, rfl⟩ := r
    exact strOk_str
  | _ => exact h.elim
theorem pmk_sx {SO : V → Hp → Prop} {a : Expr} {ta : TA} {p pos : Pos} {k : Nat} (gC : X.mg cn = some (.ref C)) (T : SxTxt X.prog X.K C fI qual fld) (hr : Room k X.A) (hk : 1 ≤ k) (hso : StrR X SO) (ha : PA X [a] ta) (hg : Gl X cn := by rfl)
    (hdb : (cn == ("__debug__" : Str)) = false := by decide)
    (he : starEach (a :: []) X.env = (false, eval a X.env) :: starEach [] X.env := by rfl) (hpl : (backTo pos (starEach [] X.env)).any (·.1) = false := by rfl) :
    PMk X (.Call (.Name cn p) [a] [] pos) (tMkSx C fld SO ta) := by
  intro pins s σ H Q I h
  refine wpAny_Call_Name_kw (ld_glob I hg gC ?_ hdb)
  refine PySem.W.callWith_K (h₀ := X.base) I.ok.mod.kin T.oex.kC (thn (ha.run pos pins s σ H _ I h) fun us s1 hh => ?_) he hpl
  obtain ⟨vs, H1, I1, r1, v, ev, so, q1⟩ := hh
  subst ev
  refine ⟨I1.kIn, ?_⟩
  cases r1 with
  | cons rv rn =>
    rename_i v' us'
    cases rn
    show wpAny _ _ (call (.ref C) [v']) _ _ _
    have hlim := I1.nolimit
    obtain ⟨mb, h1, h2⟩ := I1.mod.blt
    have hso1 := hso _ _ _ _ _ _ I1 rv so
    have hG := I1.mod.glob.keeps I1.bk
    have hBk := h1.keeps I1.bk
    obtain ⟨hp, g, dr, tk, os⟩ := s1
    have r1' := hr.dp
    have r2' := hr.un
    refine wpAny_call (sx_made T I1.kIn hG hBk h2 hlim (by omega) (by omega) hso1 fun h' tk' e d M => ?_)
    show MkP X pins σ Q (.ref e) ⟨h', g, dr, tk', os⟩
    obtain ⟨oe, fv, hoe, hc, hd, hdat, h1⟩ := M.obj
    have hns := M.ns
    obtain ⟨G', g1, g2⟩ := restrict h' fun b => decide (b ≠ e)
    have gk : ∀ b, b ≠ e → G'.get? b = h'.get? b := fun b hb => g1 b (decide_eq_true hb)
    have ge : G'.get? e = none := g2 e (by simp)
    have old : ∀ b o, hp.get? b = some o → G'.get? b = some o := fun b o q => (gk b (Nat.ne_of_lt (Nat.lt_of_lt_of_le (Heap.lt_size q) M.new))).trans (M.keep b o q)
    have ob : ObjOk X.prog X.w (upd H1 d (.xd [(fld, v)])) G' d (.xd [(fld, v)]) :=
      ⟨_, hns.at (fun o q => (gk d M.dne).trans q), fun f => relO_fld rv f⟩
    have J : Inv X pins σ (upd H1 d (.xd [(fld, v)])) ⟨G', g, dr, tk', os⟩ := I1.laid (t' := tk') old M.dbig ob
    refine ⟨e, oe, fv, ⟨G', g, dr, tk', os⟩, _, .ref C, some d, rfl, J, fun b o q => ?_, ge, hoe, ⟨hc, hd⟩, hdat, h1, ?_, rfl, I1.bare, raises_own T.oex.exC T.oex.tyC, q1 d (I1.hok.fresh M.dbig)⟩
    · by_cases hb : b = e
      · have q' : G'.get? b = some o := q
        rw [hb, ge] at q'; cases q'
      · exact (gk b hb).symm.trans q
    · rw [upd_ne (Ne.symm M.dne)]
      exact I1.hok.fresh M.new
/-- raise C(e) -/
def tRaiseSx (C : Addr) (fld : Str) (SO : V → Hp → Prop) (W : WX) (ta : TA) : TS := fun _ σ H => tMkSx C fld SO ta σ H fun cls d H' => W cls d σ H'
theorem ps_raiseSx {SO : V → Hp → Prop} {a : Expr} {ta : TA} {W : WX} {p pos pos2 : Pos} {k : Nat} (hc : X.calm = true) (gC : X.mg cn = some (.ref C)) (T : SxTxt X.prog X.K C fI qual fld) (hr : Room k X.A) (hk : 1 ≤ k) (hso : StrR X SO) (tk : Takes X W) (ha : PA X [a] ta) (hg : Gl X cn := by rfl)
    (hdb : (cn == ("__debug__" : Str)) = false := by decide)
    (he : starEach (a :: []) X.env = (false, eval a X.env) :: starEach [] X.env := by rfl) (hpl : (backTo pos (starEach [] X.env)).any (·.1) = false := by rfl) :
    PS X (.Raise (some (.Call (.Name cn p) [a] [] pos)) none pos2) (tRaiseSx C fld SO W ta) := ps_raise hc tk (pmk_sx gC T hr hk hso ha hg hdb he hpl)
end
end L2


set_option Elab.async false
set_option linter.all false
set_option maxRecDepth 100000
set_option maxHeartbeats 4000000
/-! the head's facts: defs, own exceptions with super().__init__, one more Bool -/
namespace Hz
open PySem PySem.Spec PyProof.Rows L2 He PySem.SXE
structure XcD where
  cn : Str
  fld : Str
  qual : Str
  a1 : Pos
  a2 : Pos
  p0 : Pos
  p1 : Pos
  p2 : Pos
  p3 : Pos
  p4 : Pos
  p5 : Pos
  p6 : Pos
  p7 : Pos
  q1 : Pos
  q2 : Pos
  q3 : Pos
  q4 : Pos
abbrev FnZ : Type := Option (Str × Str × Arguments × FuncBody × Scope × Addr × List Str × Addr)
def XcD.body (d : XcD) : List Stmt := sxB d.fld d.p0 d.p1 d.p2 d.p3 d.p4 d.p5 d.p6 d.p7 d.q1 d.q2 d.q3 d.q4
def XcD.val (d : XcD) : FnZ := some (("__init__" : Str), d.qual, sxA d.fld d.a1 d.a2, FuncBody.stmts d.body, sxS d.fld, mainGlobals, [("__class__" : Str)], builtinsNs)
def XcD.C (K : PySem.W.Frag) (d : XcD) : Addr := ga K d.cn
def XcD.I (K : PySem.W.Frag) (d : XcD) : Addr := ma K (ga K d.cn) "__init__"
def xcObs (K : PySem.W.Frag) (d : XcD) : FnZ := match K.lookup (d.I K) with
  | some ⟨_, _, .func fd, _⟩ => some (fd.name, fd.qualname, fd.params, fd.body, fd.scope, fd.globals, fd.closure.map (·.1), fd.builtins)
  | _ => none
def excVE (K : PySem.W.Frag) (C : Addr) : Bool := match K.lookup C with
  | some ⟨.type "type", _, .cls cd, sl⟩ => (match cd.mro, sl.toList with
    | .ref C' :: bm, [_, _, _, _, some (.builtin n), _] => C' == C && (n == "ValueError.__new__" && (!cd.hasDel && (cd.hasDict && PySem.HandSPX.refsVE bm)))
    | _, _ => false)
  | _ => false
theorem excVE_ok {K : PySem.W.Frag} {C : Addr} (q : excVE K C = true) : ∃ nm q N bs bm sn sub ab col dd k0 k1 k2 k3 k5, K.lookup C = some (excClassObj nm q C N bs bm true sn sub ab col dd k0 k1 k2 k3 k5 "ValueError.__new__") ∧ PySem.HandSPX.refsVE bm = true := by
  unfold excVE at q
  split at q
  · rename_i dd cd sl ho
    split at q
    · rename_i C' bm k0 k1 k2 k3 n k5 hm hs
      simp only [Bool.and_eq_true, beq_iff_eq, Bool.not_eq_true'] at q
      obtain ⟨rfl, rfl, hdel, hd, ht⟩ := q
      obtain ⟨nm, bs, mro, ns, qn, hd', sn, sub, ab, col, del⟩ := cd
      dsimp only at hm hdel hd
      subst hm hdel hd
      have hsl : sl = #[k0, k1, k2, k3, some (.builtin "ValueError.__new__"), k5] := by
        obtain ⟨l⟩ := sl
        simp only at hs
        rw [hs]
      subst hsl
      exact ⟨nm, qn, ns, bs, bm, sn, sub, ab, col, dd, k0, k1, k2, k3, k5, ho, ht⟩
    · cases q
  · cases q
def celB (C : Addr) : Option Obj → Bool
  | some ⟨_, _, .cell (some (.ref D)), _⟩ => D == C
  | _ => false
theorem celB_ok {C : Addr} {o : Option Obj} (h : celB C o = true) : ∃ cl cld csl, o = some ⟨cl, cld, .cell (some (.ref C)), csl⟩ := by
  unfold celB at h
  split at h
  · rename_i D sl
    rw [beq_iff_eq.mp h]
    exact ⟨_, _, _, rfl⟩
  · cases h
def filB (file : Str) : Option Value → Bool
  | some (.str f _) => file == f
  | _ => false
theorem filB_ok {file : Str} {o : Option Value} (h : filB file o = true) : ∃ f t, o = some (.str f t) ∧ (file == f) = true := by
  unfold filB at h
  split at h
  · exact ⟨_, _, rfl, h⟩
  · cases h
def recB (file : Str) : Option Obj → Bool
  | some ⟨_, _, .fields vs, _⟩ => filB file (vs[2]? : Option Value)
  | _ => false
theorem recB_ok {file : Str} {o : Option Obj} (h : recB file o = true) : ∃ c d vs sl f t, o = some ⟨c, d, .fields vs, sl⟩ ∧ vs[2]? = some (Value.str f t) ∧ (file == f) = true := by
  unfold recB at h
  split at h
  · obtain ⟨f, t, h1, h2⟩ := filB_ok h
    exact ⟨_, _, _, _, f, t, rfl, h1, h2⟩
  · cases h
def clB (K : PySem.W.Frag) (C : Addr) : List (Str × Addr) → Bool
  | [(_, cc)] => celB C (K.lookup cc)
  | _ => false
def cdB (file : Str) (K : PySem.W.Frag) (qual : Str) : Value → Bool
  | .ref cda => PySem.W.codeIn K (.ref cda) qual && recB file (K.lookup cda)
  | _ => false
def dfB : Value → Bool
  | .none => true
  | _ => false
def fnB (file : Str) (K : PySem.W.Frag) (d : XcD) : Bool := match K.lookup (d.I K) with
  | some ⟨_, _, .func fd, _⟩ => dfB fd.defaults && (clB K (d.C K) fd.closure && cdB file K d.qual fd.code)
  | _ => false
def xcB (file : Str) (K : PySem.W.Frag) (d : XcD) : Bool :=
  eqO (PySem.W.nsIn K mainGlobals d.cn) (some (some (.ref (d.C K)))) && (excVE K (d.C K) && (eqO (PySem.W.findIn K (.ref (d.C K)) "__setattr__") (some (some (.builtin "object.__setattr__"))) &&
  (decide (PySem.W.subIn K (.ref (d.C K)) (.type "BaseException") = some true) && (decide (PySem.W.typeIn K (.ref (d.C K)) = some (.type "type")) && (PySem.W.keepIn K (.ref (d.C K)) &&
  (eqO (PySem.W.findIn K (.ref (d.C K)) "__init__") (some (some (.ref (d.I K)))) && (decide (PySem.W.typeIn K (.ref (d.I K)) = some (.type "function")) && (eqO (PySem.W.findIn K (.ref (d.C K)) d.fld) (some none) &&
  (eqO (PySem.W.nsIn K cStatics "thirdparty.any") (some none) && (eqO (PySem.W.ks_superIn K (d.C K) (d.C K) "__init__") (some (some (.builtin "ValueError.__init__"))) && (decide (PySem.W.subIn K (.ref (d.C K)) (.type "ValueError") = some true) &&
  (decide (PySem.W.mroIn K (d.C K) (.ref (d.C K)) = some true) && (eqO (PySem.W.nsIn K mainGlobals "super") (some none) && (eqO (PySem.W.nsIn K mainGlobals "str") (some none) && fnB file K d))))))))))))))
/-- the text of d is in form -/
structure XcOk (P : Program) (d : XcD) : Prop where
  nm : SxN d.fld
  at_ : SxP d.fld d.p0 d.p1 d.p2 d.p3 d.p4 d.p5 d.p6
  top : (P.main.scope.names.lookup ("super" : Str)).isSome = false
theorem xc_ok {P : Program} {K : PySem.W.Frag} {d : XcD} (ok : XcOk P d) (e : xcObs K d = d.val) (c : xcB P.main.file K d = true) : SxTxt P K (d.C K) (d.I K) d.qual d.fld := by
  obtain ⟨c0, c⟩ := ba c
  obtain ⟨c1, c⟩ := ba c
  obtain ⟨c2, c⟩ := ba c
  obtain ⟨c3, c⟩ := ba c
  obtain ⟨c4, c⟩ := ba c
  obtain ⟨c5, c⟩ := ba c
  obtain ⟨c6, c⟩ := ba c
  obtain ⟨c7, c⟩ := ba c
  obtain ⟨c8, c⟩ := ba c
  obtain ⟨c9, c⟩ := ba c
  obtain ⟨c10, c⟩ := ba c
  obtain ⟨c11, c⟩ := ba c
  obtain ⟨c12, c⟩ := ba c
  obtain ⟨c13, c⟩ := ba c
  obtain ⟨c14, c15⟩ := ba c
  refine { oex := ⟨excVE_ok c1, eqO_ok c2, of_decide_eq_true c3, of_decide_eq_true c4, c5⟩, iC := eqO_ok c6, tI := of_decide_eq_true c7, noN := eqO_ok c8, opq := eqO_ok c9, sup := eqO_ok c10, sVE := of_decide_eq_true c11, mro := of_decide_eq_true c12, nsup := eqO_ok c13, nstr := eqO_ok c14, top := ok.top, nm := ok.nm, fn := ?_ }
  unfold fnB at c15
  unfold xcObs at e
  cases q : K.lookup (d.I K) with
  | none =>
    rw [q] at c15
    cases c15
  | some o =>
    obtain ⟨oc, od, dt, osl⟩ := o
    rw [q] at c15 e
    cases dt with
    | func fd =>
      obtain ⟨n1, n2, n3, n4, n5, n6, n7, n8, n9, n10, n11, n12, n13, n14, n15⟩ := fd
      have e2 : (some (n1, n2, n3, n4, n5, n6, n7.map (·.1), n15) : FnZ) = some (("__init__" : Str), d.qual, sxA d.fld d.a1 d.a2, FuncBody.stmts d.body, sxS d.fld, mainGlobals, [("__class__" : Str)], builtinsNs) := e
      simp only [Option.some.injEq, Prod.mk.injEq] at e2
      obtain ⟨h1, h2, h3, h4, h5, h6, h7, h8⟩ := e2
      subst h1 h2 h3 h4 h5 h6 h8
      have c16 : (dfB n8 && (clB K (d.C K) n7 && cdB P.main.file K d.qual n13)) = true := c15
      obtain ⟨k1, k2⟩ := ba c16
      obtain ⟨k3, k4⟩ := ba k2
      obtain rfl : n8 = Value.none := by
        cases n8 <;> first | rfl | cases k1
      match n7, h7, k3 with
      | [(nmc, cc)], h7, k3 =>
        have en : nmc = ("__class__" : Str) := by
          have z : [nmc] = [("__class__" : Str)] := h7
          exact (List.cons.inj z).1
        subst en
        obtain ⟨cl, cld, csl, q2⟩ := celB_ok (show celB (d.C K) (K.lookup cc) = true from k3)
        cases n13 with
        | ref cda =>
          obtain ⟨k5, k6⟩ := ba k4
          obtain ⟨ccl, cdd, vs, ccs, f, t, q3, q4, q5⟩ := recB_ok k6
          exact ⟨_, _, _, _, _, _, _, _, _, _, _, _, _, _, _, _, _, _, _, _, _, _, cc, cda, _, _, _, _, vs, _, _, f, t, ok.at_, rfl, k5, q3, q4, q5, q2⟩
        | _ => cases k4
    | _ => cases c15
/-! ### the Hook -/
def asZ (g : Addr → Option Obj) : Nat → List Addr
  | 0 => [mainGlobals, cStatics]
  | n + 1 => growD g (asZ g n)
abbrev AlZ : Type := AlD × List FnZ × Bool
def obsZ (file : Str) (fa : List Fa) (fn : List DefD) (xs : List XcD) (ex : PySem.W.Frag → Bool) (K : PySem.W.Frag) : AlZ := (obsD fa fn K, xs.map (xcObs K), (xs.all (xcB file K)) && ex K)
def valZ (fn : List DefD) (xs : List XcD) : AlZ := (valD fn, xs.map XcD.val, true)
def SaysZ (file : Str) (fa : List Fa) (fn : List DefD) (xs : List XcD) (ex : PySem.W.Frag → Bool) (K : PySem.W.Frag) : Prop := obsZ file fa fn xs ex K = valZ fn xs
def obsZG (n : Nat) (file : Str) (fa : List Fa) (fn : List DefD) (xs : List XcD) (ex : PySem.W.Frag → Bool) (g : Addr → Option Obj) : AlZ := obsZ file fa fn xs ex (frG g (asZ g n))
def hookZ (n : Nat) (file : Str) (fa : List Fa) (fn : List DefD) (xs : List XcD) (ex : PySem.W.Frag → Bool) : PySem.W.Hook where
  α := AlZ
  obs := fun s => obsZG n file fa fn xs ex s.heap.get?
  val := fun _ => valZ fn xs
  says := fun _ h => ∃ K : PySem.W.Frag, K.In h ∧ SaysZ file fa fn xs ex K
  of := fun _ _ e => ⟨_, frG_in, e⟩
  keeps := fun _ _ _ ⟨K, hK, c⟩ k => ⟨K, PySem.W.Frag.In.keeps hK k, c⟩
theorem obsZG_eq {n : Nat} {file : Str} {fa : List Fa} {fn : List DefD} {xs : List XcD} {ex : PySem.W.Frag → Bool} {g : Addr → Option Obj} {s : Shared} (h : ∀ a, g a = s.heap.get? a) : obsZG n file fa fn xs ex g = (hookZ n file fa fn xs ex).obs s := by
  have e : g = s.heap.get? := funext h
  rw [e] <;> rfl
section
variable {file : Str} {fa : List Fa} {fn : List DefD} {xs : List XcD} {ex : PySem.W.Frag → Bool} {K : PySem.W.Frag}
theorem SaysZ.d (c : SaysZ file fa fn xs ex K) : SaysD fa fn K := congrArg (fun z : AlZ => z.1) c
theorem SaysZ.more (c : SaysZ file fa fn xs ex K) : ex K = true := (ba (show ((xs.all (xcB file K)) && ex K) = true from congrArg (fun z : AlZ => z.2.2) c)).2
theorem SaysZ.xc {P : Program} (c : SaysZ P.main.file fa fn xs ex K) {d : XcD} (h : d ∈ xs) (ok : XcOk P d) : SxTxt P K (d.C K) (d.I K) d.qual d.fld := by
  have c1 := (ba (show ((xs.all (xcB P.main.file K)) && ex K) = true from congrArg (fun z : AlZ => z.2.2) c)).1
  have e : xs.map (xcObs K) = xs.map XcD.val := congrArg (fun z : AlZ => z.2.1) c
  obtain ⟨i, hi, rfl⟩ := List.mem_iff_getElem.mp h
  have e2 : (xs.map (xcObs K))[i]? = (xs.map XcD.val)[i]? := by rw [e]
  rw [List.getElem?_map, List.getElem?_map, List.getElem?_eq_getElem hi] at e2
  exact xc_ok ok (Option.some.inj e2) (List.all_eq_true.mp c1 _ (List.getElem_mem hi))
theorem SaysZ.fact (c : SaysZ file fa fn xs ex K) {f : Fa} (h : f ∈ fa) : f.ok K = true := by
  obtain ⟨i, hi, e⟩ := List.mem_iff_getElem.mp h
  exact c.d.fact i (f := f) (by rw [List.getElem?_eq_getElem hi, e])
theorem SaysZ.fn_ (c : SaysZ file fa fn xs ex K) {d : DefD} (h : d ∈ fn) : ∃ fd, FunD K d.name d.qual d.params d.body d.scope (d.dvs K) (d.kws K) (fAd K d.at_) fd := by
  obtain ⟨i, hi, e⟩ := List.mem_iff_getElem.mp h
  exact c.d.def_ i (d := d) (by rw [List.getElem?_eq_getElem hi, e])
theorem SaysZ.xcg (c : SaysZ file fa fn xs ex K) {h : Heap} {mg : Str → Option Value} (X : K.In h) (G : h.Ns mainGlobals mg) {d : XcD} (m : d ∈ xs) : mg d.cn = some (.ref (d.C K)) := by
  have c1 := (ba (show ((xs.all (xcB file K)) && ex K) = true from congrArg (fun z : AlZ => z.2.2) c)).1
  exact PySem.W.mg_of X G (eqO_ok (ba (List.all_eq_true.mp c1 _ m)).1)
end
end Hz


set_option Elab.async false
set_option linter.all false
set_option maxRecDepth 100000
set_option maxHeartbeats 4000000
/-! isinstance of a caught exception that has a dict -/
namespace Iz
open PySem PySem.Spec PyProof.Rows L2
structure IsC (K : PySem.W.Frag) (C : Addr) : Prop where
  cl : (PySem.W.clsIn K C).isSome = true
  ga : PySem.W.findIn K (.ref C) "__getattribute__" = some (some (.builtin "BaseException.__getattribute__"))
  gg : PySem.W.findIn K (.ref C) "__getattr__" = some none
  sb : PySem.W.subIn K (.ref C) (.type "BaseException") = some true
  ca : PySem.W.findIn K (.ref C) "__class__" = some (some (.builtin "object.__class__"))
  sp : PySem.W.specialIn K (.builtin "object.__class__") "__get__" = some (some (.builtin "getset_descriptor.__get__"))
  tk : PySem.W.takesIn K (.builtin "object.__class__") = some true
  mr : PySem.W.mroIn K C (.type "object") = some true
def icB (K : PySem.W.Frag) (C : Addr) : Bool := (PySem.W.clsIn K C).isSome && (decide (PySem.W.findIn K (.ref C) "__getattribute__" = some (some (.builtin "BaseException.__getattribute__"))) && (decide (PySem.W.findIn K (.ref C) "__getattr__" = some none) && (decide (PySem.W.subIn K (.ref C) (.type "BaseException") = some true) &&
  (decide (PySem.W.findIn K (.ref C) "__class__" = some (some (.builtin "object.__class__"))) && (decide (PySem.W.specialIn K (.builtin "object.__class__") "__get__" = some (some (.builtin "getset_descriptor.__get__"))) && (decide (PySem.W.takesIn K (.builtin "object.__class__") = some true) && decide (PySem.W.mroIn K C (.type "object") = some true)))))))
theorem icB_ok {K : PySem.W.Frag} {C : Addr} (h : icB K C = true) : IsC K C := by
  unfold icB at h
  simp only [Bool.and_eq_true, decide_eq_true_eq] at h
  obtain ⟨h1, h2, h3, h4, h5, h6, h7, h8⟩ := h
  exact ⟨h1, h2, h3, h4, h5, h6, h7, h8⟩
def isB (K : PySem.W.Frag) (C : Addr) (cv : Value) (b : Bool) : Bool := decide (PySem.W.kitOne K (.ref C) cv = some b)
theorem isB_ok {K : PySem.W.Frag} {C : Addr} {cv : Value} {b : Bool} (h : isB K C cv b = true) : PySem.W.kitOne K (.ref C) cv = some b := of_decide_eq_true h
/-- isinstance(e, c), e the exception that the suite holds, with its dict -/
def rIsD (K : PySem.W.Frag) (a : Addr) (cls : Value) (d : Option Addr) : List V → Hp → VK → Prop := fun xs H Q => ∃ (C : Addr) (c : V) (cv : Value) (b : Bool) (dd : Addr) (fs : List (Str × V)), xs = [.ref a, c] ∧ cls = .ref C ∧ IsC K C ∧ (∀ u, RelV c u → u = cv) ∧ PySem.W.kitOne K (.ref C) cv = some b ∧ d = some dd ∧ H dd = some (.xd fs) ∧ Q (.bl b) H
theorem call_isD {X : Cx} {a : Addr} {oe : Obj} {cls : Value} {d : Option Addr} {pn : List (Addr × Obj)} (hz : Zc cls d oe) (hf : ∃ vs, oe.data = .fields vs) : CallR (X.suite a ((a, oe) :: pn)) (.builtin "isinstance") (rIsD X.K a cls d) := by
  intro pins s σ H xs us Q I r h
  obtain ⟨C, c, cv, b, dd, fs, rfl, rfl, T, hcv, e, rfl, ea, q⟩ := h
  cases r with
  | cons rx rr =>
    cases rr with
    | cons rt rr =>
      cases rr
      cases rx
      have ec := hcv _ rt
      subst ec
      obtain ⟨hget, _⟩ := I.pin (a, oe) (List.mem_append.mpr (.inl List.mem_cons_self))
      obtain ⟨vs, hd⟩ := hf
      have hx : ObjOk X.prog X.w H s.heap dd (.xd fs) := I.hok dd _ ea
      obtain ⟨mA, hns, hr⟩ := hx
      obtain ⟨od, ho, hl⟩ := lookIn_ns hns
      have J : PySem.W.InstAt s.heap a oe C (some od) := ⟨hget, hz.1, by unfold PySem.W.notCls; rw [hd] <;> rfl, by rw [hz.2]; exact ho⟩
      exact PySem.W.kia_one (PySem.W.kitx_exc T.cl T.ga T.gg T.sb T.ca T.sp T.tk T.mr) I.kIn J e (fun z => nomatch z) fun tk => ⟨.bl b, H, I.kept (t' := tk) fun _ _ z => z, rfl, q⟩
end Iz


set_option Elab.async false
set_option linter.all false
set_option maxRecDepth 100000
set_option maxHeartbeats 4000000
/-! common lemmas: what stays of a heap, data, small rules -/
namespace Cm
open PySem PySem.Spec PyProof.Rows L2
theorem pe_gint {X : Cx} {x : Str} {i : Int} {pos : Pos} (h : ∃ t, X.mg x = some (.int i t)) (hg : Gl X x := by rfl) (hd : (x == ("__debug__" : Str)) = false := by decide) : PE X (.Name x pos) (tC (.int i)) := by
  obtain ⟨t, e⟩ := h
  exact pe_glob hg e ⟨_, rfl⟩ hd
theorem pe_gref {X : Cx} {x : Str} {a : Addr} {pos : Pos} (h : X.mg x = some (.ref a)) (hg : Gl X x := by rfl) (hd : (x == ("__debug__" : Str)) = false := by decide) : PE X (.Name x pos) (tC (.ref a)) := pe_glob hg h rfl hd
theorem pe_bty {X : Cx} {x : Str} {n : String} {pos : Pos} (hm : X.mg x = none) (hv : bootBuiltins x = some (.type n)) (hg : Gl X x := by rfl) (hn : x ≠ "__name__" := by decide) (hd : (x == ("__debug__" : Str)) = false := by decide) : PE X (.Name x pos) (tC (.ty n)) := pe_bltn hg hm hv rfl hn hd
/-- all but what stands at M stays, and every tuple -/
structure Kp (M : List Addr) (H H' : Hp) : Prop where
  keep : ∀ b o, b ∉ M → H b = some o → H' b = some o
  tup : ∀ b xs, Rd H b (.tup xs) → Rd H' b (.tup xs)
section
variable {M : List Addr} {H H1 H2 H' : Hp} {a p : Addr} {o : HO} {K : PySem.W.Frag}
theorem Kp.refl : Kp M H H := ⟨fun _ _ _ h => h, fun _ _ h => h⟩
theorem Kp.trans (x : Kp M H H1) (y : Kp M H1 H2) : Kp M H H2 := ⟨fun b o n h => y.keep b o n (x.keep b o n h), fun b xs h => y.tup b xs (x.tup b xs h)⟩
theorem Kp.mono {N : List Addr} (x : Kp M H H') (s : ∀ b ∈ M, b ∈ N) : Kp N H H' := ⟨fun b o n h => x.keep b o (fun m => n (s b m)) h, x.tup⟩
theorem Kp.nil (x : Kp [] H H') : Kp M H H' := x.mono fun b m => absurd m List.not_mem_nil
theorem Kp.new (h : H p = none) : Kp M H (upd H p o) := by
  have k : ∀ b u, H b = some u → upd H p o b = some u := fun b u e => by rw [upd_ne (ne_of_none e h)]; exact e
  exact ⟨fun b u _ e => k b u e, fun b xs r => by
    rcases r with r | ⟨q, r⟩
    · exact .inl (k _ _ r)
    · exact .inr ⟨q, k _ _ r⟩⟩
/-- an object that is one's own is written -/
theorem Kp.mine (k1 : Kp M H H') (hD : H p = none) : Kp M H (upd H' p o) := ⟨fun b u nb e => by rw [upd_ne (ne_of_none e hD)]; exact k1.keep b u nb e, fun b xs r => by
  have z := k1.tup b xs r
  have nd : b ≠ p := fun q => by
    subst q
    rcases r with r | ⟨q, r⟩ <;> (rw [hD] at r; cases r)
  rcases z with z | ⟨q, z⟩
  · exact .inl (by rw [upd_ne nd]; exact z)
  · exact .inr ⟨q, by rw [upd_ne nd]; exact z⟩⟩
/-- what is no tuple is changed -/
def NT (o : HO) : Prop := (∀ xs, o ≠ .tup xs) ∧ ∀ q u, o ≠ .frz q u
theorem Kp.put {u : HO} (h : H a = some u) (n : NT u) (m : a ∈ M) : Kp M H (upd H a o) := by
  have ne : ∀ b xs, Rd H b (.tup xs) → b ≠ a := fun b xs r z => by
    subst z
    rcases r with r | ⟨q, r⟩
    · rw [h] at r
      exact n.1 xs (Option.some.inj r)
    · rw [h] at r
      exact n.2 _ _ (Option.some.inj r)
  exact ⟨fun b v nb e => (upd_ne (fun z => nb (by rw [z]; exact m))).trans e, fun b xs r => by
    have z := ne b xs r
    rcases r with r | ⟨q, r⟩
    · exact .inl (by rw [upd_ne z]; exact r)
    · exact .inr ⟨q, by rw [upd_ne z]; exact r⟩⟩
theorem nt_lst {xs : List V} : NT (.lst xs) := ⟨fun _ z => (by cases z), fun _ _ z => (by cases z)⟩
theorem nt_ins {C dx : Addr} {fs : List (Str × V)} : NT (.ins C dx fs) := ⟨fun _ z => (by cases z), fun _ _ z => (by cases z)⟩
theorem nt_dK {kvs : List (Key × V)} : NT (.dK kvs) := ⟨fun _ z => (by cases z), fun _ _ z => (by cases z)⟩
theorem Kp.sqt {xs : List V} (x : Kp M H H') (h : SqT K H a xs) : SqT K H' a xs := by
  rcases h with h | h
  · exact .inl (x.tup _ _ h)
  · exact .inr h
theorem Kp.sql {xs : List V} (x : Kp M H H') (n : a ∉ M) (h : SqL K H a xs) : SqL K H' a xs := by
  rcases h with (h | ⟨o, h⟩) | h
  · exact .inl (.inl (x.keep _ _ n h))
  · exact .inl (.inr ⟨o, x.keep _ _ n h⟩)
  · exact .inr h
theorem Kp.fresh {l : Addr} (x : Kp M H H') (n : l ∉ M) (h : H' l = none) : H l = none := by
  cases q : H l with
  | none => rfl
  | some o =>
    rw [x.keep l o n q] at h
    cases h
/-! ### data without lists and dicts -/
mutual
def noL : PyData → Bool
  | .list _ => false
  | .dict _ => false
  | .tuple ds => noLs ds
  | _ => true
def noLs : List PyData → Bool
  | [] => true
  | d :: ds => noL d && noLs ds
end
mutual
theorem Dp.kp (x : Kp M H H') : ∀ (d : PyData) (v : V), noL d = true → Dp K H v d → Dp K H' v d
  | .none, _, _, h => by cases h; exact .non
  | .bool _, _, _, h => by cases h; exact .bl _
  | .int _, _, _, h => by cases h; exact .int _
  | .str _, _, _, h => by cases h; exact .str _
  | .list _, _, n, _ => by cases n
  | .dict _, _, n, _ => by cases n
  | .tuple ds, _, n, h => by
    cases h with
    | tup hs ha => exact .tup (x.sqt hs) (Dp.kps x ds _ n ha)
theorem Dp.kps (x : Kp M H H') : ∀ (ds : List PyData) (vs : List V), noLs ds = true → DpAll K H vs ds → DpAll K H' vs ds
  | [], _, _, h => by cases h; exact .nil
  | d :: ds, _, n, h => by
    obtain ⟨n1, n2⟩ := Bool.and_eq_true_iff.mp (show (noL d && noLs ds) = true from n)
    cases h with
    | cons h1 h2 => exact .cons (Dp.kp x d _ n1 h1) (Dp.kps x ds _ n2 h2)
end
theorem DpAll.length {vs : List V} {ds : List PyData} (h : DpAll K H vs ds) : vs.length = ds.length := by
  induction ds generalizing vs with
  | nil => cases h; rfl
  | cons d ds ih =>
    cases h with
    | cons h1 h2 => simp [ih h2]
theorem DpAll.get {vs : List V} {ds : List PyData} (h : DpAll K H vs ds) {i : Nat} {d : PyData} (e : ds[i]? = some d) : ∃ v, vs[i]? = some v ∧ Dp K H v d := by
  induction ds generalizing vs i with
  | nil => simp at e
  | cons d' ds ih =>
    cases h with
    | cons h1 h2 =>
      cases i with
      | zero =>
        simp at e
        subst e
        exact ⟨_, rfl, h1⟩
      | succ i =>
        simp at e
        exact ih h2 e
theorem DpAll.snoc {vs : List V} {ds : List PyData} {v : V} {d : PyData} (h : DpAll K H vs ds) (x : Dp K H v d) : DpAll K H (vs ++ [v]) (ds ++ [d]) := by
  induction ds generalizing vs with
  | nil => cases h; exact .cons x .nil
  | cons d' ds ih =>
    cases h with
    | cons h1 h2 => exact .cons h1 (ih h2)
theorem DpAll.app {vs ws : List V} {ds es : List PyData} (h : DpAll K H vs ds) (x : DpAll K H ws es) : DpAll K H (vs ++ ws) (ds ++ es) := by
  induction ds generalizing vs with
  | nil => cases h; exact x
  | cons d' ds ih =>
    cases h with
    | cons h1 h2 => exact .cons h1 (ih h2)
theorem DpAll.take {vs : List V} {ds : List PyData} (h : DpAll K H vs ds) (n : Nat) : DpAll K H (vs.take n) (ds.take n) := by
  induction ds generalizing vs n with
  | nil => cases h; simpa using DpAll.nil
  | cons d' ds ih =>
    cases h with
    | cons h1 h2 =>
      cases n with
      | zero => exact .nil
      | succ n => exact .cons h1 (ih h2 n)
theorem DpAll.drop {vs : List V} {ds : List PyData} (h : DpAll K H vs ds) (n : Nat) : DpAll K H (vs.drop n) (ds.drop n) := by
  induction ds generalizing vs n with
  | nil => cases h; simpa using DpAll.nil
  | cons d' ds ih =>
    cases h with
    | cons h1 h2 =>
      cases n with
      | zero => exact .cons h1 h2
      | succ n => exact ih h2 n
/-- a new tuple of data -/
theorem Dp.new {vs : List V} {ds : List PyData} (h : DpAll K H vs ds) (n : noLs ds = true) (hp : H p = none) : Dp K (upd H p (.tup vs)) (.ref p) (.tuple ds) :=
  .tup (SqT.of upd_same) (Dp.kps (M := []) (Kp.new hp) ds vs n h)
theorem Dp.strOf {v : V} {z : Str} (h : Dp K H v (.str z)) : v = .str z := by cases h; rfl
theorem Dp.intOf {v : V} {z : Int} (h : Dp K H v (.int z)) : v = .int z := by cases h; rfl
theorem Dp.nonOf {v : V} (h : Dp K H v .none) : v = .non := by cases h; rfl
theorem Dp.tupOf {v : V} {ds : List PyData} (h : Dp K H v (.tuple ds)) : ∃ q vs, v = .ref q ∧ SqT K H q vs ∧ DpAll K H vs ds := by
  cases h with
  | tup hs ha => exact ⟨_, _, rfl, hs, ha⟩
end
theorem hu65_of {A : Around} {k : Nat} (hr : Room k A) : A.units + 65 < cLine := by have := hr.un; omega
/-! ### tests whose answer is known -/
theorem iteT' {c : Bool} {A B : Prop} (hc : c = true) (h : A) : if c = true then A else B := by rw [if_pos hc]; exact h
theorem iteF' {c : Bool} {A B : Prop} (hc : c = false) (h : B) : if c = true then A else B := by rw [hc, if_neg Bool.false_ne_true]; exact h
theorem iteB {c : Bool} {A B : Prop} (h1 : c = true → A) (h2 : c = false → B) : if c = true then A else B := by
  cases c with
  | true => exact iteT (h1 rfl)
  | false => exact iteF (h2 rfl)
/-- a comprehension over the signs of a text -/
theorem lc_str {x : Str} {g : TG} {tt : TT} {te : TE} {vs : List Nat} {σ : L2.St} {H1 : Hp} {D : Addr} {Qd : Hp → Prop} (Pv : Nat → Hp → Prop) (h0 : Pv 0 (upd H1 D (.lst [])))
    (hs : ∀ i c H, x.cps.toList[i]? = some c → Pv i H → g (.str ⟨#[c]⟩) (wipe σ vs) H fun σ2 H2 => wipe σ2 vs = wipe σ vs ∧ tt σ2 H2 fun b H3 =>
      if b = true then te σ2 H3 fun y H4 => ∃ acc, H4 D = some (.lst acc) ∧ acc.length < sizeLine ∧ Pv (i + 1) (upd H4 D (.lst (acc ++ [y]))) else Pv (i + 1) H3) (hd : ∀ H, Pv x.length H → Qd H) :
    ∃ W : Nat → Nat → Hp → Prop, (∃ m, W 0 m (upd H1 D (.lst []))) ∧ ∀ i m H, W i m H →
      ((Its x).stop i H ∧ Qd H) ∨ ((Its x).go i H ∧ ∃ Nx : Hp → Prop, (∀ H', Nx H' → ∃ m', m' < m ∧ W (i + 1) m' H') ∧ ∀ y H', (Its x).yld i H y H' → g y (wipe σ vs) H' fun σ2 H2 => wipe σ2 vs = wipe σ vs ∧ tt σ2 H2 fun b H3 =>
        if b = true then te σ2 H3 fun y H4 => ∃ acc, H4 D = some (.lst acc) ∧ acc.length < sizeLine ∧ Nx (upd H4 D (.lst (acc ++ [y]))) else Nx H3) := by
  refine ⟨fun i m H => m = x.length - i ∧ i ≤ x.length ∧ Pv i H, ⟨x.length, by simp, Nat.zero_le _, h0⟩, ?_⟩
  rintro i m H ⟨rfl, hi, p⟩
  by_cases hlt : i < x.length
  · refine .inr ⟨hlt, Pv (i + 1), fun H' p' => ⟨x.length - (i + 1), by omega, rfl, hlt, p'⟩, fun y H' q => ?_⟩
    obtain ⟨e, c, hc, ey⟩ := q
    subst e ey
    exact hs i c _ (by rw [Array.getElem?_toList]; exact hc) p
  · have e : i = x.length := by omega
    subst e
    exact .inl ⟨Nat.le_refl _, hd H p⟩
theorem fld_use {K : PySem.W.Frag} {H : Hp} {r C dx : Addr} {fs : List (Str × V)} {f : Str} {v : V} {Q : V → Hp → Prop} (h : H r = some (.ins C dx fs)) (c : Cls K C) (n : NoAttr K C f) (l : fs.lookup f = some v) (q : Q v H) :
    ∃ a C dx fs v, V.ref r = .ref a ∧ H a = some (.ins C dx fs) ∧ Cls K C ∧ NoAttr K C f ∧ fs.lookup f = some v ∧ Q v H := ⟨_, _, _, _, _, rfl, h, c, n, l, q⟩
theorem szl {n : Nat} (h : n ≤ 100000) : n ≤ sizeLine := by rw [sizeLine_eq]; omega
theorem szt {n : Nat} (h : n < 100000) : n < sizeLine := by rw [sizeLine_eq]; omega
theorem atI_at {α : Type} {l : List α} {n : Nat} (h : n < l.length) : atI l (n : Int) = some l[n] := atI_nat (List.getElem?_eq_getElem h)
end Cm


set_option Elab.async false
set_option linter.all false
set_option maxRecDepth 100000
set_option maxHeartbeats 4000000
/-! the lexer in plain Lean -/
namespace Lx
open PySem
def isLet (c : Nat) : Bool := decide (97 ≤ c) && decide (c ≤ 122)
def isDig (c : Nat) : Bool := decide (48 ≤ c) && decide (c ≤ 57)
def inW (c : Nat) : Bool := isLet c || (isDig c || decide (c = 95))
/-- a token: kind, value (a text or a number), place -/
structure Tk where
  kind : Str
  val : PyData
  at_ : Nat
def Tk.enc (t : Tk) : PyData := .tuple [.str t.kind, t.val, .int t.at_]
def wordOf (r : List Nat) : Str := ⟨(r.takeWhile inW).toArray⟩
def reserved : List Str := ["else", "fn", "global", "if", "new", "nil", "out", "return", "while"]
def sgns : List Str := ["==", "=", "+", "-", ".", ",", ";", "(", ")", "{", "}"]
def wLen (r : List Nat) : Nat := (r.takeWhile inW).length
def tkWord (r : List Nat) (n : Nat) : Option Tk :=
  if wordOf r ∈ reserved then some ⟨"reserved", .str (wordOf r), n⟩ else if 10 < wLen r then none else some ⟨"name", .str (wordOf r), n⟩
def decs (l : List Nat) : Nat := l.foldl (fun a c => a * 10 + (c - 48)) 0
def tkNum (r : List Nat) (n : Nat) : Option Tk :=
  if 5 < wLen r ∨ (r.takeWhile inW).all isDig = false then none
  else if 65535 < decs (r.takeWhile inW) ∨ (r.head? = some 48 ∧ 1 < wLen r) then none else some ⟨"number", .int (decs (r.takeWhile inW) : Nat), n⟩
def sgn (r : List Nat) : Option Str := sgns.find? fun s => r.take s.length == s.cps.toList
def tkSign (r : List Nat) (n : Nat) : Option Tk := (sgn r).map fun s => ⟨"sign", .str s, n⟩
/-- the token at the head of r, and how many sgns it takes -/
def tok1 (r : List Nat) (n : Nat) : Option (Tk × Nat) := match r with
  | [] => none
  | c :: _ => if isLet c then (tkWord r n).map fun t => (t, wLen r) else if isDig c then (tkNum r n).map fun t => (t, wLen r) else
    (sgn r).map fun s => (⟨"sign", .str s, n⟩, s.length)
/-- all tokens, or the place of the first that is none -/
def lexF : Nat → List Nat → Nat → Except Nat (List Tk)
  | 0, _, _ => .ok []
  | _ + 1, [], _ => .ok []
  | m + 1, c :: r, n => if c = 32 ∨ c = 10 then lexF m r (n + 1) else match tok1 (c :: r) n with
    | none => .error n
    | some (t, k) => match lexF m ((c :: r).drop k) (n + k) with
      | .error e => .error e
      | .ok ts => .ok (t :: ts)
inductive Er where
  | mal (n : Nat) | big (s : Str) | unk (s : Str) | cla (s : Str) | mis (s : Str)
def lex (l : List Nat) : Except Er (List Tk) := if 6000 < l.length then .error (.big "text") else match lexF l.length l 0 with
  | .error n => .error (.mal n)
  | .ok ts => .ok ts
theorem wLen_le (r : List Nat) : wLen r ≤ r.length := by
  unfold wLen
  exact (List.takeWhile_prefix _).length_le
theorem wordOf_len (r : List Nat) : (wordOf r).length = wLen r := by
  unfold wordOf wLen
  show (List.toArray _).size = _
  simp
theorem takeWhile_take {p : Nat → Bool} : ∀ (r : List Nat), r.take (r.takeWhile p).length = r.takeWhile p
  | [] => rfl
  | c :: r => by
    by_cases h : p c = true
    · simp [List.takeWhile_cons, h, takeWhile_take r]
    · simp [List.takeWhile_cons, h]
theorem decs_append (l : List Nat) (c : Nat) : decs (l ++ [c]) = decs l * 10 + (c - 48) := by
  unfold decs
  rw [List.foldl_append]
  rfl
/-! ### how errors and tokens lie in the heap -/
open L2 Cm He
def Er.cls : Er → Str
  | .mal _ => "Malformed"
  | .big _ => "Oversized"
  | .unk _ => "Unknown"
  | .cla _ => "Clashing"
  | .mis _ => "Misused"
def Er.fld : Er → List (Str × V)
  | .mal n => [("at", .int (n : Nat))]
  | .big s => [("limit", .str s)]
  | .unk s => [("name", .str s)]
  | .cla s => [("name", .str s)]
  | .mis s => [("why", .str s)]
/-- the error e goes out: all but M stays -/
def XEr (K : PySem.W.Frag) (M : List Addr) (H : Hp) (E : XK) (e : Er) : Prop := ∀ d H', Kp M H H' → H' d = some (.xd e.fld) → E (.ref (ga K e.cls)) (some d) H'
theorem XEr.back {K : PySem.W.Frag} {M : List Addr} {H H1 : Hp} {E : XK} {e : Er} (x : XEr K M H E e) (k : Kp M H H1) : XEr K M H1 E e := fun d H' k2 hd => x d H' (k.trans k2) hd
theorem XEr.new {K : PySem.W.Frag} {M : List Addr} {H : Hp} {E : XK} {e : Er} (x : XEr K M H E e) {d : Addr} (hd : H d = none) : E (.ref (ga K e.cls)) (some d) (upd H d (.xd e.fld)) := x d _ (Kp.new hd) upd_same
def DOut (K : PySem.W.Frag) (M : List Addr) (H : Hp) (Q : VK) (d : PyData) : Prop := ∀ v H', Kp M H H' → Dp K H' v d → Q v H'
def TkOut (K : PySem.W.Frag) (H : Hp) (Q : VK) (E : XK) (n : Nat) : Option Tk → Prop
  | some t => DOut K [] H Q t.enc
  | none => XEr K [] H E (.mal n)
theorem soInt {n : Nat} {H : Hp} (h : n ≤ 200000) : soScal (.int (n : Int)) H := by
  show ((n : Int).natAbs).log2 < 1920
  have e : (n : Int).natAbs = n := rfl
  rw [e]
  by_cases h0 : n = 0
  · subst h0
    decide
  · exact (Nat.log2_lt h0).mpr (Nat.lt_of_le_of_lt h (Nat.lt_of_lt_of_le (by decide : 200000 < 2 ^ 18) (Nat.pow_le_pow_right (by decide) (by decide))))
theorem inV_strs (z : Str) (l : List Str) : inV (.str z) (l.map V.str) = decide (z ∈ l) := by
  unfold inV
  rw [List.any_map]
  induction l with
  | nil => simp
  | cons a l ih =>
    rw [List.any_cons, ih]
    have e : ((fun y => eqV y (V.str z)) ∘ V.str) a = (a == z) := rfl
    rw [e]
    by_cases h : a = z
    · subst h
      simp
    · have h2 : ¬ z = a := fun q => h q.symm
      have e3 : (a == z) = false := beq_eq_false_iff_ne.mpr h
      rw [e3, Bool.false_or]
      exact decide_eq_decide.mpr ⟨fun m => List.mem_cons_of_mem _ m, fun m => (List.mem_cons.mp m).resolve_left h2⟩
theorem flat_strs (l : List Str) : (l.map V.str).all flatV = true := by
  rw [List.all_map]
  exact List.all_eq_true.mpr fun _ _ => rfl
end Lx


set_option Elab.async false
set_option linter.all false
set_option maxRecDepth 100000
set_option maxHeartbeats 4000000
/-! the parser in plain Lean -/
namespace Px
open PySem Lx
inductive Vl where
  | nm (x : Str) | num (n : Int) | nil
  deriving DecidableEq
inductive Ts where
  | tru (x : Str) | same (x : Str) (v : Vl)
  deriving DecidableEq
inductive Sm where
  | new (x : Str) (k : Nat) | set (x : Str) (v : Vl) (k : Nat) | load (x y f : Str) (k : Nat) | add (x y : Str) (n : Int) (k : Nat) | call (x g : Str) (vs : List Vl) (k : Nat)
  | store (x f : Str) (v : Vl) (k : Nat) | out (x : Str) (k : Nat) | ret (v : Vl) (k : Nat) | ite (t : Ts) (a b : List Sm) (k : Nat) | whl (t : Ts) (a : List Sm) (k : Nat)
structure Fd where
  name : Str
  ps : List Str
  body : List Sm
def Vl.enc : Vl → PyData
  | .nm x => .tuple [.str "name", .str x]
  | .num n => .tuple [.str "number", .int n]
  | .nil => .tuple [.str "nil"]
def Ts.enc : Ts → PyData
  | .tru x => .tuple [.str "true", .str x]
  | .same x v => .tuple [.str "same", .str x, v.enc]
mutual
def Sm.enc : Sm → PyData
  | .new x k => .tuple [.str "new", .str x, .int k]
  | .set x v k => .tuple [.str "set", .str x, v.enc, .int k]
  | .load x y f k => .tuple [.str "load", .str x, .str y, .str f, .int k]
  | .add x y n k => .tuple [.str "add", .str x, .str y, .int n, .int k]
  | .call x g vs k => .tuple [.str "call", .str x, .str g, .tuple (vs.map Vl.enc), .int k]
  | .store x f v k => .tuple [.str "store", .str x, .str f, v.enc, .int k]
  | .out x k => .tuple [.str "out", .str x, .int k]
  | .ret v k => .tuple [.str "return", v.enc, .int k]
  | .ite t a b k => .tuple [.str "if", t.enc, .tuple (encs a), .tuple (encs b), .int k]
  | .whl t a k => .tuple [.str "while", t.enc, .tuple (encs a), .int k]
def encs : List Sm → List PyData
  | [] => []
  | s :: r => s.enc :: encs r
end
def Fd.enc (f : Fd) : PyData := .tuple [.str f.name, .tuple (f.ps.map .str), .tuple (encs f.body)]
theorem encs_map : ∀ l : List Sm, encs l = l.map Sm.enc
  | [] => rfl
  | s :: r => by rw [encs, encs_map r]; rfl
/-! ### the reader -/
abbrev Pr (α : Type) := Option (Except Er α)
def peekK : List Tk → Str
  | t :: _ => t.kind
  | [] => ""
def peekV : List Tk → PyData
  | t :: _ => t.val
  | [] => .str ""
def plc (e : Nat) : List Tk → Nat
  | t :: _ => t.at_
  | [] => e
def isTk (k v : Str) : List Tk → Bool
  | t :: _ => decide (t.kind = k) && (match t.val with | .str x => decide (x = v) | _ => false)
  | [] => false
def acc (k v : Str) (rem : List Tk) : Option (List Tk) := if isTk k v rem then some rem.tail else none
def rdTok (e : Nat) (k : Str) (rem : List Tk) : Except Er (PyData × List Tk) := if peekK rem = k then .ok (peekV rem, rem.tail) else .error (.mal (plc e rem))
def strOf : PyData → Str
  | .str x => x
  | _ => ""
def intOf : PyData → Int
  | .int x => x
  | _ => 0
def rdName (e : Nat) (rem : List Tk) : Except Er (Str × List Tk) := match rdTok e "name" rem with
  | .error x => .error x
  | .ok (d, r) => .ok (strOf d, r)
def rdNum (e : Nat) (rem : List Tk) : Except Er (Int × List Tk) := match rdTok e "number" rem with
  | .error x => .error x
  | .ok (d, r) => .ok (intOf d, r)
def expct (e : Nat) (s : Str) (rem : List Tk) : Except Er (List Tk) := match acc "sign" s rem with
  | some r => .ok r
  | none => .error (.mal (plc e rem))
def rdVal (e : Nat) (rem : List Tk) : Except Er (Vl × List Tk) := match acc "reserved" "nil" rem with
  | some r => .ok (.nil, r)
  | none => if peekK rem = "number" then (match rdNum e rem with
      | .error x => .error x
      | .ok (n, r) => .ok (.num n, r))
    else match rdName e rem with
      | .error x => .error x
      | .ok (n, r) => .ok (.nm n, r)
def rdFld (e : Nat) (rem : List Tk) : Except Er (Str × List Tk) := match rdName e rem with
  | .error x => .error x
  | .ok (f, r) => if f = "a" ∨ f = "b" then .ok (f, r) else .error (.mal (plc e rem))
def rdMore (e : Nat) : Nat → List Tk → Pr (List Vl × List Tk)
  | 0, _ => none
  | f + 1, rem => match acc "sign" "," rem with
    | none => some (.ok ([], rem))
    | some r => match rdVal e r with
      | .error x => some (.error x)
      | .ok (v, r2) => match rdMore e f r2 with
        | none => none
        | some (.error x) => some (.error x)
        | some (.ok (vs, r3)) => some (.ok (v :: vs, r3))
def rdVals (e f : Nat) (rem : List Tk) : Pr (List Vl × List Tk) := match acc "sign" ")" rem with
  | some r => some (.ok ([], r))
  | none => match rdVal e rem with
    | .error x => some (.error x)
    | .ok (v, r) => match rdMore e f r with
      | none => none
      | some (.error x) => some (.error x)
      | some (.ok (vs, r2)) => match expct e ")" r2 with
        | .error x => some (.error x)
        | .ok r3 => some (.ok (v :: vs, r3))
def rdRight (e f : Nat) (x : Str) (k : Nat) (rem : List Tk) : Pr (Sm × List Tk) := match acc "reserved" "new" rem with
  | some r => some (.ok (.new x k, r))
  | none => if peekK rem ≠ "name" then (match rdVal e rem with
      | .error x => some (.error x)
      | .ok (v, r) => some (.ok (.set x v k, r)))
    else match rdName e rem with
      | .error x => some (.error x)
      | .ok (y, r) => match acc "sign" "." r with
        | some r2 => (match rdFld e r2 with
          | .error x => some (.error x)
          | .ok (g, r3) => some (.ok (.load x y g k, r3)))
        | none => match acc "sign" "(" r with
          | some r2 => (match rdVals e f r2 with
            | none => none
            | some (.error x) => some (.error x)
            | some (.ok (vs, r3)) => some (.ok (.call x y vs k, r3)))
          | none => match acc "sign" "+" r with
            | some r2 => (match rdNum e r2 with
              | .error x => some (.error x)
              | .ok (n, r3) => some (.ok (.add x y n k, r3)))
            | none => match acc "sign" "-" r with
              | some r2 => (match rdNum e r2 with
                | .error x => some (.error x)
                | .ok (n, r3) => some (.ok (.add x y (-n % 65536) k, r3)))
              | none => some (.ok (.set x (.nm y) k, r))
def rdAsg (e f : Nat) (k : Nat) (rem : List Tk) : Pr (Sm × List Tk) := match rdName e rem with
  | .error x => some (.error x)
  | .ok (x, r) => match acc "sign" "." r with
    | some r2 => (match rdFld e r2 with
      | .error x => some (.error x)
      | .ok (g, r3) => match expct e "=" r3 with
        | .error x => some (.error x)
        | .ok r4 => match rdVal e r4 with
          | .error x => some (.error x)
          | .ok (v, r5) => some (.ok (.store x g v k, r5)))
    | none => match expct e "=" r with
      | .error x => some (.error x)
      | .ok r2 => rdRight e f x k r2
def rdTest (e : Nat) (rem : List Tk) : Except Er (Ts × List Tk) := match rdName e rem with
  | .error x => .error x
  | .ok (x, r) => match acc "sign" "==" r with
    | some r2 => (match rdVal e r2 with
      | .error x => .error x
      | .ok (v, r3) => .ok (.same x v, r3))
    | none => .ok (.tru x, r)
/-- a plain statement, up to its semicolon -/
def rdPlain (e f k : Nat) (rem : List Tk) : Pr (Sm × List Tk) := match acc "reserved" "out" rem with
  | some r => (match rdName e r with
    | .error x => some (.error x)
    | .ok (x, r2) => some (.ok (.out x k, r2)))
  | none => match acc "reserved" "return" rem with
    | some r => (match rdVal e r with
      | .error x => some (.error x)
      | .ok (v, r2) => some (.ok (.ret v k, r2)))
    | none => rdAsg e f k rem
mutual
def rdStm (e : Nat) : Nat → Nat → List Tk → Nat → Pr (Sm × List Tk × Nat)
  | 0, _, _, _ => none
  | f + 1, lv, rem, k => match acc "reserved" "if" rem with
    | some r => (match rdTest e r with
      | .error x => some (.error x)
      | .ok (t, r2) => match rdBlk e f (lv + 1) r2 (k + 1) with
        | none => none
        | some (.error x) => some (.error x)
        | some (.ok (a, r3, k2)) => match acc "reserved" "else" r3 with
          | none => some (.ok (.ite t a [] k, r3, k2))
          | some r4 => match rdBlk e f (lv + 1) r4 k2 with
            | none => none
            | some (.error x) => some (.error x)
            | some (.ok (b, r5, k3)) => some (.ok (.ite t a b k, r5, k3)))
    | none => match acc "reserved" "while" rem with
      | some r => (match rdTest e r with
        | .error x => some (.error x)
        | .ok (t, r2) => match rdBlk e f (lv + 1) r2 (k + 1) with
          | none => none
          | some (.error x) => some (.error x)
          | some (.ok (a, r3, k2)) => some (.ok (.whl t a k, r3, k2)))
      | none => match rdPlain e f k rem with
        | none => none
        | some (.error x) => some (.error x)
        | some (.ok (s, r)) => match expct e ";" r with
          | .error x => some (.error x)
          | .ok r2 => some (.ok (s, r2, k + 1))
def rdBlk (e : Nat) : Nat → Nat → List Tk → Nat → Pr (List Sm × List Tk × Nat)
  | 0, _, _, _ => none
  | f + 1, lv, rem, k => if 12 < lv ∧ isTk "sign" "{" rem = true then some (.error (.big "depth")) else match expct e "{" rem with
    | .error x => some (.error x)
    | .ok r => rdStms e f lv r k
def rdStms (e : Nat) : Nat → Nat → List Tk → Nat → Pr (List Sm × List Tk × Nat)
  | 0, _, _, _ => none
  | f + 1, lv, rem, k => match acc "sign" "}" rem with
    | some r => some (.ok ([], r, k))
    | none => match rdStm e f lv rem k with
      | none => none
      | some (.error x) => some (.error x)
      | some (.ok (s, r, k2)) => match rdStms e f lv r k2 with
        | none => none
        | some (.error x) => some (.error x)
        | some (.ok (ss, r2, k3)) => some (.ok (s :: ss, r2, k3))
end
def rdNms (e : Nat) : Nat → List Tk → Pr (List Str × List Tk)
  | 0, _ => none
  | f + 1, rem => match acc "sign" "," rem with
    | none => some (.ok ([], rem))
    | some r => match rdName e r with
      | .error x => some (.error x)
      | .ok (v, r2) => match rdNms e f r2 with
        | none => none
        | some (.error x) => some (.error x)
        | some (.ok (vs, r3)) => some (.ok (v :: vs, r3))
def rdPs (e f : Nat) (rem : List Tk) : Pr (List Str × List Tk) := match acc "sign" ")" rem with
  | some r => some (.ok ([], r))
  | none => match rdName e rem with
    | .error x => some (.error x)
    | .ok (v, r) => match rdNms e f r with
      | none => none
      | some (.error x) => some (.error x)
      | some (.ok (vs, r2)) => match expct e ")" r2 with
        | .error x => some (.error x)
        | .ok r3 => some (.ok (v :: vs, r3))
def rdFn (e f : Nat) (rem : List Tk) : Pr (Fd × List Tk × Nat) := match rdName e rem with
  | .error x => some (.error x)
  | .ok (n, r) => match expct e "(" r with
    | .error x => some (.error x)
    | .ok r2 => match rdPs e f r2 with
      | none => none
      | some (.error x) => some (.error x)
      | some (.ok (ps, r3)) => match rdBlk e f 1 r3 0 with
        | none => none
        | some (.error x) => some (.error x)
        | some (.ok (b, r4, k)) => some (.ok (⟨n, ps, b⟩, r4, k))
inductive Itm where
  | glo (x : Str) | fn (f : Fd)
def Itm.enc : Itm → PyData
  | .glo x => .tuple [.str "global", .str x]
  | .fn f => .tuple [.str "fn", f.enc]
def wrd (e : Nat) (s : Str) (rem : List Tk) : Except Er (List Tk) := match acc "reserved" s rem with
  | some r => .ok r
  | none => .error (.mal (plc e rem))
def rdItms (e : Nat) : Nat → List Tk → Pr (List Itm)
  | 0, _ => none
  | f + 1, rem => if rem = [] then some (.ok []) else match acc "reserved" "global" rem with
    | some r => (match rdName e r with
      | .error x => some (.error x)
      | .ok (x, r2) => match expct e ";" r2 with
        | .error x => some (.error x)
        | .ok r3 => match rdItms e f r3 with
          | none => none
          | some (.error x) => some (.error x)
          | some (.ok l) => some (.ok (.glo x :: l)))
    | none => match wrd e "fn" rem with
      | .error x => some (.error x)
      | .ok r => match rdFn e f r with
        | none => none
        | some (.error x) => some (.error x)
        | some (.ok (g, r2, _)) => match rdItms e f r2 with
          | none => none
          | some (.error x) => some (.error x)
          | some (.ok l) => some (.ok (.fn g :: l))
end Px


set_option Elab.async false
set_option linter.all false
set_option maxRecDepth 100000
set_option maxHeartbeats 4000000
/-! the text by places, what its top has written (printed by a program) -/
namespace K7
open PySem PySem.Spec PyProof.Rows L2 He Hz
def top (i : Nat) : Stmt := PySem.Challenge.pw_outlives_k07_programs_of_texts.main.body.getD i (.Pass ⟨0, 0, 0, 0⟩)
abbrev s_is_letter : Stmt := top 14
abbrev s_is_digit : Stmt := top 15
abbrev s_in_word : Stmt := top 16
abbrev s_word_end : Stmt := top 17
abbrev s_read_word : Stmt := top 18
abbrev s_read_number : Stmt := top 19
abbrev s_read_sign : Stmt := top 20
abbrev s_tokens : Stmt := top 21
abbrev s_Reader___init__ : Stmt := inClass (top 25) 0
abbrev s_Reader_place : Stmt := inClass (top 25) 1
abbrev s_Reader_peek : Stmt := inClass (top 25) 2
abbrev s_Reader_accept : Stmt := inClass (top 25) 3
abbrev s_Reader_expect : Stmt := inClass (top 25) 4
abbrev s_Reader_read : Stmt := inClass (top 25) 5
abbrev s_Reader_at_end : Stmt := inClass (top 25) 6
abbrev s_Reader_start_function : Stmt := inClass (top 25) 7
abbrev s_Reader_take_number : Stmt := inClass (top 25) 8
abbrev s_read_value : Stmt := top 26
abbrev s_read_field : Stmt := top 27
abbrev s_read_values : Stmt := top 28
abbrev s_read_right : Stmt := top 29
abbrev s_read_assignment : Stmt := top 30
abbrev s_read_test : Stmt := top 31
abbrev s_read_statement : Stmt := top 32
abbrev s_read_block : Stmt := top 33
abbrev s_read_function : Stmt := top 34
abbrev s_expect_word : Stmt := top 35
abbrev s_parse : Stmt := top 36
abbrev s_statements : Stmt := top 39
abbrev s_locals_of : Stmt := top 40
abbrev s_value_names : Stmt := top 41
abbrev s_test_names : Stmt := top 42
abbrev s_used_names : Stmt := top 43
abbrev s_Program___init__ : Stmt := inClass (top 44) 0
abbrev s_Program_add_global : Stmt := inClass (top 44) 1
abbrev s_Program_add_function : Stmt := inClass (top 44) 2
abbrev s_Program_replaced : Stmt := inClass (top 44) 3
abbrev s_Program_function : Stmt := inClass (top 44) 4
abbrev s_Program_has_global : Stmt := inClass (top 44) 5
abbrev s_Program_globals_list : Stmt := inClass (top 44) 6
abbrev s_Program_functions : Stmt := inClass (top 44) 7
abbrev s_Program_check : Stmt := inClass (top 44) 8
abbrev s_check_call : Stmt := top 45
abbrev s_check_function : Stmt := top 46
abbrev s_program_of : Stmt := top 47
abbrev s__law_draw : Stmt := top 49
abbrev s__law_names : Stmt := top 50
abbrev s__law_statement : Stmt := top 51
abbrev s__law_function : Stmt := top 52
abbrev s__law_first_twice : Stmt := top 53
abbrev s__law_row_fault : Stmt := top 54
abbrev s__law_fault : Stmt := top 55
abbrev s__law_told : Stmt := top 56
abbrev s_law : Stmt := top 57
def d_is_letter : He.DefD := ⟨("is_letter", none), "is_letter", "is_letter", defArgs s_is_letter, defBody s_is_letter, defScope s_is_letter, [], []⟩
def d_is_digit : He.DefD := ⟨("is_digit", none), "is_digit", "is_digit", defArgs s_is_digit, defBody s_is_digit, defScope s_is_digit, [], []⟩
def d_in_word : He.DefD := ⟨("in_word", none), "in_word", "in_word", defArgs s_in_word, defBody s_in_word, defScope s_in_word, [], []⟩
def d_word_end : He.DefD := ⟨("word_end", none), "word_end", "word_end", defArgs s_word_end, defBody s_word_end, defScope s_word_end, [], []⟩
def d_read_word : He.DefD := ⟨("read_word", none), "read_word", "read_word", defArgs s_read_word, defBody s_read_word, defScope s_read_word, [], []⟩
def d_read_number : He.DefD := ⟨("read_number", none), "read_number", "read_number", defArgs s_read_number, defBody s_read_number, defScope s_read_number, [], []⟩
def d_read_sign : He.DefD := ⟨("read_sign", none), "read_sign", "read_sign", defArgs s_read_sign, defBody s_read_sign, defScope s_read_sign, [], []⟩
def d_tokens : He.DefD := ⟨("tokens", none), "tokens", "tokens", defArgs s_tokens, defBody s_tokens, defScope s_tokens, [], []⟩
def d_Reader___init__ : He.DefD := ⟨("Reader", some "__init__"), "__init__", "Reader.__init__", defArgs s_Reader___init__, defBody s_Reader___init__, defScope s_Reader___init__, [], []⟩
def d_Reader_place : He.DefD := ⟨("Reader", some "place"), "place", "Reader.place", defArgs s_Reader_place, defBody s_Reader_place, defScope s_Reader_place, [], []⟩
def d_Reader_peek : He.DefD := ⟨("Reader", some "peek"), "peek", "Reader.peek", defArgs s_Reader_peek, defBody s_Reader_peek, defScope s_Reader_peek, [], []⟩
def d_Reader_accept : He.DefD := ⟨("Reader", some "accept"), "accept", "Reader.accept", defArgs s_Reader_accept, defBody s_Reader_accept, defScope s_Reader_accept, [], []⟩
def d_Reader_expect : He.DefD := ⟨("Reader", some "expect"), "expect", "Reader.expect", defArgs s_Reader_expect, defBody s_Reader_expect, defScope s_Reader_expect, [], []⟩
def d_Reader_read : He.DefD := ⟨("Reader", some "read"), "read", "Reader.read", defArgs s_Reader_read, defBody s_Reader_read, defScope s_Reader_read, [], []⟩
def d_Reader_at_end : He.DefD := ⟨("Reader", some "at_end"), "at_end", "Reader.at_end", defArgs s_Reader_at_end, defBody s_Reader_at_end, defScope s_Reader_at_end, [], []⟩
def d_Reader_start_function : He.DefD := ⟨("Reader", some "start_function"), "start_function", "Reader.start_function", defArgs s_Reader_start_function, defBody s_Reader_start_function, defScope s_Reader_start_function, [], []⟩
def d_Reader_take_number : He.DefD := ⟨("Reader", some "take_number"), "take_number", "Reader.take_number", defArgs s_Reader_take_number, defBody s_Reader_take_number, defScope s_Reader_take_number, [], []⟩
def d_read_value : He.DefD := ⟨("read_value", none), "read_value", "read_value", defArgs s_read_value, defBody s_read_value, defScope s_read_value, [], []⟩
def d_read_field : He.DefD := ⟨("read_field", none), "read_field", "read_field", defArgs s_read_field, defBody s_read_field, defScope s_read_field, [], []⟩
def d_read_values : He.DefD := ⟨("read_values", none), "read_values", "read_values", defArgs s_read_values, defBody s_read_values, defScope s_read_values, [], []⟩
def d_read_right : He.DefD := ⟨("read_right", none), "read_right", "read_right", defArgs s_read_right, defBody s_read_right, defScope s_read_right, [], []⟩
def d_read_assignment : He.DefD := ⟨("read_assignment", none), "read_assignment", "read_assignment", defArgs s_read_assignment, defBody s_read_assignment, defScope s_read_assignment, [], []⟩
def d_read_test : He.DefD := ⟨("read_test", none), "read_test", "read_test", defArgs s_read_test, defBody s_read_test, defScope s_read_test, [], []⟩
def d_read_statement : He.DefD := ⟨("read_statement", none), "read_statement", "read_statement", defArgs s_read_statement, defBody s_read_statement, defScope s_read_statement, [], []⟩
def d_read_block : He.DefD := ⟨("read_block", none), "read_block", "read_block", defArgs s_read_block, defBody s_read_block, defScope s_read_block, [], []⟩
def d_read_function : He.DefD := ⟨("read_function", none), "read_function", "read_function", defArgs s_read_function, defBody s_read_function, defScope s_read_function, [], []⟩
def d_expect_word : He.DefD := ⟨("expect_word", none), "expect_word", "expect_word", defArgs s_expect_word, defBody s_expect_word, defScope s_expect_word, [], []⟩
def d_parse : He.DefD := ⟨("parse", none), "parse", "parse", defArgs s_parse, defBody s_parse, defScope s_parse, [], []⟩
def d_statements : He.DefD := ⟨("statements", none), "statements", "statements", defArgs s_statements, defBody s_statements, defScope s_statements, [], []⟩
def d_locals_of : He.DefD := ⟨("locals_of", none), "locals_of", "locals_of", defArgs s_locals_of, defBody s_locals_of, defScope s_locals_of, [], []⟩
def d_value_names : He.DefD := ⟨("value_names", none), "value_names", "value_names", defArgs s_value_names, defBody s_value_names, defScope s_value_names, [], []⟩
def d_test_names : He.DefD := ⟨("test_names", none), "test_names", "test_names", defArgs s_test_names, defBody s_test_names, defScope s_test_names, [], []⟩
def d_used_names : He.DefD := ⟨("used_names", none), "used_names", "used_names", defArgs s_used_names, defBody s_used_names, defScope s_used_names, [], []⟩
def d_Program___init__ : He.DefD := ⟨("Program", some "__init__"), "__init__", "Program.__init__", defArgs s_Program___init__, defBody s_Program___init__, defScope s_Program___init__, [], []⟩
def d_Program_add_global : He.DefD := ⟨("Program", some "add_global"), "add_global", "Program.add_global", defArgs s_Program_add_global, defBody s_Program_add_global, defScope s_Program_add_global, [], []⟩
def d_Program_add_function : He.DefD := ⟨("Program", some "add_function"), "add_function", "Program.add_function", defArgs s_Program_add_function, defBody s_Program_add_function, defScope s_Program_add_function, [], []⟩
def d_Program_replaced : He.DefD := ⟨("Program", some "replaced"), "replaced", "Program.replaced", defArgs s_Program_replaced, defBody s_Program_replaced, defScope s_Program_replaced, [], []⟩
def d_Program_function : He.DefD := ⟨("Program", some "function"), "function", "Program.function", defArgs s_Program_function, defBody s_Program_function, defScope s_Program_function, [], []⟩
def d_Program_has_global : He.DefD := ⟨("Program", some "has_global"), "has_global", "Program.has_global", defArgs s_Program_has_global, defBody s_Program_has_global, defScope s_Program_has_global, [], []⟩
def d_Program_globals_list : He.DefD := ⟨("Program", some "globals_list"), "globals_list", "Program.globals_list", defArgs s_Program_globals_list, defBody s_Program_globals_list, defScope s_Program_globals_list, [], []⟩
def d_Program_functions : He.DefD := ⟨("Program", some "functions"), "functions", "Program.functions", defArgs s_Program_functions, defBody s_Program_functions, defScope s_Program_functions, [], []⟩
def d_Program_check : He.DefD := ⟨("Program", some "check"), "check", "Program.check", defArgs s_Program_check, defBody s_Program_check, defScope s_Program_check, [], []⟩
def d_check_call : He.DefD := ⟨("check_call", none), "check_call", "check_call", defArgs s_check_call, defBody s_check_call, defScope s_check_call, [], []⟩
def d_check_function : He.DefD := ⟨("check_function", none), "check_function", "check_function", defArgs s_check_function, defBody s_check_function, defScope s_check_function, [], []⟩
def d_program_of : He.DefD := ⟨("program_of", none), "program_of", "program_of", defArgs s_program_of, defBody s_program_of, defScope s_program_of, [], []⟩
def d__law_draw : He.DefD := ⟨("_law_draw", none), "_law_draw", "_law_draw", defArgs s__law_draw, defBody s__law_draw, defScope s__law_draw, [], []⟩
def d__law_names : He.DefD := ⟨("_law_names", none), "_law_names", "_law_names", defArgs s__law_names, defBody s__law_names, defScope s__law_names, [], []⟩
def d__law_statement : He.DefD := ⟨("_law_statement", none), "_law_statement", "_law_statement", defArgs s__law_statement, defBody s__law_statement, defScope s__law_statement, [], []⟩
def d__law_function : He.DefD := ⟨("_law_function", none), "_law_function", "_law_function", defArgs s__law_function, defBody s__law_function, defScope s__law_function, [], []⟩
def d__law_first_twice : He.DefD := ⟨("_law_first_twice", none), "_law_first_twice", "_law_first_twice", defArgs s__law_first_twice, defBody s__law_first_twice, defScope s__law_first_twice, [], []⟩
def d__law_row_fault : He.DefD := ⟨("_law_row_fault", none), "_law_row_fault", "_law_row_fault", defArgs s__law_row_fault, defBody s__law_row_fault, defScope s__law_row_fault, [], []⟩
def d__law_fault : He.DefD := ⟨("_law_fault", none), "_law_fault", "_law_fault", defArgs s__law_fault, defBody s__law_fault, defScope s__law_fault, [], []⟩
def d__law_told : He.DefD := ⟨("_law_told", none), "_law_told", "_law_told", defArgs s__law_told, defBody s__law_told, defScope s__law_told, [], []⟩
def d_law : He.DefD := ⟨("law", none), "law", "law", defArgs s_law, defBody s_law, defScope s_law, [], []⟩
def fn : List He.DefD := [d_is_letter, d_is_digit, d_in_word, d_word_end, d_read_word, d_read_number, d_read_sign, d_tokens, d_Reader___init__, d_Reader_place, d_Reader_peek, d_Reader_accept, d_Reader_expect, d_Reader_read, d_Reader_at_end, d_Reader_start_function, d_Reader_take_number, d_read_value, d_read_field, d_read_values, d_read_right, d_read_assignment, d_read_test, d_read_statement, d_read_block, d_read_function, d_expect_word, d_parse, d_statements, d_locals_of, d_value_names, d_test_names, d_used_names, d_Program___init__, d_Program_add_global, d_Program_add_function, d_Program_replaced, d_Program_function, d_Program_has_global, d_Program_globals_list, d_Program_functions, d_Program_check, d_check_call, d_check_function, d_program_of, d__law_draw, d__law_names, d__law_statement, d__law_function, d__law_first_twice, d__law_row_fault, d__law_fault, d__law_told, d_law]
def xd_Malformed : XcD := ⟨"Malformed", "at", "Malformed.__init__", ⟨9, 17, 9, 21⟩, ⟨9, 23, 9, 25⟩, ⟨10, 8, 10, 13⟩, ⟨10, 8, 10, 15⟩, ⟨10, 8, 10, 24⟩, ⟨10, 25, 10, 28⟩, ⟨10, 29, 10, 31⟩, ⟨10, 25, 10, 32⟩, ⟨10, 8, 10, 33⟩, ⟨10, 8, 10, 33⟩, ⟨11, 8, 11, 12⟩, ⟨11, 8, 11, 15⟩, ⟨11, 18, 11, 20⟩, ⟨11, 8, 11, 20⟩⟩
def xd_Unknown : XcD := ⟨"Unknown", "name", "Unknown.__init__", ⟨14, 17, 14, 21⟩, ⟨14, 23, 14, 27⟩, ⟨15, 8, 15, 13⟩, ⟨15, 8, 15, 15⟩, ⟨15, 8, 15, 24⟩, ⟨15, 25, 15, 28⟩, ⟨15, 29, 15, 33⟩, ⟨15, 25, 15, 34⟩, ⟨15, 8, 15, 35⟩, ⟨15, 8, 15, 35⟩, ⟨16, 8, 16, 12⟩, ⟨16, 8, 16, 17⟩, ⟨16, 20, 16, 24⟩, ⟨16, 8, 16, 24⟩⟩
def xd_Clashing : XcD := ⟨"Clashing", "name", "Clashing.__init__", ⟨19, 17, 19, 21⟩, ⟨19, 23, 19, 27⟩, ⟨20, 8, 20, 13⟩, ⟨20, 8, 20, 15⟩, ⟨20, 8, 20, 24⟩, ⟨20, 25, 20, 28⟩, ⟨20, 29, 20, 33⟩, ⟨20, 25, 20, 34⟩, ⟨20, 8, 20, 35⟩, ⟨20, 8, 20, 35⟩, ⟨21, 8, 21, 12⟩, ⟨21, 8, 21, 17⟩, ⟨21, 20, 21, 24⟩, ⟨21, 8, 21, 24⟩⟩
def xd_Oversized : XcD := ⟨"Oversized", "limit", "Oversized.__init__", ⟨24, 17, 24, 21⟩, ⟨24, 23, 24, 28⟩, ⟨25, 8, 25, 13⟩, ⟨25, 8, 25, 15⟩, ⟨25, 8, 25, 24⟩, ⟨25, 25, 25, 28⟩, ⟨25, 29, 25, 34⟩, ⟨25, 25, 25, 35⟩, ⟨25, 8, 25, 36⟩, ⟨25, 8, 25, 36⟩, ⟨26, 8, 26, 12⟩, ⟨26, 8, 26, 18⟩, ⟨26, 21, 26, 26⟩, ⟨26, 8, 26, 26⟩⟩
def xd_Misused : XcD := ⟨"Misused", "why", "Misused.__init__", ⟨29, 17, 29, 21⟩, ⟨29, 23, 29, 26⟩, ⟨30, 8, 30, 13⟩, ⟨30, 8, 30, 15⟩, ⟨30, 8, 30, 24⟩, ⟨30, 25, 30, 28⟩, ⟨30, 29, 30, 32⟩, ⟨30, 25, 30, 33⟩, ⟨30, 8, 30, 34⟩, ⟨30, 8, 30, 34⟩, ⟨31, 8, 31, 12⟩, ⟨31, 8, 31, 16⟩, ⟨31, 19, 31, 22⟩, ⟨31, 8, 31, 22⟩⟩
def xs : List XcD := [xd_Malformed, xd_Unknown, xd_Clashing, xd_Oversized, xd_Misused]
def fa : List He.Fa :=
  ([(He.Fa.glo "is_letter"), (He.Fa.glo "is_digit"), (He.Fa.glo "in_word"), (He.Fa.glo "word_end"), (He.Fa.glo "read_word"), (He.Fa.glo "read_number"), (He.Fa.glo "read_sign"), (He.Fa.glo "tokens"), (He.Fa.glo "read_value"), (He.Fa.glo "read_field"), (He.Fa.glo "read_values"), (He.Fa.glo "read_right"), (He.Fa.glo "read_assignment"), (He.Fa.glo "read_test"), (He.Fa.glo "read_statement"), (He.Fa.glo "read_block"), (He.Fa.glo "read_function"), (He.Fa.glo "expect_word"), (He.Fa.glo "parse"), (He.Fa.glo "statements")] : List He.Fa) ++ ([(He.Fa.glo "locals_of"), (He.Fa.glo "value_names"), (He.Fa.glo "test_names"), (He.Fa.glo "used_names"), (He.Fa.glo "check_call"), (He.Fa.glo "check_function"), (He.Fa.glo "program_of"), (He.Fa.glo "_law_draw"), (He.Fa.glo "_law_names"), (He.Fa.glo "_law_statement"), (He.Fa.glo "_law_function"), (He.Fa.glo "_law_first_twice"), (He.Fa.glo "_law_row_fault"), (He.Fa.glo "_law_fault"), (He.Fa.glo "_law_told"), (He.Fa.glo "law"), (He.Fa.glo "Refused"), (He.Fa.glo "Malformed"), (He.Fa.glo "Unknown"), (He.Fa.glo "Clashing")] : List He.Fa) ++ ([(He.Fa.glo "Oversized"), (He.Fa.glo "Misused"), (He.Fa.glo "Reader"), (He.Fa.glo "Program"), (He.Fa.glo "RESERVED"), (He.Fa.glo "SIGNS"), (He.Fa.glo "FIELDS"), (He.Fa.glo "ASSIGNING"), (He.Fa.free "len"), (He.Fa.free "range"), (He.Fa.free "list"), (He.Fa.free "tuple"), (He.Fa.free "int"), (He.Fa.free "all"), (He.Fa.free "isinstance"), (He.Fa.free "abs"), (He.Fa.free "ValueError"), (He.Fa.int "MAX_TEXT" 6000), (He.Fa.int "MAX_NAME" 10), (He.Fa.int "MAX_NUMBER" 65535)] : List He.Fa) ++ ([(He.Fa.int "MAX_LEVELS" 12), (He.Fa.cls "Reader"), (He.Fa.mkr "Reader"), (He.Fa.meth "Reader" "place"), (He.Fa.meth "Reader" "peek"), (He.Fa.meth "Reader" "accept"), (He.Fa.meth "Reader" "expect"), (He.Fa.meth "Reader" "read"), (He.Fa.meth "Reader" "at_end"), (He.Fa.meth "Reader" "start_function"), (He.Fa.meth "Reader" "take_number"), (He.Fa.noat "Reader" "_tokens"), (He.Fa.noat "Reader" "_next"), (He.Fa.noat "Reader" "_end"), (He.Fa.noat "Reader" "_number"), (He.Fa.cls "Program"), (He.Fa.mkr "Program"), (He.Fa.meth "Program" "add_global"), (He.Fa.meth "Program" "add_function"), (He.Fa.meth "Program" "replaced")] : List He.Fa) ++ ([(He.Fa.meth "Program" "function"), (He.Fa.meth "Program" "has_global"), (He.Fa.meth "Program" "globals_list"), (He.Fa.meth "Program" "functions"), (He.Fa.meth "Program" "check"), (He.Fa.noat "Program" "_globals"), (He.Fa.noat "Program" "_functions"), (He.Fa.exm "Malformed" "Refused" true), (He.Fa.exm "Unknown" "Refused" true), (He.Fa.exm "Clashing" "Refused" true), (He.Fa.exm "Oversized" "Refused" true), (He.Fa.exm "Misused" "Refused" true)] : List He.Fa)
def tl_RESERVED : List He.Dv := [.str "else", .str "fn", .str "global", .str "if", .str "new", .str "nil", .str "out", .str "return", .str "while"]
def tl_SIGNS : List He.Dv := [.str "==", .str "=", .str "+", .str "-", .str ".", .str ",", .str ";", .str "(", .str ")", .str "{", .str "}"]
def tl_FIELDS : List He.Dv := [.str "a", .str "b"]
def tl_ASSIGNING : List He.Dv := [.str "new", .str "set", .str "load", .str "add", .str "call"]
def ex (K : PySem.W.Frag) : Bool := (He.tupB K "RESERVED" tl_RESERVED && (He.tupB K "SIGNS" tl_SIGNS && (He.tupB K "FIELDS" tl_FIELDS && (He.tupB K "ASSIGNING" tl_ASSIGNING && (xfB K (ga K "Malformed") && (xfB K (ga K "Unknown") && (xfB K (ga K "Clashing") && (xfB K (ga K "Oversized") && (xfB K (ga K "Misused") && (Iz.icB K (ga K "Malformed") && (Iz.isB K (ga K "Malformed") (.type "ValueError") true && (Iz.isB K (ga K "Malformed") (.ref (ga K "Malformed")) true && (Iz.icB K (ga K "Clashing") && (Iz.isB K (ga K "Clashing") (.type "ValueError") true && (Iz.isB K (ga K "Clashing") (.ref (ga K "Malformed")) false && (Iz.isB K (ga K "Clashing") (.ref (ga K "Clashing")) true && (Iz.icB K (ga K "Unknown") && (Iz.isB K (ga K "Unknown") (.type "ValueError") true && (Iz.isB K (ga K "Unknown") (.ref (ga K "Malformed")) false && (Iz.isB K (ga K "Unknown") (.ref (ga K "Clashing")) false && (Iz.isB K (ga K "Unknown") (.ref (ga K "Unknown")) true && (Iz.icB K (ga K "Misused") && (Iz.isB K (ga K "Misused") (.type "ValueError") true && (Iz.isB K (ga K "Misused") (.ref (ga K "Malformed")) false && (Iz.isB K (ga K "Misused") (.ref (ga K "Clashing")) false && (Iz.isB K (ga K "Misused") (.ref (ga K "Unknown")) false && (Iz.isB K (ga K "Misused") (.ref (ga K "Misused")) true && true)))))))))))))))))))))))))))
def names : List PySem.Str := ([("_wall" : PySem.Str), ("Refused" : PySem.Str), ("Malformed" : PySem.Str), ("Unknown" : PySem.Str), ("Clashing" : PySem.Str), ("Oversized" : PySem.Str), ("Misused" : PySem.Str), ("MAX_TEXT" : PySem.Str), ("MAX_NAME" : PySem.Str), ("MAX_NUMBER" : PySem.Str), ("RESERVED" : PySem.Str), ("SIGNS" : PySem.Str), ("is_letter" : PySem.Str), ("is_digit" : PySem.Str), ("in_word" : PySem.Str), ("word_end" : PySem.Str), ("read_word" : PySem.Str), ("read_number" : PySem.Str), ("read_sign" : PySem.Str), ("tokens" : PySem.Str)] : List PySem.Str) ++ ([("MAX_LEVELS" : PySem.Str), ("FIELDS" : PySem.Str), ("Reader" : PySem.Str), ("read_value" : PySem.Str), ("read_field" : PySem.Str), ("read_values" : PySem.Str), ("read_right" : PySem.Str), ("read_assignment" : PySem.Str), ("read_test" : PySem.Str), ("read_statement" : PySem.Str), ("read_block" : PySem.Str), ("read_function" : PySem.Str), ("expect_word" : PySem.Str), ("parse" : PySem.Str), ("ASSIGNING" : PySem.Str), ("statements" : PySem.Str), ("locals_of" : PySem.Str), ("value_names" : PySem.Str), ("test_names" : PySem.Str), ("used_names" : PySem.Str)] : List PySem.Str) ++ ([("Program" : PySem.Str), ("check_call" : PySem.Str), ("check_function" : PySem.Str), ("program_of" : PySem.Str), ("_law_draw" : PySem.Str), ("_law_names" : PySem.Str), ("_law_statement" : PySem.Str), ("_law_function" : PySem.Str), ("_law_first_twice" : PySem.Str), ("_law_row_fault" : PySem.Str), ("_law_fault" : PySem.Str), ("_law_told" : PySem.Str)] : List PySem.Str)
def lawAt : Nat := 57
structure Tx (P : Program) (K : PySem.W.Frag) (mg : Str → Option Value) : Prop where
  c : SaysZ P.main.file fa fn xs ex K
  g : ∀ x, He.Fa.glo x ∈ fa → mg x = some (.ref (ga K x))
  n : ∀ x, He.Fa.free x ∈ fa → mg x = none
  i : ∀ x j, He.Fa.int x j ∈ fa → ∃ t, mg x = some (.int j t)
  xg : ∀ d, d ∈ xs → mg d.cn = some (.ref (d.C K))
  ok : ∀ d, d ∈ xs → XcOk P d
def fdOf (K : PySem.W.Frag) (a : Addr) : FuncData := match K.lookup a with
  | some ⟨_, _, .func fd, _⟩ => fd
  | _ => default
theorem fd_eq {K : PySem.W.Frag} {x qual : Str} {params : Arguments} {body : List Stmt} {scope : Scope} {dvs : List V} {kws : List (Str × V)} {f : Addr} {fd : FuncData} (F : FunD K x qual params body scope dvs kws f fd) : FunD K x qual params body scope dvs kws f (fdOf K f) := by
  obtain ⟨oc, od, dV, kV, doc, pm, an, cdv, ct, osl, e, lk, _⟩ := F.ex
  have q : fdOf K f = fd := by
    unfold fdOf
    rw [lk]
  rw [q]
  exact F
abbrev OkF (P : Program) (w : World) (K : PySem.W.Frag) (mg : Str → Option Value) (base : Heap) (CX : CXT) (k : Nat) (p : Str × Option Str) (ps : List Str) (sp : Sp) : Prop := FnOk P w K mg base CX k (fAd K p) (fdOf K (fAd K p)) ps sp
section
variable {P : Program} {K : PySem.W.Frag} {mg : Str → Option Value}
theorem Tx.g_is_letter (T : Tx P K mg) : mg "is_letter" = some (.ref (ga K "is_letter")) := T.g _ (List.mem_of_getElem? (i := 0) rfl)
theorem Tx.g_is_digit (T : Tx P K mg) : mg "is_digit" = some (.ref (ga K "is_digit")) := T.g _ (List.mem_of_getElem? (i := 1) rfl)
theorem Tx.g_in_word (T : Tx P K mg) : mg "in_word" = some (.ref (ga K "in_word")) := T.g _ (List.mem_of_getElem? (i := 2) rfl)
theorem Tx.g_word_end (T : Tx P K mg) : mg "word_end" = some (.ref (ga K "word_end")) := T.g _ (List.mem_of_getElem? (i := 3) rfl)
theorem Tx.g_read_word (T : Tx P K mg) : mg "read_word" = some (.ref (ga K "read_word")) := T.g _ (List.mem_of_getElem? (i := 4) rfl)
theorem Tx.g_read_number (T : Tx P K mg) : mg "read_number" = some (.ref (ga K "read_number")) := T.g _ (List.mem_of_getElem? (i := 5) rfl)
theorem Tx.g_read_sign (T : Tx P K mg) : mg "read_sign" = some (.ref (ga K "read_sign")) := T.g _ (List.mem_of_getElem? (i := 6) rfl)
theorem Tx.g_tokens (T : Tx P K mg) : mg "tokens" = some (.ref (ga K "tokens")) := T.g _ (List.mem_of_getElem? (i := 7) rfl)
theorem Tx.g_read_value (T : Tx P K mg) : mg "read_value" = some (.ref (ga K "read_value")) := T.g _ (List.mem_of_getElem? (i := 8) rfl)
theorem Tx.g_read_field (T : Tx P K mg) : mg "read_field" = some (.ref (ga K "read_field")) := T.g _ (List.mem_of_getElem? (i := 9) rfl)
theorem Tx.g_read_values (T : Tx P K mg) : mg "read_values" = some (.ref (ga K "read_values")) := T.g _ (List.mem_of_getElem? (i := 10) rfl)
theorem Tx.g_read_right (T : Tx P K mg) : mg "read_right" = some (.ref (ga K "read_right")) := T.g _ (List.mem_of_getElem? (i := 11) rfl)
theorem Tx.g_read_assignment (T : Tx P K mg) : mg "read_assignment" = some (.ref (ga K "read_assignment")) := T.g _ (List.mem_of_getElem? (i := 12) rfl)
theorem Tx.g_read_test (T : Tx P K mg) : mg "read_test" = some (.ref (ga K "read_test")) := T.g _ (List.mem_of_getElem? (i := 13) rfl)
theorem Tx.g_read_statement (T : Tx P K mg) : mg "read_statement" = some (.ref (ga K "read_statement")) := T.g _ (List.mem_of_getElem? (i := 14) rfl)
theorem Tx.g_read_block (T : Tx P K mg) : mg "read_block" = some (.ref (ga K "read_block")) := T.g _ (List.mem_of_getElem? (i := 15) rfl)
theorem Tx.g_read_function (T : Tx P K mg) : mg "read_function" = some (.ref (ga K "read_function")) := T.g _ (List.mem_of_getElem? (i := 16) rfl)
theorem Tx.g_expect_word (T : Tx P K mg) : mg "expect_word" = some (.ref (ga K "expect_word")) := T.g _ (List.mem_of_getElem? (i := 17) rfl)
theorem Tx.g_parse (T : Tx P K mg) : mg "parse" = some (.ref (ga K "parse")) := T.g _ (List.mem_of_getElem? (i := 18) rfl)
theorem Tx.g_statements (T : Tx P K mg) : mg "statements" = some (.ref (ga K "statements")) := T.g _ (List.mem_of_getElem? (i := 19) rfl)
theorem Tx.g_locals_of (T : Tx P K mg) : mg "locals_of" = some (.ref (ga K "locals_of")) := T.g _ (List.mem_of_getElem? (i := 20) rfl)
theorem Tx.g_value_names (T : Tx P K mg) : mg "value_names" = some (.ref (ga K "value_names")) := T.g _ (List.mem_of_getElem? (i := 21) rfl)
theorem Tx.g_test_names (T : Tx P K mg) : mg "test_names" = some (.ref (ga K "test_names")) := T.g _ (List.mem_of_getElem? (i := 22) rfl)
theorem Tx.g_used_names (T : Tx P K mg) : mg "used_names" = some (.ref (ga K "used_names")) := T.g _ (List.mem_of_getElem? (i := 23) rfl)
theorem Tx.g_check_call (T : Tx P K mg) : mg "check_call" = some (.ref (ga K "check_call")) := T.g _ (List.mem_of_getElem? (i := 24) rfl)
theorem Tx.g_check_function (T : Tx P K mg) : mg "check_function" = some (.ref (ga K "check_function")) := T.g _ (List.mem_of_getElem? (i := 25) rfl)
theorem Tx.g_program_of (T : Tx P K mg) : mg "program_of" = some (.ref (ga K "program_of")) := T.g _ (List.mem_of_getElem? (i := 26) rfl)
theorem Tx.g__law_draw (T : Tx P K mg) : mg "_law_draw" = some (.ref (ga K "_law_draw")) := T.g _ (List.mem_of_getElem? (i := 27) rfl)
theorem Tx.g__law_names (T : Tx P K mg) : mg "_law_names" = some (.ref (ga K "_law_names")) := T.g _ (List.mem_of_getElem? (i := 28) rfl)
theorem Tx.g__law_statement (T : Tx P K mg) : mg "_law_statement" = some (.ref (ga K "_law_statement")) := T.g _ (List.mem_of_getElem? (i := 29) rfl)
theorem Tx.g__law_function (T : Tx P K mg) : mg "_law_function" = some (.ref (ga K "_law_function")) := T.g _ (List.mem_of_getElem? (i := 30) rfl)
theorem Tx.g__law_first_twice (T : Tx P K mg) : mg "_law_first_twice" = some (.ref (ga K "_law_first_twice")) := T.g _ (List.mem_of_getElem? (i := 31) rfl)
theorem Tx.g__law_row_fault (T : Tx P K mg) : mg "_law_row_fault" = some (.ref (ga K "_law_row_fault")) := T.g _ (List.mem_of_getElem? (i := 32) rfl)
theorem Tx.g__law_fault (T : Tx P K mg) : mg "_law_fault" = some (.ref (ga K "_law_fault")) := T.g _ (List.mem_of_getElem? (i := 33) rfl)
theorem Tx.g__law_told (T : Tx P K mg) : mg "_law_told" = some (.ref (ga K "_law_told")) := T.g _ (List.mem_of_getElem? (i := 34) rfl)
theorem Tx.g_law (T : Tx P K mg) : mg "law" = some (.ref (ga K "law")) := T.g _ (List.mem_of_getElem? (i := 35) rfl)
theorem Tx.g_Refused (T : Tx P K mg) : mg "Refused" = some (.ref (ga K "Refused")) := T.g _ (List.mem_of_getElem? (i := 36) rfl)
theorem Tx.g_Malformed (T : Tx P K mg) : mg "Malformed" = some (.ref (ga K "Malformed")) := T.g _ (List.mem_of_getElem? (i := 37) rfl)
theorem Tx.g_Unknown (T : Tx P K mg) : mg "Unknown" = some (.ref (ga K "Unknown")) := T.g _ (List.mem_of_getElem? (i := 38) rfl)
theorem Tx.g_Clashing (T : Tx P K mg) : mg "Clashing" = some (.ref (ga K "Clashing")) := T.g _ (List.mem_of_getElem? (i := 39) rfl)
theorem Tx.g_Oversized (T : Tx P K mg) : mg "Oversized" = some (.ref (ga K "Oversized")) := T.g _ (List.mem_of_getElem? (i := 40) rfl)
theorem Tx.g_Misused (T : Tx P K mg) : mg "Misused" = some (.ref (ga K "Misused")) := T.g _ (List.mem_of_getElem? (i := 41) rfl)
theorem Tx.g_Reader (T : Tx P K mg) : mg "Reader" = some (.ref (ga K "Reader")) := T.g _ (List.mem_of_getElem? (i := 42) rfl)
theorem Tx.g_Program (T : Tx P K mg) : mg "Program" = some (.ref (ga K "Program")) := T.g _ (List.mem_of_getElem? (i := 43) rfl)
theorem Tx.g_RESERVED (T : Tx P K mg) : mg "RESERVED" = some (.ref (ga K "RESERVED")) := T.g _ (List.mem_of_getElem? (i := 44) rfl)
theorem Tx.g_SIGNS (T : Tx P K mg) : mg "SIGNS" = some (.ref (ga K "SIGNS")) := T.g _ (List.mem_of_getElem? (i := 45) rfl)
theorem Tx.g_FIELDS (T : Tx P K mg) : mg "FIELDS" = some (.ref (ga K "FIELDS")) := T.g _ (List.mem_of_getElem? (i := 46) rfl)
theorem Tx.g_ASSIGNING (T : Tx P K mg) : mg "ASSIGNING" = some (.ref (ga K "ASSIGNING")) := T.g _ (List.mem_of_getElem? (i := 47) rfl)
theorem Tx.n_len (T : Tx P K mg) : mg "len" = none := T.n _ (List.mem_of_getElem? (i := 48) rfl)
theorem Tx.n_range (T : Tx P K mg) : mg "range" = none := T.n _ (List.mem_of_getElem? (i := 49) rfl)
theorem Tx.n_list (T : Tx P K mg) : mg "list" = none := T.n _ (List.mem_of_getElem? (i := 50) rfl)
theorem Tx.n_tuple (T : Tx P K mg) : mg "tuple" = none := T.n _ (List.mem_of_getElem? (i := 51) rfl)
theorem Tx.n_int (T : Tx P K mg) : mg "int" = none := T.n _ (List.mem_of_getElem? (i := 52) rfl)
theorem Tx.n_all (T : Tx P K mg) : mg "all" = none := T.n _ (List.mem_of_getElem? (i := 53) rfl)
theorem Tx.n_isinstance (T : Tx P K mg) : mg "isinstance" = none := T.n _ (List.mem_of_getElem? (i := 54) rfl)
theorem Tx.n_abs (T : Tx P K mg) : mg "abs" = none := T.n _ (List.mem_of_getElem? (i := 55) rfl)
theorem Tx.n_ValueError (T : Tx P K mg) : mg "ValueError" = none := T.n _ (List.mem_of_getElem? (i := 56) rfl)
theorem Tx.i_MAX_TEXT (T : Tx P K mg) : ∃ t, mg "MAX_TEXT" = some (.int 6000 t) := T.i _ _ (List.mem_of_getElem? (i := 57) rfl)
theorem Tx.i_MAX_NAME (T : Tx P K mg) : ∃ t, mg "MAX_NAME" = some (.int 10 t) := T.i _ _ (List.mem_of_getElem? (i := 58) rfl)
theorem Tx.i_MAX_NUMBER (T : Tx P K mg) : ∃ t, mg "MAX_NUMBER" = some (.int 65535 t) := T.i _ _ (List.mem_of_getElem? (i := 59) rfl)
theorem Tx.i_MAX_LEVELS (T : Tx P K mg) : ∃ t, mg "MAX_LEVELS" = some (.int 12 t) := T.i _ _ (List.mem_of_getElem? (i := 60) rfl)
abbrev a_is_letter : Str × Option Str := ("is_letter", none)
theorem Tx.f_is_letter (T : Tx P K mg) : FunD K "is_letter" "is_letter" (defArgs s_is_letter) (defBody s_is_letter) (defScope s_is_letter) [] [] (fAd K a_is_letter) (fdOf K (fAd K a_is_letter)) := by
  obtain ⟨fd, F⟩ := T.c.fn_ (d := d_is_letter) (List.mem_of_getElem? (i := 0) rfl)
  exact fd_eq F
theorem Tx.k_is_letter (T : Tx P K mg) : PySem.W.keepIn K (.ref (fAd K a_is_letter)) = true := T.f_is_letter.kp
theorem Tx.b_is_letter (T : Tx P K mg) : Binds K (fdOf K (fAd K a_is_letter)) ["char"] [] := T.f_is_letter.bindsN fun _ _ _ _ _ _ us hl => match us, hl with | [_], _ => rfl
theorem sc_is_letter : FnScope (["char"] : List Str) ["char"] (defScope s_is_letter) := ⟨rfl, rfl, rfl, by decide +kernel, rfl, by decide +kernel, by decide +kernel⟩
abbrev a_is_digit : Str × Option Str := ("is_digit", none)
theorem Tx.f_is_digit (T : Tx P K mg) : FunD K "is_digit" "is_digit" (defArgs s_is_digit) (defBody s_is_digit) (defScope s_is_digit) [] [] (fAd K a_is_digit) (fdOf K (fAd K a_is_digit)) := by
  obtain ⟨fd, F⟩ := T.c.fn_ (d := d_is_digit) (List.mem_of_getElem? (i := 1) rfl)
  exact fd_eq F
theorem Tx.k_is_digit (T : Tx P K mg) : PySem.W.keepIn K (.ref (fAd K a_is_digit)) = true := T.f_is_digit.kp
theorem Tx.b_is_digit (T : Tx P K mg) : Binds K (fdOf K (fAd K a_is_digit)) ["char"] [] := T.f_is_digit.bindsN fun _ _ _ _ _ _ us hl => match us, hl with | [_], _ => rfl
theorem sc_is_digit : FnScope (["char"] : List Str) ["char"] (defScope s_is_digit) := ⟨rfl, rfl, rfl, by decide +kernel, rfl, by decide +kernel, by decide +kernel⟩
abbrev a_in_word : Str × Option Str := ("in_word", none)
theorem Tx.f_in_word (T : Tx P K mg) : FunD K "in_word" "in_word" (defArgs s_in_word) (defBody s_in_word) (defScope s_in_word) [] [] (fAd K a_in_word) (fdOf K (fAd K a_in_word)) := by
  obtain ⟨fd, F⟩ := T.c.fn_ (d := d_in_word) (List.mem_of_getElem? (i := 2) rfl)
  exact fd_eq F
theorem Tx.k_in_word (T : Tx P K mg) : PySem.W.keepIn K (.ref (fAd K a_in_word)) = true := T.f_in_word.kp
theorem Tx.b_in_word (T : Tx P K mg) : Binds K (fdOf K (fAd K a_in_word)) ["char"] [] := T.f_in_word.bindsN fun _ _ _ _ _ _ us hl => match us, hl with | [_], _ => rfl
theorem sc_in_word : FnScope (["char"] : List Str) ["char"] (defScope s_in_word) := ⟨rfl, rfl, rfl, by decide +kernel, rfl, by decide +kernel, by decide +kernel⟩
abbrev a_word_end : Str × Option Str := ("word_end", none)
theorem Tx.f_word_end (T : Tx P K mg) : FunD K "word_end" "word_end" (defArgs s_word_end) (defBody s_word_end) (defScope s_word_end) [] [] (fAd K a_word_end) (fdOf K (fAd K a_word_end)) := by
  obtain ⟨fd, F⟩ := T.c.fn_ (d := d_word_end) (List.mem_of_getElem? (i := 3) rfl)
  exact fd_eq F
theorem Tx.k_word_end (T : Tx P K mg) : PySem.W.keepIn K (.ref (fAd K a_word_end)) = true := T.f_word_end.kp
theorem Tx.b_word_end (T : Tx P K mg) : Binds K (fdOf K (fAd K a_word_end)) ["text", "at"] [] := T.f_word_end.bindsN fun _ _ _ _ _ _ us hl => match us, hl with | [_, _], _ => rfl
theorem sc_word_end : FnScope (["text", "at"] : List Str) ["text", "at"] (defScope s_word_end) := ⟨rfl, rfl, rfl, by decide +kernel, rfl, by decide +kernel, by decide +kernel⟩
abbrev a_read_word : Str × Option Str := ("read_word", none)
theorem Tx.f_read_word (T : Tx P K mg) : FunD K "read_word" "read_word" (defArgs s_read_word) (defBody s_read_word) (defScope s_read_word) [] [] (fAd K a_read_word) (fdOf K (fAd K a_read_word)) := by
  obtain ⟨fd, F⟩ := T.c.fn_ (d := d_read_word) (List.mem_of_getElem? (i := 4) rfl)
  exact fd_eq F
theorem Tx.k_read_word (T : Tx P K mg) : PySem.W.keepIn K (.ref (fAd K a_read_word)) = true := T.f_read_word.kp
theorem Tx.b_read_word (T : Tx P K mg) : Binds K (fdOf K (fAd K a_read_word)) ["text", "at"] [] := T.f_read_word.bindsN fun _ _ _ _ _ _ us hl => match us, hl with | [_, _], _ => rfl
theorem sc_read_word : FnScope (["text", "at", "word"] : List Str) ["text", "at"] (defScope s_read_word) := ⟨rfl, rfl, rfl, by decide +kernel, rfl, by decide +kernel, by decide +kernel⟩
abbrev a_read_number : Str × Option Str := ("read_number", none)
theorem Tx.f_read_number (T : Tx P K mg) : FunD K "read_number" "read_number" (defArgs s_read_number) (defBody s_read_number) (defScope s_read_number) [] [] (fAd K a_read_number) (fdOf K (fAd K a_read_number)) := by
  obtain ⟨fd, F⟩ := T.c.fn_ (d := d_read_number) (List.mem_of_getElem? (i := 5) rfl)
  exact fd_eq F
theorem Tx.k_read_number (T : Tx P K mg) : PySem.W.keepIn K (.ref (fAd K a_read_number)) = true := T.f_read_number.kp
theorem Tx.b_read_number (T : Tx P K mg) : Binds K (fdOf K (fAd K a_read_number)) ["text", "at"] [] := T.f_read_number.bindsN fun _ _ _ _ _ _ us hl => match us, hl with | [_, _], _ => rfl
theorem sc_read_number : FnScope (["text", "at", "word", "number", "char"] : List Str) ["text", "at"] (defScope s_read_number) := ⟨rfl, rfl, rfl, by decide +kernel, rfl, by decide +kernel, by decide +kernel⟩
abbrev a_read_sign : Str × Option Str := ("read_sign", none)
theorem Tx.f_read_sign (T : Tx P K mg) : FunD K "read_sign" "read_sign" (defArgs s_read_sign) (defBody s_read_sign) (defScope s_read_sign) [] [] (fAd K a_read_sign) (fdOf K (fAd K a_read_sign)) := by
  obtain ⟨fd, F⟩ := T.c.fn_ (d := d_read_sign) (List.mem_of_getElem? (i := 6) rfl)
  exact fd_eq F
theorem Tx.k_read_sign (T : Tx P K mg) : PySem.W.keepIn K (.ref (fAd K a_read_sign)) = true := T.f_read_sign.kp
theorem Tx.b_read_sign (T : Tx P K mg) : Binds K (fdOf K (fAd K a_read_sign)) ["text", "at"] [] := T.f_read_sign.bindsN fun _ _ _ _ _ _ us hl => match us, hl with | [_, _], _ => rfl
theorem sc_read_sign : FnScope (["text", "at", "sign"] : List Str) ["text", "at"] (defScope s_read_sign) := ⟨rfl, rfl, rfl, by decide +kernel, rfl, by decide +kernel, by decide +kernel⟩
abbrev a_tokens : Str × Option Str := ("tokens", none)
theorem Tx.f_tokens (T : Tx P K mg) : FunD K "tokens" "tokens" (defArgs s_tokens) (defBody s_tokens) (defScope s_tokens) [] [] (fAd K a_tokens) (fdOf K (fAd K a_tokens)) := by
  obtain ⟨fd, F⟩ := T.c.fn_ (d := d_tokens) (List.mem_of_getElem? (i := 7) rfl)
  exact fd_eq F
theorem Tx.k_tokens (T : Tx P K mg) : PySem.W.keepIn K (.ref (fAd K a_tokens)) = true := T.f_tokens.kp
theorem Tx.b_tokens (T : Tx P K mg) : Binds K (fdOf K (fAd K a_tokens)) ["text"] [] := T.f_tokens.bindsN fun _ _ _ _ _ _ us hl => match us, hl with | [_], _ => rfl
theorem sc_tokens : FnScope (["text", "found", "at"] : List Str) ["text"] (defScope s_tokens) := ⟨rfl, rfl, rfl, by decide +kernel, rfl, by decide +kernel, by decide +kernel⟩
abbrev a_Reader___init__ : Str × Option Str := ("Reader", some "__init__")
theorem Tx.f_Reader___init__ (T : Tx P K mg) : FunD K "__init__" "Reader.__init__" (defArgs s_Reader___init__) (defBody s_Reader___init__) (defScope s_Reader___init__) [] [] (fAd K a_Reader___init__) (fdOf K (fAd K a_Reader___init__)) := by
  obtain ⟨fd, F⟩ := T.c.fn_ (d := d_Reader___init__) (List.mem_of_getElem? (i := 8) rfl)
  exact fd_eq F
theorem Tx.k_Reader___init__ (T : Tx P K mg) : PySem.W.keepIn K (.ref (fAd K a_Reader___init__)) = true := T.f_Reader___init__.kp
theorem Tx.b_Reader___init__ (T : Tx P K mg) : Binds K (fdOf K (fAd K a_Reader___init__)) ["self", "text"] [] := T.f_Reader___init__.bindsN fun _ _ _ _ _ _ us hl => match us, hl with | [_, _], _ => rfl
theorem sc_Reader___init__ : FnScope (["self", "text"] : List Str) ["self", "text"] (defScope s_Reader___init__) := ⟨rfl, rfl, rfl, by decide +kernel, rfl, by decide +kernel, by decide +kernel⟩
abbrev a_Reader_place : Str × Option Str := ("Reader", some "place")
theorem Tx.f_Reader_place (T : Tx P K mg) : FunD K "place" "Reader.place" (defArgs s_Reader_place) (defBody s_Reader_place) (defScope s_Reader_place) [] [] (fAd K a_Reader_place) (fdOf K (fAd K a_Reader_place)) := by
  obtain ⟨fd, F⟩ := T.c.fn_ (d := d_Reader_place) (List.mem_of_getElem? (i := 9) rfl)
  exact fd_eq F
theorem Tx.k_Reader_place (T : Tx P K mg) : PySem.W.keepIn K (.ref (fAd K a_Reader_place)) = true := T.f_Reader_place.kp
theorem Tx.b_Reader_place (T : Tx P K mg) : Binds K (fdOf K (fAd K a_Reader_place)) ["self"] [] := T.f_Reader_place.bindsN fun _ _ _ _ _ _ us hl => match us, hl with | [_], _ => rfl
theorem sc_Reader_place : FnScope (["self"] : List Str) ["self"] (defScope s_Reader_place) := ⟨rfl, rfl, rfl, by decide +kernel, rfl, by decide +kernel, by decide +kernel⟩
abbrev a_Reader_peek : Str × Option Str := ("Reader", some "peek")
theorem Tx.f_Reader_peek (T : Tx P K mg) : FunD K "peek" "Reader.peek" (defArgs s_Reader_peek) (defBody s_Reader_peek) (defScope s_Reader_peek) [] [] (fAd K a_Reader_peek) (fdOf K (fAd K a_Reader_peek)) := by
  obtain ⟨fd, F⟩ := T.c.fn_ (d := d_Reader_peek) (List.mem_of_getElem? (i := 10) rfl)
  exact fd_eq F
theorem Tx.k_Reader_peek (T : Tx P K mg) : PySem.W.keepIn K (.ref (fAd K a_Reader_peek)) = true := T.f_Reader_peek.kp
theorem Tx.b_Reader_peek (T : Tx P K mg) : Binds K (fdOf K (fAd K a_Reader_peek)) ["self"] [] := T.f_Reader_peek.bindsN fun _ _ _ _ _ _ us hl => match us, hl with | [_], _ => rfl
theorem sc_Reader_peek : FnScope (["self"] : List Str) ["self"] (defScope s_Reader_peek) := ⟨rfl, rfl, rfl, by decide +kernel, rfl, by decide +kernel, by decide +kernel⟩
abbrev a_Reader_accept : Str × Option Str := ("Reader", some "accept")
theorem Tx.f_Reader_accept (T : Tx P K mg) : FunD K "accept" "Reader.accept" (defArgs s_Reader_accept) (defBody s_Reader_accept) (defScope s_Reader_accept) [] [] (fAd K a_Reader_accept) (fdOf K (fAd K a_Reader_accept)) := by
  obtain ⟨fd, F⟩ := T.c.fn_ (d := d_Reader_accept) (List.mem_of_getElem? (i := 11) rfl)
  exact fd_eq F
theorem Tx.k_Reader_accept (T : Tx P K mg) : PySem.W.keepIn K (.ref (fAd K a_Reader_accept)) = true := T.f_Reader_accept.kp
theorem Tx.b_Reader_accept (T : Tx P K mg) : Binds K (fdOf K (fAd K a_Reader_accept)) ["self", "kind", "value"] [] := T.f_Reader_accept.bindsN fun _ _ _ _ _ _ us hl => match us, hl with | [_, _, _], _ => rfl
theorem sc_Reader_accept : FnScope (["self", "kind", "value"] : List Str) ["self", "kind", "value"] (defScope s_Reader_accept) := ⟨rfl, rfl, rfl, by decide +kernel, rfl, by decide +kernel, by decide +kernel⟩
abbrev a_Reader_expect : Str × Option Str := ("Reader", some "expect")
theorem Tx.f_Reader_expect (T : Tx P K mg) : FunD K "expect" "Reader.expect" (defArgs s_Reader_expect) (defBody s_Reader_expect) (defScope s_Reader_expect) [] [] (fAd K a_Reader_expect) (fdOf K (fAd K a_Reader_expect)) := by
  obtain ⟨fd, F⟩ := T.c.fn_ (d := d_Reader_expect) (List.mem_of_getElem? (i := 12) rfl)
  exact fd_eq F
theorem Tx.k_Reader_expect (T : Tx P K mg) : PySem.W.keepIn K (.ref (fAd K a_Reader_expect)) = true := T.f_Reader_expect.kp
theorem Tx.b_Reader_expect (T : Tx P K mg) : Binds K (fdOf K (fAd K a_Reader_expect)) ["self", "sign"] [] := T.f_Reader_expect.bindsN fun _ _ _ _ _ _ us hl => match us, hl with | [_, _], _ => rfl
theorem sc_Reader_expect : FnScope (["self", "sign"] : List Str) ["self", "sign"] (defScope s_Reader_expect) := ⟨rfl, rfl, rfl, by decide +kernel, rfl, by decide +kernel, by decide +kernel⟩
abbrev a_Reader_read : Str × Option Str := ("Reader", some "read")
theorem Tx.f_Reader_read (T : Tx P K mg) : FunD K "read" "Reader.read" (defArgs s_Reader_read) (defBody s_Reader_read) (defScope s_Reader_read) [] [] (fAd K a_Reader_read) (fdOf K (fAd K a_Reader_read)) := by
  obtain ⟨fd, F⟩ := T.c.fn_ (d := d_Reader_read) (List.mem_of_getElem? (i := 13) rfl)
  exact fd_eq F
theorem Tx.k_Reader_read (T : Tx P K mg) : PySem.W.keepIn K (.ref (fAd K a_Reader_read)) = true := T.f_Reader_read.kp
theorem Tx.b_Reader_read (T : Tx P K mg) : Binds K (fdOf K (fAd K a_Reader_read)) ["self", "kind"] [] := T.f_Reader_read.bindsN fun _ _ _ _ _ _ us hl => match us, hl with | [_, _], _ => rfl
theorem sc_Reader_read : FnScope (["self", "kind", "found"] : List Str) ["self", "kind"] (defScope s_Reader_read) := ⟨rfl, rfl, rfl, by decide +kernel, rfl, by decide +kernel, by decide +kernel⟩
abbrev a_Reader_at_end : Str × Option Str := ("Reader", some "at_end")
theorem Tx.f_Reader_at_end (T : Tx P K mg) : FunD K "at_end" "Reader.at_end" (defArgs s_Reader_at_end) (defBody s_Reader_at_end) (defScope s_Reader_at_end) [] [] (fAd K a_Reader_at_end) (fdOf K (fAd K a_Reader_at_end)) := by
  obtain ⟨fd, F⟩ := T.c.fn_ (d := d_Reader_at_end) (List.mem_of_getElem? (i := 14) rfl)
  exact fd_eq F
theorem Tx.k_Reader_at_end (T : Tx P K mg) : PySem.W.keepIn K (.ref (fAd K a_Reader_at_end)) = true := T.f_Reader_at_end.kp
theorem Tx.b_Reader_at_end (T : Tx P K mg) : Binds K (fdOf K (fAd K a_Reader_at_end)) ["self"] [] := T.f_Reader_at_end.bindsN fun _ _ _ _ _ _ us hl => match us, hl with | [_], _ => rfl
theorem sc_Reader_at_end : FnScope (["self"] : List Str) ["self"] (defScope s_Reader_at_end) := ⟨rfl, rfl, rfl, by decide +kernel, rfl, by decide +kernel, by decide +kernel⟩
abbrev a_Reader_start_function : Str × Option Str := ("Reader", some "start_function")
theorem Tx.f_Reader_start_function (T : Tx P K mg) : FunD K "start_function" "Reader.start_function" (defArgs s_Reader_start_function) (defBody s_Reader_start_function) (defScope s_Reader_start_function) [] [] (fAd K a_Reader_start_function) (fdOf K (fAd K a_Reader_start_function)) := by
  obtain ⟨fd, F⟩ := T.c.fn_ (d := d_Reader_start_function) (List.mem_of_getElem? (i := 15) rfl)
  exact fd_eq F
theorem Tx.k_Reader_start_function (T : Tx P K mg) : PySem.W.keepIn K (.ref (fAd K a_Reader_start_function)) = true := T.f_Reader_start_function.kp
theorem Tx.b_Reader_start_function (T : Tx P K mg) : Binds K (fdOf K (fAd K a_Reader_start_function)) ["self"] [] := T.f_Reader_start_function.bindsN fun _ _ _ _ _ _ us hl => match us, hl with | [_], _ => rfl
theorem sc_Reader_start_function : FnScope (["self"] : List Str) ["self"] (defScope s_Reader_start_function) := ⟨rfl, rfl, rfl, by decide +kernel, rfl, by decide +kernel, by decide +kernel⟩
abbrev a_Reader_take_number : Str × Option Str := ("Reader", some "take_number")
theorem Tx.f_Reader_take_number (T : Tx P K mg) : FunD K "take_number" "Reader.take_number" (defArgs s_Reader_take_number) (defBody s_Reader_take_number) (defScope s_Reader_take_number) [] [] (fAd K a_Reader_take_number) (fdOf K (fAd K a_Reader_take_number)) := by
  obtain ⟨fd, F⟩ := T.c.fn_ (d := d_Reader_take_number) (List.mem_of_getElem? (i := 16) rfl)
  exact fd_eq F
theorem Tx.k_Reader_take_number (T : Tx P K mg) : PySem.W.keepIn K (.ref (fAd K a_Reader_take_number)) = true := T.f_Reader_take_number.kp
theorem Tx.b_Reader_take_number (T : Tx P K mg) : Binds K (fdOf K (fAd K a_Reader_take_number)) ["self"] [] := T.f_Reader_take_number.bindsN fun _ _ _ _ _ _ us hl => match us, hl with | [_], _ => rfl
theorem sc_Reader_take_number : FnScope (["self"] : List Str) ["self"] (defScope s_Reader_take_number) := ⟨rfl, rfl, rfl, by decide +kernel, rfl, by decide +kernel, by decide +kernel⟩
abbrev a_read_value : Str × Option Str := ("read_value", none)
theorem Tx.f_read_value (T : Tx P K mg) : FunD K "read_value" "read_value" (defArgs s_read_value) (defBody s_read_value) (defScope s_read_value) [] [] (fAd K a_read_value) (fdOf K (fAd K a_read_value)) := by
  obtain ⟨fd, F⟩ := T.c.fn_ (d := d_read_value) (List.mem_of_getElem? (i := 17) rfl)
  exact fd_eq F
theorem Tx.k_read_value (T : Tx P K mg) : PySem.W.keepIn K (.ref (fAd K a_read_value)) = true := T.f_read_value.kp
theorem Tx.b_read_value (T : Tx P K mg) : Binds K (fdOf K (fAd K a_read_value)) ["reader"] [] := T.f_read_value.bindsN fun _ _ _ _ _ _ us hl => match us, hl with | [_], _ => rfl
theorem sc_read_value : FnScope (["reader"] : List Str) ["reader"] (defScope s_read_value) := ⟨rfl, rfl, rfl, by decide +kernel, rfl, by decide +kernel, by decide +kernel⟩
abbrev a_read_field : Str × Option Str := ("read_field", none)
theorem Tx.f_read_field (T : Tx P K mg) : FunD K "read_field" "read_field" (defArgs s_read_field) (defBody s_read_field) (defScope s_read_field) [] [] (fAd K a_read_field) (fdOf K (fAd K a_read_field)) := by
  obtain ⟨fd, F⟩ := T.c.fn_ (d := d_read_field) (List.mem_of_getElem? (i := 18) rfl)
  exact fd_eq F
theorem Tx.k_read_field (T : Tx P K mg) : PySem.W.keepIn K (.ref (fAd K a_read_field)) = true := T.f_read_field.kp
theorem Tx.b_read_field (T : Tx P K mg) : Binds K (fdOf K (fAd K a_read_field)) ["reader"] [] := T.f_read_field.bindsN fun _ _ _ _ _ _ us hl => match us, hl with | [_], _ => rfl
theorem sc_read_field : FnScope (["reader", "at", "field"] : List Str) ["reader"] (defScope s_read_field) := ⟨rfl, rfl, rfl, by decide +kernel, rfl, by decide +kernel, by decide +kernel⟩
abbrev a_read_values : Str × Option Str := ("read_values", none)
theorem Tx.f_read_values (T : Tx P K mg) : FunD K "read_values" "read_values" (defArgs s_read_values) (defBody s_read_values) (defScope s_read_values) [] [] (fAd K a_read_values) (fdOf K (fAd K a_read_values)) := by
  obtain ⟨fd, F⟩ := T.c.fn_ (d := d_read_values) (List.mem_of_getElem? (i := 19) rfl)
  exact fd_eq F
theorem Tx.k_read_values (T : Tx P K mg) : PySem.W.keepIn K (.ref (fAd K a_read_values)) = true := T.f_read_values.kp
theorem Tx.b_read_values (T : Tx P K mg) : Binds K (fdOf K (fAd K a_read_values)) ["reader"] [] := T.f_read_values.bindsN fun _ _ _ _ _ _ us hl => match us, hl with | [_], _ => rfl
theorem sc_read_values : FnScope (["reader", "found"] : List Str) ["reader"] (defScope s_read_values) := ⟨rfl, rfl, rfl, by decide +kernel, rfl, by decide +kernel, by decide +kernel⟩
abbrev a_read_right : Str × Option Str := ("read_right", none)
theorem Tx.f_read_right (T : Tx P K mg) : FunD K "read_right" "read_right" (defArgs s_read_right) (defBody s_read_right) (defScope s_read_right) [] [] (fAd K a_read_right) (fdOf K (fAd K a_read_right)) := by
  obtain ⟨fd, F⟩ := T.c.fn_ (d := d_read_right) (List.mem_of_getElem? (i := 20) rfl)
  exact fd_eq F
theorem Tx.k_read_right (T : Tx P K mg) : PySem.W.keepIn K (.ref (fAd K a_read_right)) = true := T.f_read_right.kp
theorem Tx.b_read_right (T : Tx P K mg) : Binds K (fdOf K (fAd K a_read_right)) ["reader", "x", "number"] [] := T.f_read_right.bindsN fun _ _ _ _ _ _ us hl => match us, hl with | [_, _, _], _ => rfl
theorem sc_read_right : FnScope (["reader", "x", "number", "y"] : List Str) ["reader", "x", "number"] (defScope s_read_right) := ⟨rfl, rfl, rfl, by decide +kernel, rfl, by decide +kernel, by decide +kernel⟩
abbrev a_read_assignment : Str × Option Str := ("read_assignment", none)
theorem Tx.f_read_assignment (T : Tx P K mg) : FunD K "read_assignment" "read_assignment" (defArgs s_read_assignment) (defBody s_read_assignment) (defScope s_read_assignment) [] [] (fAd K a_read_assignment) (fdOf K (fAd K a_read_assignment)) := by
  obtain ⟨fd, F⟩ := T.c.fn_ (d := d_read_assignment) (List.mem_of_getElem? (i := 21) rfl)
  exact fd_eq F
theorem Tx.k_read_assignment (T : Tx P K mg) : PySem.W.keepIn K (.ref (fAd K a_read_assignment)) = true := T.f_read_assignment.kp
theorem Tx.b_read_assignment (T : Tx P K mg) : Binds K (fdOf K (fAd K a_read_assignment)) ["reader", "number"] [] := T.f_read_assignment.bindsN fun _ _ _ _ _ _ us hl => match us, hl with | [_, _], _ => rfl
theorem sc_read_assignment : FnScope (["reader", "number", "x", "field"] : List Str) ["reader", "number"] (defScope s_read_assignment) := ⟨rfl, rfl, rfl, by decide +kernel, rfl, by decide +kernel, by decide +kernel⟩
abbrev a_read_test : Str × Option Str := ("read_test", none)
theorem Tx.f_read_test (T : Tx P K mg) : FunD K "read_test" "read_test" (defArgs s_read_test) (defBody s_read_test) (defScope s_read_test) [] [] (fAd K a_read_test) (fdOf K (fAd K a_read_test)) := by
  obtain ⟨fd, F⟩ := T.c.fn_ (d := d_read_test) (List.mem_of_getElem? (i := 22) rfl)
  exact fd_eq F
theorem Tx.k_read_test (T : Tx P K mg) : PySem.W.keepIn K (.ref (fAd K a_read_test)) = true := T.f_read_test.kp
theorem Tx.b_read_test (T : Tx P K mg) : Binds K (fdOf K (fAd K a_read_test)) ["reader"] [] := T.f_read_test.bindsN fun _ _ _ _ _ _ us hl => match us, hl with | [_], _ => rfl
theorem sc_read_test : FnScope (["reader", "x"] : List Str) ["reader"] (defScope s_read_test) := ⟨rfl, rfl, rfl, by decide +kernel, rfl, by decide +kernel, by decide +kernel⟩
abbrev a_read_statement : Str × Option Str := ("read_statement", none)
theorem Tx.f_read_statement (T : Tx P K mg) : FunD K "read_statement" "read_statement" (defArgs s_read_statement) (defBody s_read_statement) (defScope s_read_statement) [] [] (fAd K a_read_statement) (fdOf K (fAd K a_read_statement)) := by
  obtain ⟨fd, F⟩ := T.c.fn_ (d := d_read_statement) (List.mem_of_getElem? (i := 23) rfl)
  exact fd_eq F
theorem Tx.k_read_statement (T : Tx P K mg) : PySem.W.keepIn K (.ref (fAd K a_read_statement)) = true := T.f_read_statement.kp
theorem Tx.b_read_statement (T : Tx P K mg) : Binds K (fdOf K (fAd K a_read_statement)) ["reader", "level"] [] := T.f_read_statement.bindsN fun _ _ _ _ _ _ us hl => match us, hl with | [_, _], _ => rfl
theorem sc_read_statement : FnScope (["reader", "level", "number", "test", "first", "second", "found"] : List Str) ["reader", "level"] (defScope s_read_statement) := ⟨rfl, rfl, rfl, by decide +kernel, rfl, by decide +kernel, by decide +kernel⟩
abbrev a_read_block : Str × Option Str := ("read_block", none)
theorem Tx.f_read_block (T : Tx P K mg) : FunD K "read_block" "read_block" (defArgs s_read_block) (defBody s_read_block) (defScope s_read_block) [] [] (fAd K a_read_block) (fdOf K (fAd K a_read_block)) := by
  obtain ⟨fd, F⟩ := T.c.fn_ (d := d_read_block) (List.mem_of_getElem? (i := 24) rfl)
  exact fd_eq F
theorem Tx.k_read_block (T : Tx P K mg) : PySem.W.keepIn K (.ref (fAd K a_read_block)) = true := T.f_read_block.kp
theorem Tx.b_read_block (T : Tx P K mg) : Binds K (fdOf K (fAd K a_read_block)) ["reader", "level"] [] := T.f_read_block.bindsN fun _ _ _ _ _ _ us hl => match us, hl with | [_, _], _ => rfl
theorem sc_read_block : FnScope (["reader", "level", "found"] : List Str) ["reader", "level"] (defScope s_read_block) := ⟨rfl, rfl, rfl, by decide +kernel, rfl, by decide +kernel, by decide +kernel⟩
abbrev a_read_function : Str × Option Str := ("read_function", none)
theorem Tx.f_read_function (T : Tx P K mg) : FunD K "read_function" "read_function" (defArgs s_read_function) (defBody s_read_function) (defScope s_read_function) [] [] (fAd K a_read_function) (fdOf K (fAd K a_read_function)) := by
  obtain ⟨fd, F⟩ := T.c.fn_ (d := d_read_function) (List.mem_of_getElem? (i := 25) rfl)
  exact fd_eq F
theorem Tx.k_read_function (T : Tx P K mg) : PySem.W.keepIn K (.ref (fAd K a_read_function)) = true := T.f_read_function.kp
theorem Tx.b_read_function (T : Tx P K mg) : Binds K (fdOf K (fAd K a_read_function)) ["reader"] [] := T.f_read_function.bindsN fun _ _ _ _ _ _ us hl => match us, hl with | [_], _ => rfl
theorem sc_read_function : FnScope (["reader", "name", "parameters"] : List Str) ["reader"] (defScope s_read_function) := ⟨rfl, rfl, rfl, by decide +kernel, rfl, by decide +kernel, by decide +kernel⟩
abbrev a_expect_word : Str × Option Str := ("expect_word", none)
theorem Tx.f_expect_word (T : Tx P K mg) : FunD K "expect_word" "expect_word" (defArgs s_expect_word) (defBody s_expect_word) (defScope s_expect_word) [] [] (fAd K a_expect_word) (fdOf K (fAd K a_expect_word)) := by
  obtain ⟨fd, F⟩ := T.c.fn_ (d := d_expect_word) (List.mem_of_getElem? (i := 26) rfl)
  exact fd_eq F
theorem Tx.k_expect_word (T : Tx P K mg) : PySem.W.keepIn K (.ref (fAd K a_expect_word)) = true := T.f_expect_word.kp
theorem Tx.b_expect_word (T : Tx P K mg) : Binds K (fdOf K (fAd K a_expect_word)) ["reader", "word"] [] := T.f_expect_word.bindsN fun _ _ _ _ _ _ us hl => match us, hl with | [_, _], _ => rfl
theorem sc_expect_word : FnScope (["reader", "word"] : List Str) ["reader", "word"] (defScope s_expect_word) := ⟨rfl, rfl, rfl, by decide +kernel, rfl, by decide +kernel, by decide +kernel⟩
abbrev a_parse : Str × Option Str := ("parse", none)
theorem Tx.f_parse (T : Tx P K mg) : FunD K "parse" "parse" (defArgs s_parse) (defBody s_parse) (defScope s_parse) [] [] (fAd K a_parse) (fdOf K (fAd K a_parse)) := by
  obtain ⟨fd, F⟩ := T.c.fn_ (d := d_parse) (List.mem_of_getElem? (i := 27) rfl)
  exact fd_eq F
theorem Tx.k_parse (T : Tx P K mg) : PySem.W.keepIn K (.ref (fAd K a_parse)) = true := T.f_parse.kp
theorem Tx.b_parse (T : Tx P K mg) : Binds K (fdOf K (fAd K a_parse)) ["text"] [] := T.f_parse.bindsN fun _ _ _ _ _ _ us hl => match us, hl with | [_], _ => rfl
theorem sc_parse : FnScope (["text", "reader", "items"] : List Str) ["text"] (defScope s_parse) := ⟨rfl, rfl, rfl, by decide +kernel, rfl, by decide +kernel, by decide +kernel⟩
abbrev a_statements : Str × Option Str := ("statements", none)
theorem Tx.f_statements (T : Tx P K mg) : FunD K "statements" "statements" (defArgs s_statements) (defBody s_statements) (defScope s_statements) [] [] (fAd K a_statements) (fdOf K (fAd K a_statements)) := by
  obtain ⟨fd, F⟩ := T.c.fn_ (d := d_statements) (List.mem_of_getElem? (i := 28) rfl)
  exact fd_eq F
theorem Tx.k_statements (T : Tx P K mg) : PySem.W.keepIn K (.ref (fAd K a_statements)) = true := T.f_statements.kp
theorem Tx.b_statements (T : Tx P K mg) : Binds K (fdOf K (fAd K a_statements)) ["block"] [] := T.f_statements.bindsN fun _ _ _ _ _ _ us hl => match us, hl with | [_], _ => rfl
theorem sc_statements : FnScope (["block", "found", "statement"] : List Str) ["block"] (defScope s_statements) := ⟨rfl, rfl, rfl, by decide +kernel, rfl, by decide +kernel, by decide +kernel⟩
abbrev a_locals_of : Str × Option Str := ("locals_of", none)
theorem Tx.f_locals_of (T : Tx P K mg) : FunD K "locals_of" "locals_of" (defArgs s_locals_of) (defBody s_locals_of) (defScope s_locals_of) [] [] (fAd K a_locals_of) (fdOf K (fAd K a_locals_of)) := by
  obtain ⟨fd, F⟩ := T.c.fn_ (d := d_locals_of) (List.mem_of_getElem? (i := 29) rfl)
  exact fd_eq F
theorem Tx.k_locals_of (T : Tx P K mg) : PySem.W.keepIn K (.ref (fAd K a_locals_of)) = true := T.f_locals_of.kp
theorem Tx.b_locals_of (T : Tx P K mg) : Binds K (fdOf K (fAd K a_locals_of)) ["program", "function"] [] := T.f_locals_of.bindsN fun _ _ _ _ _ _ us hl => match us, hl with | [_, _], _ => rfl
theorem sc_locals_of : FnScope (["program", "function", "found", "statement", "name"] : List Str) ["program", "function"] (defScope s_locals_of) := ⟨rfl, rfl, rfl, by decide +kernel, rfl, by decide +kernel, by decide +kernel⟩
abbrev a_value_names : Str × Option Str := ("value_names", none)
theorem Tx.f_value_names (T : Tx P K mg) : FunD K "value_names" "value_names" (defArgs s_value_names) (defBody s_value_names) (defScope s_value_names) [] [] (fAd K a_value_names) (fdOf K (fAd K a_value_names)) := by
  obtain ⟨fd, F⟩ := T.c.fn_ (d := d_value_names) (List.mem_of_getElem? (i := 30) rfl)
  exact fd_eq F
theorem Tx.k_value_names (T : Tx P K mg) : PySem.W.keepIn K (.ref (fAd K a_value_names)) = true := T.f_value_names.kp
theorem Tx.b_value_names (T : Tx P K mg) : Binds K (fdOf K (fAd K a_value_names)) ["value"] [] := T.f_value_names.bindsN fun _ _ _ _ _ _ us hl => match us, hl with | [_], _ => rfl
theorem sc_value_names : FnScope (["value"] : List Str) ["value"] (defScope s_value_names) := ⟨rfl, rfl, rfl, by decide +kernel, rfl, by decide +kernel, by decide +kernel⟩
abbrev a_test_names : Str × Option Str := ("test_names", none)
theorem Tx.f_test_names (T : Tx P K mg) : FunD K "test_names" "test_names" (defArgs s_test_names) (defBody s_test_names) (defScope s_test_names) [] [] (fAd K a_test_names) (fdOf K (fAd K a_test_names)) := by
  obtain ⟨fd, F⟩ := T.c.fn_ (d := d_test_names) (List.mem_of_getElem? (i := 31) rfl)
  exact fd_eq F
theorem Tx.k_test_names (T : Tx P K mg) : PySem.W.keepIn K (.ref (fAd K a_test_names)) = true := T.f_test_names.kp
theorem Tx.b_test_names (T : Tx P K mg) : Binds K (fdOf K (fAd K a_test_names)) ["test"] [] := T.f_test_names.bindsN fun _ _ _ _ _ _ us hl => match us, hl with | [_], _ => rfl
theorem sc_test_names : FnScope (["test"] : List Str) ["test"] (defScope s_test_names) := ⟨rfl, rfl, rfl, by decide +kernel, rfl, by decide +kernel, by decide +kernel⟩
abbrev a_used_names : Str × Option Str := ("used_names", none)
theorem Tx.f_used_names (T : Tx P K mg) : FunD K "used_names" "used_names" (defArgs s_used_names) (defBody s_used_names) (defScope s_used_names) [] [] (fAd K a_used_names) (fdOf K (fAd K a_used_names)) := by
  obtain ⟨fd, F⟩ := T.c.fn_ (d := d_used_names) (List.mem_of_getElem? (i := 32) rfl)
  exact fd_eq F
theorem Tx.k_used_names (T : Tx P K mg) : PySem.W.keepIn K (.ref (fAd K a_used_names)) = true := T.f_used_names.kp
theorem Tx.b_used_names (T : Tx P K mg) : Binds K (fdOf K (fAd K a_used_names)) ["statement"] [] := T.f_used_names.bindsN fun _ _ _ _ _ _ us hl => match us, hl with | [_], _ => rfl
theorem sc_used_names : FnScope (["statement", "head", "found", "value"] : List Str) ["statement"] (defScope s_used_names) := ⟨rfl, rfl, rfl, by decide +kernel, rfl, by decide +kernel, by decide +kernel⟩
abbrev a_Program___init__ : Str × Option Str := ("Program", some "__init__")
theorem Tx.f_Program___init__ (T : Tx P K mg) : FunD K "__init__" "Program.__init__" (defArgs s_Program___init__) (defBody s_Program___init__) (defScope s_Program___init__) [] [] (fAd K a_Program___init__) (fdOf K (fAd K a_Program___init__)) := by
  obtain ⟨fd, F⟩ := T.c.fn_ (d := d_Program___init__) (List.mem_of_getElem? (i := 33) rfl)
  exact fd_eq F
theorem Tx.k_Program___init__ (T : Tx P K mg) : PySem.W.keepIn K (.ref (fAd K a_Program___init__)) = true := T.f_Program___init__.kp
theorem Tx.b_Program___init__ (T : Tx P K mg) : Binds K (fdOf K (fAd K a_Program___init__)) ["self"] [] := T.f_Program___init__.bindsN fun _ _ _ _ _ _ us hl => match us, hl with | [_], _ => rfl
theorem sc_Program___init__ : FnScope (["self"] : List Str) ["self"] (defScope s_Program___init__) := ⟨rfl, rfl, rfl, by decide +kernel, rfl, by decide +kernel, by decide +kernel⟩
abbrev a_Program_add_global : Str × Option Str := ("Program", some "add_global")
theorem Tx.f_Program_add_global (T : Tx P K mg) : FunD K "add_global" "Program.add_global" (defArgs s_Program_add_global) (defBody s_Program_add_global) (defScope s_Program_add_global) [] [] (fAd K a_Program_add_global) (fdOf K (fAd K a_Program_add_global)) := by
  obtain ⟨fd, F⟩ := T.c.fn_ (d := d_Program_add_global) (List.mem_of_getElem? (i := 34) rfl)
  exact fd_eq F
theorem Tx.k_Program_add_global (T : Tx P K mg) : PySem.W.keepIn K (.ref (fAd K a_Program_add_global)) = true := T.f_Program_add_global.kp
theorem Tx.b_Program_add_global (T : Tx P K mg) : Binds K (fdOf K (fAd K a_Program_add_global)) ["self", "name"] [] := T.f_Program_add_global.bindsN fun _ _ _ _ _ _ us hl => match us, hl with | [_, _], _ => rfl
theorem sc_Program_add_global : FnScope (["self", "name"] : List Str) ["self", "name"] (defScope s_Program_add_global) := ⟨rfl, rfl, rfl, by decide +kernel, rfl, by decide +kernel, by decide +kernel⟩
abbrev a_Program_add_function : Str × Option Str := ("Program", some "add_function")
theorem Tx.f_Program_add_function (T : Tx P K mg) : FunD K "add_function" "Program.add_function" (defArgs s_Program_add_function) (defBody s_Program_add_function) (defScope s_Program_add_function) [] [] (fAd K a_Program_add_function) (fdOf K (fAd K a_Program_add_function)) := by
  obtain ⟨fd, F⟩ := T.c.fn_ (d := d_Program_add_function) (List.mem_of_getElem? (i := 35) rfl)
  exact fd_eq F
theorem Tx.k_Program_add_function (T : Tx P K mg) : PySem.W.keepIn K (.ref (fAd K a_Program_add_function)) = true := T.f_Program_add_function.kp
theorem Tx.b_Program_add_function (T : Tx P K mg) : Binds K (fdOf K (fAd K a_Program_add_function)) ["self", "function"] [] := T.f_Program_add_function.bindsN fun _ _ _ _ _ _ us hl => match us, hl with | [_, _], _ => rfl
theorem sc_Program_add_function : FnScope (["self", "function"] : List Str) ["self", "function"] (defScope s_Program_add_function) := ⟨rfl, rfl, rfl, by decide +kernel, rfl, by decide +kernel, by decide +kernel⟩
abbrev a_Program_replaced : Str × Option Str := ("Program", some "replaced")
theorem Tx.f_Program_replaced (T : Tx P K mg) : FunD K "replaced" "Program.replaced" (defArgs s_Program_replaced) (defBody s_Program_replaced) (defScope s_Program_replaced) [] [] (fAd K a_Program_replaced) (fdOf K (fAd K a_Program_replaced)) := by
  obtain ⟨fd, F⟩ := T.c.fn_ (d := d_Program_replaced) (List.mem_of_getElem? (i := 36) rfl)
  exact fd_eq F
theorem Tx.k_Program_replaced (T : Tx P K mg) : PySem.W.keepIn K (.ref (fAd K a_Program_replaced)) = true := T.f_Program_replaced.kp
theorem Tx.b_Program_replaced (T : Tx P K mg) : Binds K (fdOf K (fAd K a_Program_replaced)) ["self", "function"] [] := T.f_Program_replaced.bindsN fun _ _ _ _ _ _ us hl => match us, hl with | [_, _], _ => rfl
theorem sc_Program_replaced : FnScope (["self", "function"] : List Str) ["self", "function"] (defScope s_Program_replaced) := ⟨rfl, rfl, rfl, by decide +kernel, rfl, by decide +kernel, by decide +kernel⟩
abbrev a_Program_function : Str × Option Str := ("Program", some "function")
theorem Tx.f_Program_function (T : Tx P K mg) : FunD K "function" "Program.function" (defArgs s_Program_function) (defBody s_Program_function) (defScope s_Program_function) [] [] (fAd K a_Program_function) (fdOf K (fAd K a_Program_function)) := by
  obtain ⟨fd, F⟩ := T.c.fn_ (d := d_Program_function) (List.mem_of_getElem? (i := 37) rfl)
  exact fd_eq F
theorem Tx.k_Program_function (T : Tx P K mg) : PySem.W.keepIn K (.ref (fAd K a_Program_function)) = true := T.f_Program_function.kp
theorem Tx.b_Program_function (T : Tx P K mg) : Binds K (fdOf K (fAd K a_Program_function)) ["self", "name"] [] := T.f_Program_function.bindsN fun _ _ _ _ _ _ us hl => match us, hl with | [_, _], _ => rfl
theorem sc_Program_function : FnScope (["self", "name"] : List Str) ["self", "name"] (defScope s_Program_function) := ⟨rfl, rfl, rfl, by decide +kernel, rfl, by decide +kernel, by decide +kernel⟩
abbrev a_Program_has_global : Str × Option Str := ("Program", some "has_global")
theorem Tx.f_Program_has_global (T : Tx P K mg) : FunD K "has_global" "Program.has_global" (defArgs s_Program_has_global) (defBody s_Program_has_global) (defScope s_Program_has_global) [] [] (fAd K a_Program_has_global) (fdOf K (fAd K a_Program_has_global)) := by
  obtain ⟨fd, F⟩ := T.c.fn_ (d := d_Program_has_global) (List.mem_of_getElem? (i := 38) rfl)
  exact fd_eq F
theorem Tx.k_Program_has_global (T : Tx P K mg) : PySem.W.keepIn K (.ref (fAd K a_Program_has_global)) = true := T.f_Program_has_global.kp
theorem Tx.b_Program_has_global (T : Tx P K mg) : Binds K (fdOf K (fAd K a_Program_has_global)) ["self", "name"] [] := T.f_Program_has_global.bindsN fun _ _ _ _ _ _ us hl => match us, hl with | [_, _], _ => rfl
theorem sc_Program_has_global : FnScope (["self", "name"] : List Str) ["self", "name"] (defScope s_Program_has_global) := ⟨rfl, rfl, rfl, by decide +kernel, rfl, by decide +kernel, by decide +kernel⟩
abbrev a_Program_globals_list : Str × Option Str := ("Program", some "globals_list")
theorem Tx.f_Program_globals_list (T : Tx P K mg) : FunD K "globals_list" "Program.globals_list" (defArgs s_Program_globals_list) (defBody s_Program_globals_list) (defScope s_Program_globals_list) [] [] (fAd K a_Program_globals_list) (fdOf K (fAd K a_Program_globals_list)) := by
  obtain ⟨fd, F⟩ := T.c.fn_ (d := d_Program_globals_list) (List.mem_of_getElem? (i := 39) rfl)
  exact fd_eq F
theorem Tx.k_Program_globals_list (T : Tx P K mg) : PySem.W.keepIn K (.ref (fAd K a_Program_globals_list)) = true := T.f_Program_globals_list.kp
theorem Tx.b_Program_globals_list (T : Tx P K mg) : Binds K (fdOf K (fAd K a_Program_globals_list)) ["self"] [] := T.f_Program_globals_list.bindsN fun _ _ _ _ _ _ us hl => match us, hl with | [_], _ => rfl
theorem sc_Program_globals_list : FnScope (["self"] : List Str) ["self"] (defScope s_Program_globals_list) := ⟨rfl, rfl, rfl, by decide +kernel, rfl, by decide +kernel, by decide +kernel⟩
abbrev a_Program_functions : Str × Option Str := ("Program", some "functions")
theorem Tx.f_Program_functions (T : Tx P K mg) : FunD K "functions" "Program.functions" (defArgs s_Program_functions) (defBody s_Program_functions) (defScope s_Program_functions) [] [] (fAd K a_Program_functions) (fdOf K (fAd K a_Program_functions)) := by
  obtain ⟨fd, F⟩ := T.c.fn_ (d := d_Program_functions) (List.mem_of_getElem? (i := 40) rfl)
  exact fd_eq F
theorem Tx.k_Program_functions (T : Tx P K mg) : PySem.W.keepIn K (.ref (fAd K a_Program_functions)) = true := T.f_Program_functions.kp
theorem Tx.b_Program_functions (T : Tx P K mg) : Binds K (fdOf K (fAd K a_Program_functions)) ["self"] [] := T.f_Program_functions.bindsN fun _ _ _ _ _ _ us hl => match us, hl with | [_], _ => rfl
theorem sc_Program_functions : FnScope (["self", "name"] : List Str) ["self"] (defScope s_Program_functions) := ⟨rfl, rfl, rfl, by decide +kernel, rfl, by decide +kernel, by decide +kernel⟩
abbrev a_Program_check : Str × Option Str := ("Program", some "check")
theorem Tx.f_Program_check (T : Tx P K mg) : FunD K "check" "Program.check" (defArgs s_Program_check) (defBody s_Program_check) (defScope s_Program_check) [] [] (fAd K a_Program_check) (fdOf K (fAd K a_Program_check)) := by
  obtain ⟨fd, F⟩ := T.c.fn_ (d := d_Program_check) (List.mem_of_getElem? (i := 41) rfl)
  exact fd_eq F
theorem Tx.k_Program_check (T : Tx P K mg) : PySem.W.keepIn K (.ref (fAd K a_Program_check)) = true := T.f_Program_check.kp
theorem Tx.b_Program_check (T : Tx P K mg) : Binds K (fdOf K (fAd K a_Program_check)) ["self"] [] := T.f_Program_check.bindsN fun _ _ _ _ _ _ us hl => match us, hl with | [_], _ => rfl
theorem sc_Program_check : FnScope (["self", "function"] : List Str) ["self"] (defScope s_Program_check) := ⟨rfl, rfl, rfl, by decide +kernel, rfl, by decide +kernel, by decide +kernel⟩
abbrev a_check_call : Str × Option Str := ("check_call", none)
theorem Tx.f_check_call (T : Tx P K mg) : FunD K "check_call" "check_call" (defArgs s_check_call) (defBody s_check_call) (defScope s_check_call) [] [] (fAd K a_check_call) (fdOf K (fAd K a_check_call)) := by
  obtain ⟨fd, F⟩ := T.c.fn_ (d := d_check_call) (List.mem_of_getElem? (i := 42) rfl)
  exact fd_eq F
theorem Tx.k_check_call (T : Tx P K mg) : PySem.W.keepIn K (.ref (fAd K a_check_call)) = true := T.f_check_call.kp
theorem Tx.b_check_call (T : Tx P K mg) : Binds K (fdOf K (fAd K a_check_call)) ["program", "statement"] [] := T.f_check_call.bindsN fun _ _ _ _ _ _ us hl => match us, hl with | [_, _], _ => rfl
theorem sc_check_call : FnScope (["program", "statement", "function"] : List Str) ["program", "statement"] (defScope s_check_call) := ⟨rfl, rfl, rfl, by decide +kernel, rfl, by decide +kernel, by decide +kernel⟩
abbrev a_check_function : Str × Option Str := ("check_function", none)
theorem Tx.f_check_function (T : Tx P K mg) : FunD K "check_function" "check_function" (defArgs s_check_function) (defBody s_check_function) (defScope s_check_function) [] [] (fAd K a_check_function) (fdOf K (fAd K a_check_function)) := by
  obtain ⟨fd, F⟩ := T.c.fn_ (d := d_check_function) (List.mem_of_getElem? (i := 43) rfl)
  exact fd_eq F
theorem Tx.k_check_function (T : Tx P K mg) : PySem.W.keepIn K (.ref (fAd K a_check_function)) = true := T.f_check_function.kp
theorem Tx.b_check_function (T : Tx P K mg) : Binds K (fdOf K (fAd K a_check_function)) ["program", "function"] [] := T.f_check_function.bindsN fun _ _ _ _ _ _ us hl => match us, hl with | [_, _], _ => rfl
theorem sc_check_function : FnScope (["program", "function", "parameters", "index", "known", "statement", "name"] : List Str) ["program", "function"] (defScope s_check_function) := ⟨rfl, rfl, rfl, by decide +kernel, rfl, by decide +kernel, by decide +kernel⟩
abbrev a_program_of : Str × Option Str := ("program_of", none)
theorem Tx.f_program_of (T : Tx P K mg) : FunD K "program_of" "program_of" (defArgs s_program_of) (defBody s_program_of) (defScope s_program_of) [] [] (fAd K a_program_of) (fdOf K (fAd K a_program_of)) := by
  obtain ⟨fd, F⟩ := T.c.fn_ (d := d_program_of) (List.mem_of_getElem? (i := 44) rfl)
  exact fd_eq F
theorem Tx.k_program_of (T : Tx P K mg) : PySem.W.keepIn K (.ref (fAd K a_program_of)) = true := T.f_program_of.kp
theorem Tx.b_program_of (T : Tx P K mg) : Binds K (fdOf K (fAd K a_program_of)) ["text"] [] := T.f_program_of.bindsN fun _ _ _ _ _ _ us hl => match us, hl with | [_], _ => rfl
theorem sc_program_of : FnScope (["text", "program", "item"] : List Str) ["text"] (defScope s_program_of) := ⟨rfl, rfl, rfl, by decide +kernel, rfl, by decide +kernel, by decide +kernel⟩
abbrev a__law_draw : Str × Option Str := ("_law_draw", none)
theorem Tx.f__law_draw (T : Tx P K mg) : FunD K "_law_draw" "_law_draw" (defArgs s__law_draw) (defBody s__law_draw) (defScope s__law_draw) [] [] (fAd K a__law_draw) (fdOf K (fAd K a__law_draw)) := by
  obtain ⟨fd, F⟩ := T.c.fn_ (d := d__law_draw) (List.mem_of_getElem? (i := 45) rfl)
  exact fd_eq F
theorem Tx.k__law_draw (T : Tx P K mg) : PySem.W.keepIn K (.ref (fAd K a__law_draw)) = true := T.f__law_draw.kp
theorem Tx.b__law_draw (T : Tx P K mg) : Binds K (fdOf K (fAd K a__law_draw)) ["state", "many"] [] := T.f__law_draw.bindsN fun _ _ _ _ _ _ us hl => match us, hl with | [_, _], _ => rfl
theorem sc__law_draw : FnScope (["state", "many", "place", "cell", "one", "two", "taken"] : List Str) ["state", "many"] (defScope s__law_draw) := ⟨rfl, rfl, rfl, by decide +kernel, rfl, by decide +kernel, by decide +kernel⟩
abbrev a__law_names : Str × Option Str := ("_law_names", none)
theorem Tx.f__law_names (T : Tx P K mg) : FunD K "_law_names" "_law_names" (defArgs s__law_names) (defBody s__law_names) (defScope s__law_names) [] [] (fAd K a__law_names) (fdOf K (fAd K a__law_names)) := by
  obtain ⟨fd, F⟩ := T.c.fn_ (d := d__law_names) (List.mem_of_getElem? (i := 46) rfl)
  exact fd_eq F
theorem Tx.k__law_names (T : Tx P K mg) : PySem.W.keepIn K (.ref (fAd K a__law_names)) = true := T.f__law_names.kp
theorem Tx.b__law_names (T : Tx P K mg) : Binds K (fdOf K (fAd K a__law_names)) ["state", "many"] [] := T.f__law_names.bindsN fun _ _ _ _ _ _ us hl => match us, hl with | [_, _], _ => rfl
theorem sc__law_names : FnScope (["state", "many", "k"] : List Str) ["state", "many"] (defScope s__law_names) := ⟨rfl, rfl, rfl, by decide +kernel, rfl, by decide +kernel, by decide +kernel⟩
abbrev a__law_statement : Str × Option Str := ("_law_statement", none)
theorem Tx.f__law_statement (T : Tx P K mg) : FunD K "_law_statement" "_law_statement" (defArgs s__law_statement) (defBody s__law_statement) (defScope s__law_statement) [] [] (fAd K a__law_statement) (fdOf K (fAd K a__law_statement)) := by
  obtain ⟨fd, F⟩ := T.c.fn_ (d := d__law_statement) (List.mem_of_getElem? (i := 47) rfl)
  exact fd_eq F
theorem Tx.k__law_statement (T : Tx P K mg) : PySem.W.keepIn K (.ref (fAd K a__law_statement)) = true := T.f__law_statement.kp
theorem Tx.b__law_statement (T : Tx P K mg) : Binds K (fdOf K (fAd K a__law_statement)) ["state", "heads", "number"] [] := T.f__law_statement.bindsN fun _ _ _ _ _ _ us hl => match us, hl with | [_, _, _], _ => rfl
theorem sc__law_statement : FnScope (["state", "heads", "number", "kind", "x", "v", "name", "count", "values", "k", "one"] : List Str) ["state", "heads", "number"] (defScope s__law_statement) := ⟨rfl, rfl, rfl, by decide +kernel, rfl, by decide +kernel, by decide +kernel⟩
abbrev a__law_function : Str × Option Str := ("_law_function", none)
theorem Tx.f__law_function (T : Tx P K mg) : FunD K "_law_function" "_law_function" (defArgs s__law_function) (defBody s__law_function) (defScope s__law_function) [] [] (fAd K a__law_function) (fdOf K (fAd K a__law_function)) := by
  obtain ⟨fd, F⟩ := T.c.fn_ (d := d__law_function) (List.mem_of_getElem? (i := 48) rfl)
  exact fd_eq F
theorem Tx.k__law_function (T : Tx P K mg) : PySem.W.keepIn K (.ref (fAd K a__law_function)) = true := T.f__law_function.kp
theorem Tx.b__law_function (T : Tx P K mg) : Binds K (fdOf K (fAd K a__law_function)) ["state", "name", "count", "heads"] [] := T.f__law_function.bindsN fun _ _ _ _ _ _ us hl => match us, hl with | [_, _, _, _], _ => rfl
theorem sc__law_function : FnScope (["state", "name", "count", "heads", "parameters", "texts", "rows", "number", "text", "row"] : List Str) ["state", "name", "count", "heads"] (defScope s__law_function) := ⟨rfl, rfl, rfl, by decide +kernel, rfl, by decide +kernel, by decide +kernel⟩
abbrev a__law_first_twice : Str × Option Str := ("_law_first_twice", none)
theorem Tx.f__law_first_twice (T : Tx P K mg) : FunD K "_law_first_twice" "_law_first_twice" (defArgs s__law_first_twice) (defBody s__law_first_twice) (defScope s__law_first_twice) [] [] (fAd K a__law_first_twice) (fdOf K (fAd K a__law_first_twice)) := by
  obtain ⟨fd, F⟩ := T.c.fn_ (d := d__law_first_twice) (List.mem_of_getElem? (i := 49) rfl)
  exact fd_eq F
theorem Tx.k__law_first_twice (T : Tx P K mg) : PySem.W.keepIn K (.ref (fAd K a__law_first_twice)) = true := T.f__law_first_twice.kp
theorem Tx.b__law_first_twice (T : Tx P K mg) : Binds K (fdOf K (fAd K a__law_first_twice)) ["names"] [] := T.f__law_first_twice.bindsN fun _ _ _ _ _ _ us hl => match us, hl with | [_], _ => rfl
theorem sc__law_first_twice : FnScope (["names", "k"] : List Str) ["names"] (defScope s__law_first_twice) := ⟨rfl, rfl, rfl, by decide +kernel, rfl, by decide +kernel, by decide +kernel⟩
abbrev a__law_row_fault : Str × Option Str := ("_law_row_fault", none)
theorem Tx.f__law_row_fault (T : Tx P K mg) : FunD K "_law_row_fault" "_law_row_fault" (defArgs s__law_row_fault) (defBody s__law_row_fault) (defScope s__law_row_fault) [] [] (fAd K a__law_row_fault) (fdOf K (fAd K a__law_row_fault)) := by
  obtain ⟨fd, F⟩ := T.c.fn_ (d := d__law_row_fault) (List.mem_of_getElem? (i := 50) rfl)
  exact fd_eq F
theorem Tx.k__law_row_fault (T : Tx P K mg) : PySem.W.keepIn K (.ref (fAd K a__law_row_fault)) = true := T.f__law_row_fault.kp
theorem Tx.b__law_row_fault (T : Tx P K mg) : Binds K (fdOf K (fAd K a__law_row_fault)) ["row", "known", "counts"] [] := T.f__law_row_fault.bindsN fun _ _ _ _ _ _ us hl => match us, hl with | [_, _, _], _ => rfl
theorem sc__law_row_fault : FnScope (["row", "known", "counts", "used", "name", "value"] : List Str) ["row", "known", "counts"] (defScope s__law_row_fault) := ⟨rfl, rfl, rfl, by decide +kernel, rfl, by decide +kernel, by decide +kernel⟩
abbrev a__law_fault : Str × Option Str := ("_law_fault", none)
theorem Tx.f__law_fault (T : Tx P K mg) : FunD K "_law_fault" "_law_fault" (defArgs s__law_fault) (defBody s__law_fault) (defScope s__law_fault) [] [] (fAd K a__law_fault) (fdOf K (fAd K a__law_fault)) := by
  obtain ⟨fd, F⟩ := T.c.fn_ (d := d__law_fault) (List.mem_of_getElem? (i := 51) rfl)
  exact fd_eq F
theorem Tx.k__law_fault (T : Tx P K mg) : PySem.W.keepIn K (.ref (fAd K a__law_fault)) = true := T.f__law_fault.kp
theorem Tx.b__law_fault (T : Tx P K mg) : Binds K (fdOf K (fAd K a__law_fault)) ["items"] [] := T.f__law_fault.bindsN fun _ _ _ _ _ _ us hl => match us, hl with | [_], _ => rfl
theorem sc__law_fault : FnScope (["items", "shared", "functions", "kind", "thing", "counts", "one", "name", "parameters", "rows", "known", "row", "fault"] : List Str) ["items"] (defScope s__law_fault) := ⟨rfl, rfl, rfl, by decide +kernel, rfl, by decide +kernel, by decide +kernel⟩
abbrev a__law_told : Str × Option Str := ("_law_told", none)
theorem Tx.f__law_told (T : Tx P K mg) : FunD K "_law_told" "_law_told" (defArgs s__law_told) (defBody s__law_told) (defScope s__law_told) [] [] (fAd K a__law_told) (fdOf K (fAd K a__law_told)) := by
  obtain ⟨fd, F⟩ := T.c.fn_ (d := d__law_told) (List.mem_of_getElem? (i := 52) rfl)
  exact fd_eq F
theorem Tx.k__law_told (T : Tx P K mg) : PySem.W.keepIn K (.ref (fAd K a__law_told)) = true := T.f__law_told.kp
theorem Tx.b__law_told (T : Tx P K mg) : Binds K (fdOf K (fAd K a__law_told)) ["text", "name"] [] := T.f__law_told.bindsN fun _ _ _ _ _ _ us hl => match us, hl with | [_, _], _ => rfl
theorem sc__law_told : FnScope (["text", "name", "program", "e"] : List Str) ["text", "name"] (defScope s__law_told) := ⟨rfl, rfl, rfl, by decide +kernel, rfl, by decide +kernel, by decide +kernel⟩
abbrev a_law : Str × Option Str := ("law", none)
theorem Tx.f_law (T : Tx P K mg) : FunD K "law" "law" (defArgs s_law) (defBody s_law) (defScope s_law) [] [] (fAd K a_law) (fdOf K (fAd K a_law)) := by
  obtain ⟨fd, F⟩ := T.c.fn_ (d := d_law) (List.mem_of_getElem? (i := 53) rfl)
  exact fd_eq F
theorem Tx.k_law (T : Tx P K mg) : PySem.W.keepIn K (.ref (fAd K a_law)) = true := T.f_law.kp
theorem Tx.b_law (T : Tx P K mg) : Binds K (fdOf K (fAd K a_law)) ["script"] [] := T.f_law.bindsN fun _ _ _ _ _ _ us hl => match us, hl with | [_], _ => rfl
theorem sc_law : FnScope (["script", "state", "heads", "texts", "items", "k", "name", "count", "text", "function", "due", "cut", "front", "place", "token", "spoilt", "short", "one"] : List Str) ["script"] (defScope s_law) := ⟨rfl, rfl, rfl, by decide +kernel, rfl, by decide +kernel, by decide +kernel⟩
theorem Tx.c_Reader (T : Tx P K mg) : Cls K (ga K "Reader") := cls_ok (T.c.fact (List.mem_of_getElem? (i := 61) rfl))
theorem Tx.c_Program (T : Tx P K mg) : Cls K (ga K "Program") := cls_ok (T.c.fact (List.mem_of_getElem? (i := 75) rfl))
theorem Tx.mk_Reader (T : Tx P K mg) : Mk K (ga K "Reader") (fAd K ("Reader", some "__init__")) := mkr_ok (T.c.fact (List.mem_of_getElem? (i := 62) rfl))
theorem Tx.mk_Program (T : Tx P K mg) : Mk K (ga K "Program") (fAd K ("Program", some "__init__")) := mkr_ok (T.c.fact (List.mem_of_getElem? (i := 76) rfl))
theorem Tx.m_Reader_place (T : Tx P K mg) : Meth K (ga K "Reader") "place" (fAd K a_Reader_place) := meth_ok (T.c.fact (List.mem_of_getElem? (i := 63) rfl))
theorem Tx.m_Reader_peek (T : Tx P K mg) : Meth K (ga K "Reader") "peek" (fAd K a_Reader_peek) := meth_ok (T.c.fact (List.mem_of_getElem? (i := 64) rfl))
theorem Tx.m_Reader_accept (T : Tx P K mg) : Meth K (ga K "Reader") "accept" (fAd K a_Reader_accept) := meth_ok (T.c.fact (List.mem_of_getElem? (i := 65) rfl))
theorem Tx.m_Reader_expect (T : Tx P K mg) : Meth K (ga K "Reader") "expect" (fAd K a_Reader_expect) := meth_ok (T.c.fact (List.mem_of_getElem? (i := 66) rfl))
theorem Tx.m_Reader_read (T : Tx P K mg) : Meth K (ga K "Reader") "read" (fAd K a_Reader_read) := meth_ok (T.c.fact (List.mem_of_getElem? (i := 67) rfl))
theorem Tx.m_Reader_at_end (T : Tx P K mg) : Meth K (ga K "Reader") "at_end" (fAd K a_Reader_at_end) := meth_ok (T.c.fact (List.mem_of_getElem? (i := 68) rfl))
theorem Tx.m_Reader_start_function (T : Tx P K mg) : Meth K (ga K "Reader") "start_function" (fAd K a_Reader_start_function) := meth_ok (T.c.fact (List.mem_of_getElem? (i := 69) rfl))
theorem Tx.m_Reader_take_number (T : Tx P K mg) : Meth K (ga K "Reader") "take_number" (fAd K a_Reader_take_number) := meth_ok (T.c.fact (List.mem_of_getElem? (i := 70) rfl))
theorem Tx.m_Program_add_global (T : Tx P K mg) : Meth K (ga K "Program") "add_global" (fAd K a_Program_add_global) := meth_ok (T.c.fact (List.mem_of_getElem? (i := 77) rfl))
theorem Tx.m_Program_add_function (T : Tx P K mg) : Meth K (ga K "Program") "add_function" (fAd K a_Program_add_function) := meth_ok (T.c.fact (List.mem_of_getElem? (i := 78) rfl))
theorem Tx.m_Program_replaced (T : Tx P K mg) : Meth K (ga K "Program") "replaced" (fAd K a_Program_replaced) := meth_ok (T.c.fact (List.mem_of_getElem? (i := 79) rfl))
theorem Tx.m_Program_function (T : Tx P K mg) : Meth K (ga K "Program") "function" (fAd K a_Program_function) := meth_ok (T.c.fact (List.mem_of_getElem? (i := 80) rfl))
theorem Tx.m_Program_has_global (T : Tx P K mg) : Meth K (ga K "Program") "has_global" (fAd K a_Program_has_global) := meth_ok (T.c.fact (List.mem_of_getElem? (i := 81) rfl))
theorem Tx.m_Program_globals_list (T : Tx P K mg) : Meth K (ga K "Program") "globals_list" (fAd K a_Program_globals_list) := meth_ok (T.c.fact (List.mem_of_getElem? (i := 82) rfl))
theorem Tx.m_Program_functions (T : Tx P K mg) : Meth K (ga K "Program") "functions" (fAd K a_Program_functions) := meth_ok (T.c.fact (List.mem_of_getElem? (i := 83) rfl))
theorem Tx.m_Program_check (T : Tx P K mg) : Meth K (ga K "Program") "check" (fAd K a_Program_check) := meth_ok (T.c.fact (List.mem_of_getElem? (i := 84) rfl))
theorem Tx.na_Reader_tokens (T : Tx P K mg) : NoAttr K (ga K "Reader") "_tokens" := noat_ok (T.c.fact (List.mem_of_getElem? (i := 71) rfl))
theorem Tx.na_Reader_next (T : Tx P K mg) : NoAttr K (ga K "Reader") "_next" := noat_ok (T.c.fact (List.mem_of_getElem? (i := 72) rfl))
theorem Tx.na_Reader_end (T : Tx P K mg) : NoAttr K (ga K "Reader") "_end" := noat_ok (T.c.fact (List.mem_of_getElem? (i := 73) rfl))
theorem Tx.na_Reader_number (T : Tx P K mg) : NoAttr K (ga K "Reader") "_number" := noat_ok (T.c.fact (List.mem_of_getElem? (i := 74) rfl))
theorem Tx.na_Program_globals (T : Tx P K mg) : NoAttr K (ga K "Program") "_globals" := noat_ok (T.c.fact (List.mem_of_getElem? (i := 85) rfl))
theorem Tx.na_Program_functions (T : Tx P K mg) : NoAttr K (ga K "Program") "_functions" := noat_ok (T.c.fact (List.mem_of_getElem? (i := 86) rfl))
theorem Tx.x_Malformed (T : Tx P K mg) : PySem.SXE.SxTxt P K (ga K "Malformed") (ma K (ga K "Malformed") "__init__") "Malformed.__init__" "at" := T.c.xc (d := xd_Malformed) (List.mem_of_getElem? (i := 0) rfl) (T.ok xd_Malformed (List.mem_of_getElem? (i := 0) rfl))
theorem Tx.x_Unknown (T : Tx P K mg) : PySem.SXE.SxTxt P K (ga K "Unknown") (ma K (ga K "Unknown") "__init__") "Unknown.__init__" "name" := T.c.xc (d := xd_Unknown) (List.mem_of_getElem? (i := 1) rfl) (T.ok xd_Unknown (List.mem_of_getElem? (i := 1) rfl))
theorem Tx.x_Clashing (T : Tx P K mg) : PySem.SXE.SxTxt P K (ga K "Clashing") (ma K (ga K "Clashing") "__init__") "Clashing.__init__" "name" := T.c.xc (d := xd_Clashing) (List.mem_of_getElem? (i := 2) rfl) (T.ok xd_Clashing (List.mem_of_getElem? (i := 2) rfl))
theorem Tx.x_Oversized (T : Tx P K mg) : PySem.SXE.SxTxt P K (ga K "Oversized") (ma K (ga K "Oversized") "__init__") "Oversized.__init__" "limit" := T.c.xc (d := xd_Oversized) (List.mem_of_getElem? (i := 3) rfl) (T.ok xd_Oversized (List.mem_of_getElem? (i := 3) rfl))
theorem Tx.x_Misused (T : Tx P K mg) : PySem.SXE.SxTxt P K (ga K "Misused") (ma K (ga K "Misused") "__init__") "Misused.__init__" "why" := T.c.xc (d := xd_Misused) (List.mem_of_getElem? (i := 4) rfl) (T.ok xd_Misused (List.mem_of_getElem? (i := 4) rfl))
theorem Tx.xm_Malformed_Refused (T : Tx P K mg) : PySem.W.exmOne K (.ref (ga K "Malformed")) (.ref (ga K "Refused")) = some true := exm_ok (T.c.fact (List.mem_of_getElem? (i := 87) rfl))
theorem Tx.xm_Unknown_Refused (T : Tx P K mg) : PySem.W.exmOne K (.ref (ga K "Unknown")) (.ref (ga K "Refused")) = some true := exm_ok (T.c.fact (List.mem_of_getElem? (i := 88) rfl))
theorem Tx.xm_Clashing_Refused (T : Tx P K mg) : PySem.W.exmOne K (.ref (ga K "Clashing")) (.ref (ga K "Refused")) = some true := exm_ok (T.c.fact (List.mem_of_getElem? (i := 89) rfl))
theorem Tx.xm_Oversized_Refused (T : Tx P K mg) : PySem.W.exmOne K (.ref (ga K "Oversized")) (.ref (ga K "Refused")) = some true := exm_ok (T.c.fact (List.mem_of_getElem? (i := 90) rfl))
theorem Tx.xm_Misused_Refused (T : Tx P K mg) : PySem.W.exmOne K (.ref (ga K "Misused")) (.ref (ga K "Refused")) = some true := exm_ok (T.c.fact (List.mem_of_getElem? (i := 91) rfl))
theorem Tx.ex_ (T : Tx P K mg) : (He.tupB K "RESERVED" tl_RESERVED && (He.tupB K "SIGNS" tl_SIGNS && (He.tupB K "FIELDS" tl_FIELDS && (He.tupB K "ASSIGNING" tl_ASSIGNING && (xfB K (ga K "Malformed") && (xfB K (ga K "Unknown") && (xfB K (ga K "Clashing") && (xfB K (ga K "Oversized") && (xfB K (ga K "Misused") && (Iz.icB K (ga K "Malformed") && (Iz.isB K (ga K "Malformed") (.type "ValueError") true && (Iz.isB K (ga K "Malformed") (.ref (ga K "Malformed")) true && (Iz.icB K (ga K "Clashing") && (Iz.isB K (ga K "Clashing") (.type "ValueError") true && (Iz.isB K (ga K "Clashing") (.ref (ga K "Malformed")) false && (Iz.isB K (ga K "Clashing") (.ref (ga K "Clashing")) true && (Iz.icB K (ga K "Unknown") && (Iz.isB K (ga K "Unknown") (.type "ValueError") true && (Iz.isB K (ga K "Unknown") (.ref (ga K "Malformed")) false && (Iz.isB K (ga K "Unknown") (.ref (ga K "Clashing")) false && (Iz.isB K (ga K "Unknown") (.ref (ga K "Unknown")) true && (Iz.icB K (ga K "Misused") && (Iz.isB K (ga K "Misused") (.type "ValueError") true && (Iz.isB K (ga K "Misused") (.ref (ga K "Malformed")) false && (Iz.isB K (ga K "Misused") (.ref (ga K "Clashing")) false && (Iz.isB K (ga K "Misused") (.ref (ga K "Unknown")) false && (Iz.isB K (ga K "Misused") (.ref (ga K "Misused")) true && true))))))))))))))))))))))))))) = true := T.c.more
theorem Tx.t_RESERVED (T : Tx P K mg) (H : Hp) : SqT K H (ga K "RESERVED") (tl_RESERVED.map (He.Dv.v K)) := tupB_ok (ba T.ex_).1 H
theorem Tx.t_SIGNS (T : Tx P K mg) (H : Hp) : SqT K H (ga K "SIGNS") (tl_SIGNS.map (He.Dv.v K)) := tupB_ok (ba (ba T.ex_).2).1 H
theorem Tx.t_FIELDS (T : Tx P K mg) (H : Hp) : SqT K H (ga K "FIELDS") (tl_FIELDS.map (He.Dv.v K)) := tupB_ok (ba (ba (ba T.ex_).2).2).1 H
theorem Tx.t_ASSIGNING (T : Tx P K mg) (H : Hp) : SqT K H (ga K "ASSIGNING") (tl_ASSIGNING.map (He.Dv.v K)) := tupB_ok (ba (ba (ba (ba T.ex_).2).2).2).1 H
theorem Tx.xf_Malformed (T : Tx P K mg) : XfC K (ga K "Malformed") := xfB_ok (ba (ba (ba (ba (ba T.ex_).2).2).2).2).1
theorem Tx.xf_Unknown (T : Tx P K mg) : XfC K (ga K "Unknown") := xfB_ok (ba (ba (ba (ba (ba (ba T.ex_).2).2).2).2).2).1
theorem Tx.xf_Clashing (T : Tx P K mg) : XfC K (ga K "Clashing") := xfB_ok (ba (ba (ba (ba (ba (ba (ba T.ex_).2).2).2).2).2).2).1
theorem Tx.xf_Oversized (T : Tx P K mg) : XfC K (ga K "Oversized") := xfB_ok (ba (ba (ba (ba (ba (ba (ba (ba T.ex_).2).2).2).2).2).2).2).1
theorem Tx.xf_Misused (T : Tx P K mg) : XfC K (ga K "Misused") := xfB_ok (ba (ba (ba (ba (ba (ba (ba (ba (ba T.ex_).2).2).2).2).2).2).2).2).1
theorem Tx.ic_Malformed_ (T : Tx P K mg) : Iz.icB K (ga K "Malformed") = true := (ba (ba (ba (ba (ba (ba (ba (ba (ba (ba T.ex_).2).2).2).2).2).2).2).2).2).1
theorem Tx.is_Malformed_VE (T : Tx P K mg) : Iz.isB K (ga K "Malformed") (.type "ValueError") true = true := (ba (ba (ba (ba (ba (ba (ba (ba (ba (ba (ba T.ex_).2).2).2).2).2).2).2).2).2).2).1
theorem Tx.is_Malformed_Malformed (T : Tx P K mg) : Iz.isB K (ga K "Malformed") (.ref (ga K "Malformed")) true = true := (ba (ba (ba (ba (ba (ba (ba (ba (ba (ba (ba (ba T.ex_).2).2).2).2).2).2).2).2).2).2).2).1
theorem Tx.ic_Clashing_ (T : Tx P K mg) : Iz.icB K (ga K "Clashing") = true := (ba (ba (ba (ba (ba (ba (ba (ba (ba (ba (ba (ba (ba T.ex_).2).2).2).2).2).2).2).2).2).2).2).2).1
theorem Tx.is_Clashing_VE (T : Tx P K mg) : Iz.isB K (ga K "Clashing") (.type "ValueError") true = true := (ba (ba (ba (ba (ba (ba (ba (ba (ba (ba (ba (ba (ba (ba T.ex_).2).2).2).2).2).2).2).2).2).2).2).2).2).1
theorem Tx.is_Clashing_Malformed (T : Tx P K mg) : Iz.isB K (ga K "Clashing") (.ref (ga K "Malformed")) false = true := (ba (ba (ba (ba (ba (ba (ba (ba (ba (ba (ba (ba (ba (ba (ba T.ex_).2).2).2).2).2).2).2).2).2).2).2).2).2).2).1
theorem Tx.is_Clashing_Clashing (T : Tx P K mg) : Iz.isB K (ga K "Clashing") (.ref (ga K "Clashing")) true = true := (ba (ba (ba (ba (ba (ba (ba (ba (ba (ba (ba (ba (ba (ba (ba (ba T.ex_).2).2).2).2).2).2).2).2).2).2).2).2).2).2).2).1
theorem Tx.ic_Unknown_ (T : Tx P K mg) : Iz.icB K (ga K "Unknown") = true := (ba (ba (ba (ba (ba (ba (ba (ba (ba (ba (ba (ba (ba (ba (ba (ba (ba T.ex_).2).2).2).2).2).2).2).2).2).2).2).2).2).2).2).2).1
theorem Tx.is_Unknown_VE (T : Tx P K mg) : Iz.isB K (ga K "Unknown") (.type "ValueError") true = true := (ba (ba (ba (ba (ba (ba (ba (ba (ba (ba (ba (ba (ba (ba (ba (ba (ba (ba T.ex_).2).2).2).2).2).2).2).2).2).2).2).2).2).2).2).2).2).1
theorem Tx.is_Unknown_Malformed (T : Tx P K mg) : Iz.isB K (ga K "Unknown") (.ref (ga K "Malformed")) false = true := (ba (ba (ba (ba (ba (ba (ba (ba (ba (ba (ba (ba (ba (ba (ba (ba (ba (ba (ba T.ex_).2).2).2).2).2).2).2).2).2).2).2).2).2).2).2).2).2).2).1
theorem Tx.is_Unknown_Clashing (T : Tx P K mg) : Iz.isB K (ga K "Unknown") (.ref (ga K "Clashing")) false = true := (ba (ba (ba (ba (ba (ba (ba (ba (ba (ba (ba (ba (ba (ba (ba (ba (ba (ba (ba (ba T.ex_).2).2).2).2).2).2).2).2).2).2).2).2).2).2).2).2).2).2).2).1
theorem Tx.is_Unknown_Unknown (T : Tx P K mg) : Iz.isB K (ga K "Unknown") (.ref (ga K "Unknown")) true = true := (ba (ba (ba (ba (ba (ba (ba (ba (ba (ba (ba (ba (ba (ba (ba (ba (ba (ba (ba (ba (ba T.ex_).2).2).2).2).2).2).2).2).2).2).2).2).2).2).2).2).2).2).2).2).1
theorem Tx.ic_Misused_ (T : Tx P K mg) : Iz.icB K (ga K "Misused") = true := (ba (ba (ba (ba (ba (ba (ba (ba (ba (ba (ba (ba (ba (ba (ba (ba (ba (ba (ba (ba (ba (ba T.ex_).2).2).2).2).2).2).2).2).2).2).2).2).2).2).2).2).2).2).2).2).2).1
theorem Tx.is_Misused_VE (T : Tx P K mg) : Iz.isB K (ga K "Misused") (.type "ValueError") true = true := (ba (ba (ba (ba (ba (ba (ba (ba (ba (ba (ba (ba (ba (ba (ba (ba (ba (ba (ba (ba (ba (ba (ba T.ex_).2).2).2).2).2).2).2).2).2).2).2).2).2).2).2).2).2).2).2).2).2).2).1
theorem Tx.is_Misused_Malformed (T : Tx P K mg) : Iz.isB K (ga K "Misused") (.ref (ga K "Malformed")) false = true := (ba (ba (ba (ba (ba (ba (ba (ba (ba (ba (ba (ba (ba (ba (ba (ba (ba (ba (ba (ba (ba (ba (ba (ba T.ex_).2).2).2).2).2).2).2).2).2).2).2).2).2).2).2).2).2).2).2).2).2).2).2).1
theorem Tx.is_Misused_Clashing (T : Tx P K mg) : Iz.isB K (ga K "Misused") (.ref (ga K "Clashing")) false = true := (ba (ba (ba (ba (ba (ba (ba (ba (ba (ba (ba (ba (ba (ba (ba (ba (ba (ba (ba (ba (ba (ba (ba (ba (ba T.ex_).2).2).2).2).2).2).2).2).2).2).2).2).2).2).2).2).2).2).2).2).2).2).2).2).1
theorem Tx.is_Misused_Unknown (T : Tx P K mg) : Iz.isB K (ga K "Misused") (.ref (ga K "Unknown")) false = true := (ba (ba (ba (ba (ba (ba (ba (ba (ba (ba (ba (ba (ba (ba (ba (ba (ba (ba (ba (ba (ba (ba (ba (ba (ba (ba T.ex_).2).2).2).2).2).2).2).2).2).2).2).2).2).2).2).2).2).2).2).2).2).2).2).2).2).1
theorem Tx.is_Misused_Misused (T : Tx P K mg) : Iz.isB K (ga K "Misused") (.ref (ga K "Misused")) true = true := (ba (ba (ba (ba (ba (ba (ba (ba (ba (ba (ba (ba (ba (ba (ba (ba (ba (ba (ba (ba (ba (ba (ba (ba (ba (ba (ba T.ex_).2).2).2).2).2).2).2).2).2).2).2).2).2).2).2).2).2).2).2).2).2).2).2).2).2).2).1
end
end K7


set_option Elab.async false
set_option linter.all false
set_option maxRecDepth 100000
set_option maxHeartbeats 4000000
namespace K7
open PySem PySem.Spec PyProof.Rows L2 He Hz Cm Lx
local macro_rules | `(tactic| walk_at "rd") => `(tactic| repeat (first | (refine ⟨_, rfl, ?_⟩) | (refine ⟨_, _, rfl, rfl, ?_⟩) | (refine ⟨rfl, ?_⟩) | (refine ⟨szl (by omega), ?_⟩)))
local macro_rules | `(tactic| walk_at "dp") => `(tactic| (repeat' (first | exact DpAll.nil | apply DpAll.cons | exact Dp.str _ | exact Dp.int _ | exact Dp.non | exact Dp.bl _ | assumption)))
theorem dec_one {c d : Nat} {z : Str} (hz : z = ⟨#[d]⟩) : decide (V.str (⟨#[c]⟩ : Str) = V.str z) = decide (c = d) := by
  subst hz
  refine decide_eq_decide.mpr ⟨fun z => ?_, fun z => ?_⟩
  · injection z with z
    injection z with z
    injection z with z
    injection z with z
  · rw [z]
theorem sw3 {x z : Str} {n : Nat} (hz : n ≤ x.length) : Txt.startswith3 x z (n : Int) = ((x.cps.toList.drop n).take z.length == z.cps.toList) := by
  have e0 : x.cps.toList.length = x.length := rfl
  have e1 : z.cps.toList.length = z.length := rfl
  have ef : fromIndex x.length (n : Int) = n := by
    unfold fromIndex
    rw [if_neg (by omega)]
    omega
  unfold Txt.startswith3
  rw [ef]
  have es : Builtin.Str.subAt x z n = ((x.cps.toList.drop n).take z.length == z.cps.toList) := by
    show (x.cps.extract n (n + z.length) == z.cps) = _
    have e2 : (x.cps.extract n (n + z.length)).toList = (x.cps.toList.drop n).take z.length := by
      rw [Array.toList_extract, List.extract_eq_drop_take]
      congr 1
      omega
    by_cases h : x.cps.extract n (n + z.length) = z.cps
    · rw [← e2, h]
      simp
    · have h2 : ¬ (x.cps.toList.drop n).take z.length = z.cps.toList := fun q => h (by rw [← e2] at q; exact Array.toList_inj.mp q)
      rw [beq_eq_false_iff_ne.mpr h, beq_eq_false_iff_ne.mpr h2]
  rw [es]
  by_cases h : ((x.cps.toList.drop n).take z.length == z.cps.toList) = true
  · rw [h, Bool.and_true]
    have q := congrArg List.length (beq_iff_eq.mp h)
    rw [List.length_take, List.length_drop, e0, e1] at q
    exact decide_eq_true (by omega)
  · rw [Bool.eq_false_iff.mpr h, Bool.and_false]
theorem lt1 (a b : Nat) : ([a] < [b]) ↔ a < b := by simp [List.cons_lt_cons_iff]
def spCh (f : Nat → Bool) : Sp := fun vs H Q _ => ∃ c : Nat, vs = [.str ⟨#[c]⟩] ∧ Q (.bl (f c)) H
theorem cut_at {x : Str} {n m : Nat} (h : n ≤ m) (hm : m ≤ x.length) : (cutS x (some (n : Int)) (some (m : Int))).cps.toList = (x.cps.toList.drop n).take (m - n) := by
  unfold cutS
  have e1 : HT.sIx x.length 0 (some (n : Int)) = n := by rw [HT.sIx_nat]; omega
  have e2 : HT.sIx x.length x.length (some (m : Int)) = m := by rw [HT.sIx_nat]; omega
  rw [e1, e2]
section
variable {P : Program} {w : World} {K : PySem.W.Frag} {mg : Str → Option Value} {base : Heap}
theorem ok_is_letter (T : Tx P K mg) : OkF P w K mg base CX0 1 a_is_letter ["char"] (spCh isLet) := by
  have nd := sc_is_letter.nd
  refine T.f_is_letter.ok (CX := CX0) sc_is_letter (fun vs H Q E h => ?_) (fun cdv A outer s H vs Q E hr h => ?_)
  · obtain ⟨c, rfl, _⟩ := h
    rfl
  · obtain ⟨c, rfl, k⟩ := h
    refine ⟨_, PSs.nox (pss_one (ps_ret (pe_chain op_le_str op_le_str pe_str (pv 0) pe_str))), ?_⟩
    walk_at "rd"
    refine iteB (fun h => ?_) (fun h => ?_)
    · walk_at "rd"
      have e : isLet c = !decide (([122] : List Nat) < [c]) := by
        have h' : (!decide (([c] : List Nat) < [97])) = true := h
        simp only [lt1, Bool.not_eq_true', decide_eq_false_iff_not] at h'
        unfold isLet
        simp only [lt1]
        rw [decide_eq_true (by omega : 97 ≤ c), Bool.true_and, ← decide_not]
        exact decide_eq_decide.mpr (by omega)
      rw [e] at k
      exact k
    · have e : isLet c = false := by
        have h' : (!decide (([c] : List Nat) < [97])) = false := h
        simp only [lt1, Bool.not_eq_false', decide_eq_true_eq] at h'
        unfold isLet
        rw [decide_eq_false (by omega), Bool.false_and]
      rw [e] at k
      exact k
theorem ok_is_digit (T : Tx P K mg) : OkF P w K mg base CX0 1 a_is_digit ["char"] (spCh isDig) := by
  have nd := sc_is_digit.nd
  refine T.f_is_digit.ok (CX := CX0) sc_is_digit (fun vs H Q E h => ?_) (fun cdv A outer s H vs Q E hr h => ?_)
  · obtain ⟨c, rfl, _⟩ := h
    rfl
  · obtain ⟨c, rfl, k⟩ := h
    refine ⟨_, PSs.nox (pss_one (ps_ret (pe_chain op_le_str op_le_str pe_str (pv 0) pe_str))), ?_⟩
    walk_at "rd"
    refine iteB (fun h => ?_) (fun h => ?_)
    · walk_at "rd"
      have e : isDig c = !decide (([57] : List Nat) < [c]) := by
        have h' : (!decide (([c] : List Nat) < [48])) = true := h
        simp only [lt1, Bool.not_eq_true', decide_eq_false_iff_not] at h'
        unfold isDig
        simp only [lt1]
        rw [decide_eq_true (by omega : 48 ≤ c), Bool.true_and, ← decide_not]
        exact decide_eq_decide.mpr (by omega)
      rw [e] at k
      exact k
    · have e : isDig c = false := by
        have h' : (!decide (([c] : List Nat) < [48])) = false := h
        simp only [lt1, Bool.not_eq_false', decide_eq_true_eq] at h'
        unfold isDig
        rw [decide_eq_false (by omega), Bool.false_and]
      rw [e] at k
      exact k
theorem ok_in_word (T : Tx P K mg) : OkF P w K mg base CX0 2 a_in_word ["char"] (spCh inW) := by
  have nd := sc_in_word.nd
  have F_is_letter := ok_is_letter (P := P) (w := w) (base := base) T
  have F_is_digit := ok_is_digit (P := P) (w := w) (base := base) T
  refine T.f_in_word.ok (CX := CX0) sc_in_word (fun vs H Q E h => ?_) (fun cdv A outer s H vs Q E hr h => ?_)
  · obtain ⟨c, rfl, _⟩ := h
    rfl
  · obtain ⟨c, rfl, k⟩ := h
    refine ⟨_, PSs.nox (pss_one (ps_ret (pe_or (pe_call F_is_letter (hr.mono (by decide)) rfl T.g_is_letter T.k_is_letter T.b_is_letter .nil pass0 (pa_cons (pv 0) pa_nil)) (pe_or (pe_call F_is_digit (hr.mono (by decide)) rfl T.g_is_digit T.k_is_digit T.b_is_digit .nil pass0 (pa_cons (pv 0) pa_nil)) (pe_one (pe_cmpR op_eq (pv 0) pe_str (nomark _))))))), ?_⟩
    walk_at "rd"
    refine iteB (fun h => ?_) (fun h => ?_)
    · unfold inW at k
      rw [h] at k
      exact k
    · walk_at "rd"
      refine iteB (fun h2 => ?_) (fun h2 => ?_)
      · unfold inW at k
        rw [h, h2] at k
        exact k
      · walk_at "rd"
        unfold inW at k
        rw [h, h2] at k
        have e : decide (V.str (⟨#[c]⟩ : Str) = V.str "_") = decide (c = 95) := by
          refine decide_eq_decide.mpr ⟨fun z => ?_, fun z => ?_⟩
          · injection z with z
            injection z with z
            injection z with z
            injection z with z
          · rw [z]
            rfl
        show Q (V.bl (decide (V.str (⟨#[c]⟩ : Str) = V.str "_"))) H
        rw [e]
        exact k
def spEnd : Sp := fun vs H Q _ => ∃ (x : Str) (n : Nat), vs = [.str x, .int n] ∧ x.length ≤ 100000 ∧ n ≤ x.length ∧ Q (.int ((n + wLen (x.cps.toList.drop n) : Nat) : Int)) H
theorem ok_word_end (T : Tx P K mg) : OkF P w K mg base CX0 3 a_word_end ["text", "at"] spEnd := by
  have nd := sc_word_end.nd
  have F_in_word := ok_in_word (P := P) (w := w) (base := base) T
  refine T.f_word_end.ok (CX := CX0) sc_word_end (fun vs H Q E h => ?_) (fun cdv A outer s H vs Q E hr h => ?_)
  · obtain ⟨x, n, rfl, _⟩ := h
    rfl
  · obtain ⟨x, n, rfl, hx, hn, k⟩ := h
    refine ⟨_, PSs.nox (pss_cons (ps_while PassesOwn.never (PW.pt (pw_and (pt_cmpR op_lt (pv 1) (pe_callB call_len_str (by rfl) T.n_len PySem.boot_len (pa_cons (pv 0) pa_nil)) (nomark _)) (pw_and1 (pt_val (pe_call F_in_word (hr.mono (by decide)) rfl T.g_in_word T.k_in_word T.b_in_word .nil pass0 (pa_cons (pe_ix ix_str (pv 0) (pv 1) (fun _ _ => rfl)) pa_nil)) (fun _ => rfl))))) (pss_one (ps_set (i := 1) nd rfl (Or.inl rfl) (pe_op op_add (pv 1) pe_int))))
      (pss_one (ps_ret (pv 1)))), ?_⟩
    refine ⟨fun f σ H' => ∃ m : Nat, f = x.length - m ∧ σ = [some (.str x), some (.int (m : Int))] ∧ H' = H ∧ n ≤ m ∧ m ≤ x.length ∧ m + wLen (x.cps.toList.drop m) = n + wLen (x.cps.toList.drop n), ⟨_, n, rfl, rfl, rfl, Nat.le_refl _, hn, rfl⟩, ?_⟩
    rintro f σ H' ⟨m, rfl, rfl, rfl, h1, h2, h3⟩
    walk_at "rd"
    refine iteB (fun h => ?_) (fun h => ?_)
    · have hm : m < x.cps.toList.length := by
        have := of_decide_eq_true h
        have e : x.cps.toList.length = x.length := rfl
        omega
      have ed : x.cps.toList.drop m = x.cps.toList[m] :: x.cps.toList.drop (m + 1) := (List.drop_eq_getElem_cons hm)
      refine ⟨_, rfl, _, rfl, _, _, _, rfl, rfl, szl hx, atI_at hm, _, rfl, _, rfl, ?_⟩
      refine iteB (fun h4 => ?_) (fun h4 => ?_)
      · refine ⟨_, fun _ _ z => z, ?_⟩
        walk_at "rd"
        refine ⟨x.length - (m + 1), ?_, m + 1, rfl, rfl, rfl, by omega, hm, ?_⟩
        · have e : x.cps.toList.length = x.length := rfl
          omega
        · rw [← h3, ed]
          have e2 : wLen (x.cps.toList[m] :: x.cps.toList.drop (m + 1)) = wLen (x.cps.toList.drop (m + 1)) + 1 := by
            unfold wLen
            rw [List.takeWhile_cons, if_pos h4]
            rfl
          omega
      · refine ⟨_, rfl, ?_⟩
        have e2 : wLen (x.cps.toList[m] :: x.cps.toList.drop (m + 1)) = 0 := by
          unfold wLen
          rw [List.takeWhile_cons, if_neg (by rw [h4]; decide)]
          rfl
        rw [ed, e2] at h3
        rw [← h3] at k
        exact k
    · refine ⟨_, rfl, ?_⟩
      have e : x.cps.toList.length = x.length := rfl
      have hm : m = x.length := by
        have := of_decide_eq_false h
        omega
      have e2 : wLen (x.cps.toList.drop m) = 0 := by
        have := wLen_le (x.cps.toList.drop m)
        rw [List.length_drop] at this
        omega
      rw [e2] at h3
      rw [← h3] at k
      exact k
def spRW (p : Nat → Bool) (f : List Nat → Nat → Option Tk) : Sp := fun vs H Q E => ∃ (x : Str) (n : Nat), vs = [.str x, .int n] ∧ x.length ≤ 100000 ∧ n < x.length ∧ (∃ c r, x.cps.toList.drop n = c :: r ∧ p c = true) ∧ TkOut K H Q E n (f (x.cps.toList.drop n) n)
theorem res_eq : tl_RESERVED.map (He.Dv.v K) = reserved.map V.str := rfl
theorem cut_word {x : Str} {n : Nat} (h : n ≤ x.length) : cutS x (some (n : Int)) (some ((n + wLen (x.cps.toList.drop n) : Nat) : Int)) = wordOf (x.cps.toList.drop n) := by
  have e0 : x.cps.toList.length = x.length := rfl
  have h1 := wLen_le (x.cps.toList.drop n)
  rw [List.length_drop] at h1
  have e := cut_at (x := x) (n := n) (m := n + wLen (x.cps.toList.drop n)) (by omega) (by omega)
  rw [Nat.add_sub_cancel_left] at e
  refine TL.ext_tl ?_
  show (cutS _ _ _).cps.toList = _
  rw [e]
  exact takeWhile_take _
theorem ok_read_word (T : Tx P K mg) : OkF P w K mg base (L2.CX P w) 4 a_read_word ["text", "at"] (spRW (K := K) isLet tkWord) := by
  have nd := sc_read_word.nd
  have F_word_end := ok_word_end (P := P) (w := w) (base := base) T
  refine T.f_read_word.ok (CX := L2.CX P w) sc_read_word (fun vs H Q E h => ?_) (fun cdv A outer s H vs Q E hr h => ?_)
  · obtain ⟨x, n, rfl, _⟩ := h
    rfl
  · obtain ⟨x, n, rfl, hx, hn, _, k⟩ := h
    refine ⟨_, (pss_cons (ps_set (i := 2) nd rfl (Or.inl rfl) (pe_slice sl_str (pv 0) (po_some (pv 1)) (po_some (pe_call F_word_end (hr.mono (by decide)) rfl T.g_word_end T.k_word_end T.b_word_end .nil pass0 (pa_cons (pv 0) (pa_cons (pv 1) pa_nil))))))
      (pss_cons (ps_if (pt_cmpR op_in_seq (pv 2) (pe_gref T.g_RESERVED) (by with_unfolding_all rfl)) (pss_one (ps_ret (pe_tup (pa_cons pe_str (pa_cons (pv 2) (pa_cons (pv 1) pa_nil)))))) pss_nil)
      (pss_cons (ps_if (pt_cmpR op_gt (pe_callB call_len_str (by rfl) T.n_len PySem.boot_len (pa_cons (pv 2) pa_nil)) (pe_gint T.i_MAX_NAME) (nomark _)) (pss_one (ps_raiseSx rfl T.g_Malformed T.x_Malformed hr (by decide) strR_scal (takes_of rfl rfl rfl rfl) (by exact (pa_cons (pv 1) pa_nil)))) pss_nil)
      (pss_one (ps_ret (pe_tup (pa_cons pe_str (pa_cons (pv 2) (pa_cons (pv 1) pa_nil))))))))), ?_⟩
    walk_at "rd"
    refine ⟨_, _, rfl, hx, by omega, _, rfl, _, rfl, szl hx, ?_⟩
    rw [cut_word (by omega)]
    refine ⟨_, rfl, _, _, rfl, .inr (T.t_RESERVED _), rfl, ?_⟩
    refine ⟨by rw [res_eq]; exact flat_strs _, _, rfl, ?_⟩
    have e0 : inV (.str (wordOf (x.cps.toList.drop n))) (tl_RESERVED.map (He.Dv.v K)) = decide (wordOf (x.cps.toList.drop n) ∈ reserved) := by rw [res_eq, inV_strs]
    have ewl : (wordOf (x.cps.toList.drop n)).length ≤ x.length := by
      have h1 := wLen_le (x.cps.toList.drop n)
      rw [List.length_drop] at h1
      rw [wordOf_len]
      have e0 : x.cps.toList.length = x.length := rfl
      omega
    refine iteB (fun h => ?_) (fun h => ?_)
    · have h2 : wordOf (x.cps.toList.drop n) ∈ reserved := of_decide_eq_true (e0.symm.trans h)
      have e : tkWord (x.cps.toList.drop n) n = some ⟨"reserved", .str (wordOf (x.cps.toList.drop n)), n⟩ := by unfold tkWord; rw [if_pos h2]
      rw [e] at k
      walk_at "rd"
      refine ⟨szl (Nat.le_of_ble_eq_true rfl), fun p hp => ?_⟩
      exact k _ _ (Kp.new hp) (Dp.new (by walk_at "dp") rfl hp)
    · have h2 : ¬ wordOf (x.cps.toList.drop n) ∈ reserved := of_decide_eq_false (e0.symm.trans h)
      walk_at "rd"
      refine iteB (fun h => ?_) (fun h => ?_)
      · have h3 := of_decide_eq_true h
        rw [wordOf_len] at h3
        have e : tkWord (x.cps.toList.drop n) n = none := by unfold tkWord; rw [if_neg h2, if_pos (by omega)]
        rw [e] at k
        walk_at "rd"
        exact ⟨soInt (by omega), fun d hd => k.new hd⟩
      · have h3 := of_decide_eq_false h
        rw [wordOf_len] at h3
        have e : tkWord (x.cps.toList.drop n) n = some ⟨"name", .str (wordOf (x.cps.toList.drop n)), n⟩ := by unfold tkWord; rw [if_neg h2, if_neg (by omega)]
        rw [e] at k
        walk_at "rd"
        refine ⟨szl (Nat.le_of_ble_eq_true rfl), fun p hp => ?_⟩
        exact k _ _ (Kp.new hp) (Dp.new (by walk_at "dp") rfl hp)
theorem ok_read_number (T : Tx P K mg) : OkF P w K mg base (L2.CX P w) 4 a_read_number ["text", "at"] (spRW (K := K) isDig tkNum) := by
  have nd := sc_read_number.nd
  have F_word_end := ok_word_end (P := P) (w := w) (base := base) T
  have F_is_digit := ok_is_digit (P := P) (w := w) (base := base) T
  refine T.f_read_number.ok (CX := L2.CX P w) sc_read_number (fun vs H Q E h => ?_) (fun cdv A outer s H vs Q E hr h => ?_)
  · obtain ⟨x, n, rfl, _⟩ := h
    rfl
  · obtain ⟨x, n, rfl, hx, hn, ⟨c0, r0, hd0, hp0⟩, k⟩ := h
    refine ⟨_, (pss_cons (ps_set (i := 2) nd rfl (Or.inl rfl) (pe_slice sl_str (pv 0) (po_some (pv 1)) (po_some (pe_call F_word_end (hr.mono (by decide)) rfl T.g_word_end T.k_word_end T.b_word_end .nil pass0 (pa_cons (pv 0) (pa_cons (pv 1) pa_nil))))))
      (pss_cons (ps_if (PW.pt (pw_or (pt_cmpR op_gt (pe_callB call_len_str (by rfl) T.n_len PySem.boot_len (pa_cons (pv 2) pa_nil)) pe_int (nomark _)) (pw_or1 (pt_not (pt_val (pe_callB (cr_all rfl) (by rfl) T.n_all (by decide +kernel) (pa_cons (pe_lc (own := [("char", 4)]) (g := gName 4) (tt := tYes) rfl nd (pi_str (pv 2)) (blkOk_by (N := (["text", "at", "word", "number", "char"] : List Str)) (sc := defScope s_read_number) (by decide +kernel)) (fun _ _ _ _ _ => pg_name (i := 4) nd rfl (Or.inl rfl)) (fun _ _ _ _ _ => pts_nil) (fun _ _ _ _ _ => (pe_call F_is_digit (hr.mono (by decide)) rfl T.g_is_digit T.k_is_digit T.b_is_digit .nil pass0 (pa_cons (pv 4) pa_nil)))) pa_nil)) (fun _ => rfl)))))) (pss_one (ps_raiseSx rfl T.g_Malformed T.x_Malformed hr (by decide) strR_scal (takes_of rfl rfl rfl rfl) (by exact (pa_cons (pv 1) pa_nil)))) pss_nil)
      (pss_cons (ps_set (i := 3) nd rfl (Or.inl rfl) (pe_callTy call_int_str (by rfl) T.n_int (by decide +kernel) (pa_cons (pv 2) pa_nil)))
      (pss_cons (ps_if (PW.pt (pw_or (pt_cmpR op_gt (pv 3) (pe_gint T.i_MAX_NUMBER) (nomark _)) (pw_or1 (PW.pt (pw_and (pt_cmpR op_eq (pe_ix ix_str (pv 2) pe_int (fun _ _ => rfl)) pe_str (nomark _)) (pw_and1 (pt_cmpR op_gt (pe_callB call_len_str (by rfl) T.n_len PySem.boot_len (pa_cons (pv 2) pa_nil)) pe_int (nomark _)))))))) (pss_one (ps_raiseSx rfl T.g_Malformed T.x_Malformed hr (by decide) strR_scal (takes_of rfl rfl rfl rfl) (by exact (pa_cons (pv 1) pa_nil)))) pss_nil)
      (pss_one (ps_ret (pe_tup (pa_cons pe_str (pa_cons (pv 3) (pa_cons (pv 1) pa_nil)))))))))), ?_⟩
    walk_at "rd"
    refine ⟨_, _, rfl, hx, by omega, _, rfl, _, rfl, szl hx, ?_⟩
    rw [cut_word (by omega)]
    have ewl : (wordOf (x.cps.toList.drop n)).length ≤ x.length := by
      have h1 := wLen_le (x.cps.toList.drop n)
      rw [List.length_drop] at h1
      rw [wordOf_len]
      have e0 : x.cps.toList.length = x.length := rfl
      omega
    have elw : (x.cps.toList.drop n).takeWhile inW = (wordOf (x.cps.toList.drop n)).cps.toList := rfl
    have ewn := wordOf_len (x.cps.toList.drop n)
    have bad : (5 < wLen (x.cps.toList.drop n) ∨ ((x.cps.toList.drop n).takeWhile inW).all isDig = false) → XEr K [] H E (.mal n) := fun z => by
      unfold tkNum at k
      rw [if_pos z] at k
      exact k
    generalize hW : wordOf (x.cps.toList.drop n) = W at *
    walk_at "rd"
    refine iteB (fun h => ?_) (fun h => ?_)
    · refine iteT ?_
      have h3 := of_decide_eq_true h
      have k' := bad (.inl (by omega))
      walk_at "rd"
      exact ⟨soInt (by omega), fun d hd => k'.new hd⟩
    · have h3 := of_decide_eq_false h
      walk_at "rd"
      intro D hD
      refine lc_str (x := W) (fun i H' => Kp [] H H' ∧ H' D = some (.lst (((W.cps.toList.take i).map isDig).map V.bl))) ⟨Kp.new hD, upd_same⟩ ?_ ?_
      · rintro i c H' hi ⟨k1, k2⟩
        have hil : i < W.cps.toList.length := (List.getElem?_eq_some_iff.mp hi).1
        have e0 : W.cps.toList.length = W.length := rfl
        refine ⟨rfl, ?_⟩
        walk_at "rd"
        refine ⟨_, k2, ?_, ?_, ?_⟩
        · rw [List.length_map, List.length_map, List.length_take]
          exact szt (by omega)
        · exact k1.mine hD
        · rw [upd_same, List.take_add_one, hi]
          simp
      · rintro H' ⟨k1, k2⟩
        refine ⟨_, _, rfl, SqL.of k2, _, rfl, ?_⟩
        have eall : (((W.cps.toList.take W.length).map isDig).all id) = ((x.cps.toList.drop n).takeWhile inW).all isDig := by
          rw [elw, List.all_map]
          have e0 : W.cps.toList.length = W.length := rfl
          rw [← e0, List.take_length]
          rfl
        refine iteB (fun h5 => ?_) (fun h5 => ?_)
        · have h6 : ((x.cps.toList.drop n).takeWhile inW).all isDig = false := by
            rw [← eall]
            simpa using h5
          have k' := (bad (.inr h6)).back k1
          walk_at "rd"
          exact ⟨soInt (by omega), fun d hd => k'.new hd⟩
        · have h6 : W.cps.toList.all isDig = true := by
            rw [← elw, ← eall]
            simpa using h5
          have hne : W.cps.toList ≠ [] := by
            rw [← elw, hd0, List.takeWhile_cons, if_pos (by unfold inW; rw [hp0, Bool.true_or, Bool.or_true])]
            simp
          have hint := PySem.intText_digits (x := W) (fun c hc => by
            have z := List.all_eq_true.mp h6 c hc
            unfold isDig at z
            simpa using z) hne (by omega)
          have ed : NumText.digitsVal W.cps.toList = decs ((x.cps.toList.drop n).takeWhile inW) := by rw [elw]; rfl
          rw [ed] at hint
          walk_at "rd"
          refine ⟨_, _, rfl, hint, by omega, ?_⟩
          walk_at "rd"
          have e0 : ¬ (5 < wLen (x.cps.toList.drop n) ∨ ((x.cps.toList.drop n).takeWhile inW).all isDig = false) := by
            rw [elw, h6]
            simp
            omega
          have bad2 : (65535 < decs ((x.cps.toList.drop n).takeWhile inW) ∨ ((x.cps.toList.drop n).head? = some 48 ∧ 1 < wLen (x.cps.toList.drop n))) → XEr K [] H E (.mal n) := fun z => by
            unfold tkNum at k
            rw [if_neg e0, if_pos z] at k
            exact k
          have good : ¬ (65535 < decs ((x.cps.toList.drop n).takeWhile inW) ∨ ((x.cps.toList.drop n).head? = some 48 ∧ 1 < wLen (x.cps.toList.drop n))) → DOut K [] H Q (Tk.enc ⟨"number", .int (decs ((x.cps.toList.drop n).takeWhile inW) : Nat), n⟩) := fun z => by
            unfold tkNum at k
            rw [if_neg e0, if_neg z] at k
            exact k
          have hw0 : W.cps.toList[0]? = some c0 := by
            rw [← elw, hd0, List.takeWhile_cons, if_pos (by unfold inW; rw [hp0, Bool.true_or, Bool.or_true])]
            rfl
          refine iteB (fun h7 => ?_) (fun h7 => ?_)
          · have h8 := of_decide_eq_true h7
            have k' := (bad2 (.inl (by omega))).back k1
            walk_at "rd"
            exact ⟨soInt (by omega), fun d hd => k'.new hd⟩
          · have h8 := of_decide_eq_false h7
            walk_at "rd"
            refine ⟨_, _, _, rfl, rfl, by rw [sizeLine_eq]; omega, atI_nat (j := 0) hw0, ?_⟩
            walk_at "rd"
            refine iteB (fun h9 => ?_) (fun h9 => ?_)
            · have h10 : c0 = 48 := of_decide_eq_true ((dec_one (z := "0") (d := 48) rfl).symm.trans h9)
              walk_at "rd"
              refine iteB (fun h11 => ?_) (fun h11 => ?_)
              · have h12 := of_decide_eq_true h11
                have k' := (bad2 (.inr ⟨by rw [hd0, h10]; rfl, by omega⟩)).back k1
                walk_at "rd"
                exact ⟨soInt (by omega), fun d hd => k'.new hd⟩
              · have h12 := of_decide_eq_false h11
                have k' := good (fun z => by
                  rcases z with z | ⟨_, z⟩
                  · omega
                  · omega)
                walk_at "rd"
                refine ⟨szl (Nat.le_of_ble_eq_true rfl), fun p hp => ?_⟩
                exact k' _ _ (k1.trans (Kp.new hp)) (Dp.new (by walk_at "dp") rfl hp)
            · have h10 : ¬ c0 = 48 := of_decide_eq_false ((dec_one (z := "0") (d := 48) rfl).symm.trans h9)
              have k' := good (fun z => by
                rcases z with z | ⟨z, _⟩
                · omega
                · rw [hd0] at z
                  exact h10 (Option.some.inj z))
              walk_at "rd"
              refine ⟨szl (Nat.le_of_ble_eq_true rfl), fun p hp => ?_⟩
              exact k' _ _ (k1.trans (Kp.new hp)) (Dp.new (by walk_at "dp") rfl hp)
theorem ok_read_sign (T : Tx P K mg) : OkF P w K mg base (L2.CX P w) 2 a_read_sign ["text", "at"] (spRW (K := K) (fun _ => true) tkSign) := by
  have nd := sc_read_sign.nd
  refine T.f_read_sign.ok (CX := L2.CX P w) sc_read_sign (fun vs H Q E h => ?_) (fun cdv A outer s H vs Q E hr h => ?_)
  · obtain ⟨x, n, rfl, _⟩ := h
    rfl
  · obtain ⟨x, n, rfl, hx, hn, _, k⟩ := h
    refine ⟨_, (pss_cons (ps_for (passes_of rfl) rfl (pi_tup (pe_gref T.g_SIGNS)) (pg_name (i := 2) nd rfl (Or.inl rfl)) (pss_one (ps_if (pt_val (pe_bm PySem.F.plainAttrs_str PySem.F.slot_str_startswith PySem.F.type_str_startswith mt_startswith3 (pv 0) (pa_cons (pv 2) (pa_cons (pv 1) pa_nil))) (fun _ => rfl)) (pss_one (ps_ret (pe_tup (pa_cons pe_str (pa_cons (pv 2) (pa_cons (pv 1) pa_nil)))))) pss_nil)))
      (pss_one (ps_raiseSx rfl T.g_Malformed T.x_Malformed hr (by decide) strR_scal (takes_of rfl rfl rfl rfl) (by exact (pa_cons (pv 1) pa_nil))))), ?_⟩
    walk_at "rd"
    refine ⟨⟨_, T.t_SIGNS _⟩, for_tup (xs := sgns.map V.str) (fun i σ H' => ∃ v, σ = [some (.str x), some (.int (n : Int)), v] ∧ H' = H ∧ ∀ j, j < i → ∀ z, sgns[j]? = some z → ((x.cps.toList.drop n).take z.length == z.cps.toList) = false) ?_ ?_ ?_ ?_⟩
    · exact ⟨none, rfl, rfl, fun j hj => absurd hj (Nat.not_lt_zero _)⟩
    · intro i σ H' _ _
      exact T.t_SIGNS _
    · rintro i y σ H' hi ⟨v, rfl, rfl, hb⟩
      rw [List.getElem?_map] at hi
      cases e : sgns[i]? with
      | none => rw [e] at hi; cases hi
      | some z =>
        rw [e] at hi
        obtain rfl := (Option.some.inj hi).symm
        refine ⟨_, rfl, rfl, _, rfl, _, rfl, _, _, _, rfl, rfl, _, rfl, ?_⟩
        rw [sw3 (by omega)]
        refine iteB (fun h => ?_) (fun h => ?_)
        · walk_at "rd"
          refine ⟨szl (Nat.le_of_ble_eq_true rfl), fun p hp => ?_⟩
          have es : sgn (x.cps.toList.drop n) = some z := by
            unfold sgn
            rw [List.find?_eq_some_iff_getElem]
            obtain ⟨hi2, ez⟩ := List.getElem?_eq_some_iff.mp e
            refine ⟨h, i, hi2, ez, fun j hj => ?_⟩
            rw [hb j hj _ (List.getElem?_eq_getElem (by omega))]
            rfl
          unfold tkSign at k
          rw [es] at k
          exact k _ _ (Kp.new hp) (Dp.new (by walk_at "dp") rfl hp)
        · refine ⟨_, rfl, rfl, fun j hj z' hz' => ?_⟩
          by_cases hji : j = i
          · subst hji
            rw [e] at hz'
            rw [← Option.some.inj hz']
            exact h
          · exact hb j (by omega) z' hz'
    · rintro σ H' ⟨v, rfl, rfl, hb⟩
      have es : sgn (x.cps.toList.drop n) = none := by
        unfold sgn
        rw [List.find?_eq_none]
        intro z hz
        obtain ⟨j, hj, ez⟩ := List.mem_iff_getElem.mp hz
        rw [hb j (by rw [List.length_map]; exact hj) z (by rw [List.getElem?_eq_getElem hj, ez])]
        simp
      unfold tkSign at k
      rw [es] at k
      refine ⟨_, rfl, _, rfl, soInt (by omega), fun d hd => XEr.new k hd⟩
end
end K7


set_option Elab.async false
set_option linter.all false
set_option maxRecDepth 100000
set_option maxHeartbeats 4000000
namespace K7
open PySem PySem.Spec PyProof.Rows L2 He Hz Cm Lx
local macro_rules | `(tactic| walk_at "rd") => `(tactic| repeat (first | (refine ⟨_, rfl, ?_⟩) | (refine ⟨_, _, rfl, rfl, ?_⟩) | (refine ⟨rfl, ?_⟩) | (refine ⟨szl (by omega), ?_⟩)))
local macro_rules | `(tactic| walk_at "dp") => `(tactic| (repeat' (first | exact DpAll.nil | apply DpAll.cons | exact Dp.str _ | exact Dp.int _ | exact Dp.non | exact Dp.bl _ | assumption)))
section
variable {P : Program} {w : World} {K : PySem.W.Frag} {mg : Str → Option Value} {base : Heap}
def LOut (K : PySem.W.Frag) (H : Hp) (Q : VK) (ds : List PyData) : Prop := ∀ p xs H', H p = none → Kp [] H H' → H' p = some (.lst xs) → DpAll K H' xs ds → Q (.ref p) H'
def spToks : Sp := fun vs H Q E => ∃ x : Str, vs = [.str x] ∧ x.length ≤ 100000 ∧ match lex x.cps.toList with
  | .error e => XEr K [] H E e
  | .ok ts => LOut K H Q (ts.map Tk.enc)
theorem sgn_len {r : List Nat} {z : Str} (h : sgn r = some z) : 1 ≤ z.length ∧ z.length ≤ 2 ∧ z.length ≤ r.length := by
  have h1 := List.mem_of_find?_eq_some h
  have h2 := List.find?_some h
  have h3 := congrArg List.length (beq_iff_eq.mp h2)
  rw [List.length_take] at h3
  have e1 : z.cps.toList.length = z.length := rfl
  have h4 : ∀ y ∈ sgns, 1 ≤ y.length ∧ y.length ≤ 2 := by decide +kernel
  obtain ⟨h5, h6⟩ := h4 z h1
  exact ⟨h5, h6, by omega⟩
theorem wLen_pos {c : Nat} {r : List Nat} (h : inW c = true) : 1 ≤ wLen (c :: r) := by
  unfold wLen
  rw [List.takeWhile_cons, if_pos h]
  simp
theorem tk_noL {r : List Nat} {n : Nat} {t : Tk} {k : Nat} (h : tok1 r n = some (t, k)) : noL t.enc = true ∧ 1 ≤ k := by
  unfold tok1 at h
  cases r with
  | nil => cases h
  | cons c r =>
    dsimp only at h
    split at h
    · rename_i hl
      rw [Option.map_eq_some_iff] at h
      obtain ⟨t', ht, e⟩ := h
      cases e
      refine ⟨?_, wLen_pos (by unfold inW; rw [hl]; rfl)⟩
      unfold tkWord at ht
      split at ht
      · cases ht; rfl
      · split at ht
        · cases ht
        · cases ht; rfl
    · split at h
      · rename_i hl
        rw [Option.map_eq_some_iff] at h
        obtain ⟨t', ht, e⟩ := h
        cases e
        refine ⟨?_, wLen_pos (by unfold inW; rw [hl]; simp)⟩
        unfold tkNum at ht
        split at ht
        · cases ht
        · split at ht
          · cases ht
          · cases ht; rfl
      · rw [Option.map_eq_some_iff] at h
        obtain ⟨z, ht, e⟩ := h
        cases e
        exact ⟨rfl, (sgn_len ht).1⟩
theorem noLs_map {α : Type} {f : α → PyData} : ∀ {l : List α}, l.all (fun t => noL (f t)) = true → noLs (l.map f) = true
  | [], _ => rfl
  | a :: l, h => by
    rw [List.all_cons, Bool.and_eq_true] at h
    show (noL (f a) && noLs (l.map f)) = true
    rw [h.1, noLs_map h.2]
    rfl
def lexRest (m : Nat) (r : List Nat) (n : Nat) (done : List Tk) : Except Nat (List Tk) := match lexF m r n with
  | .error e => .error e
  | .ok ts => .ok (done ++ ts)
theorem ok_tokens (T : Tx P K mg) : OkF P w K mg base (L2.CX P w) 5 a_tokens ["text"] (spToks (K := K)) := by
  have nd := sc_tokens.nd
  have F_is_letter := ok_is_letter (P := P) (w := w) (base := base) T
  have F_is_digit := ok_is_digit (P := P) (w := w) (base := base) T
  have F_word_end := ok_word_end (P := P) (w := w) (base := base) T
  have F_read_word := ok_read_word (P := P) (w := w) (base := base) T
  have F_read_number := ok_read_number (P := P) (w := w) (base := base) T
  have F_read_sign := ok_read_sign (P := P) (w := w) (base := base) T
  refine T.f_tokens.ok (CX := L2.CX P w) sc_tokens (fun vs H Q E h => ?_) (fun cdv A outer s H vs Q E hr h => ?_)
  · obtain ⟨x, rfl, _⟩ := h
    rfl
  · obtain ⟨x, rfl, hx, k⟩ := h
    refine ⟨_, (pss_cons (ps_if (pt_cmpR op_gt (pe_callB call_len_str (by rfl) T.n_len PySem.boot_len (pa_cons (pv 0) pa_nil)) (pe_gint T.i_MAX_TEXT) (nomark _)) (pss_one (ps_raiseSx rfl T.g_Oversized T.x_Oversized hr (by decide) strR_scal (takes_of rfl rfl rfl rfl) (by exact (pa_cons pe_str pa_nil)))) pss_nil)
      (pss_cons (ps_set (i := 1) nd rfl (Or.inl rfl) (pe_lst pa_nil))
      (pss_cons (ps_set (i := 2) nd rfl (Or.inl rfl) pe_int)
      (pss_cons (ps_while (passes_of rfl) (pt_cmpR op_lt (pv 2) (pe_callB call_len_str (by rfl) T.n_len PySem.boot_len (pa_cons (pv 0) pa_nil)) (nomark _)) (pss_one (ps_if (PW.pt (pw_or (pt_cmpR op_eq (pe_ix ix_str (pv 0) (pv 2) (fun _ _ => rfl)) pe_str (nomark _)) (pw_or1 (pt_cmpR op_eq (pe_ix ix_str (pv 0) (pv 2) (fun _ _ => rfl)) pe_str (nomark _))))) (pss_one (ps_set (i := 2) nd rfl (Or.inl rfl) (pe_op op_add (pv 2) pe_int))) (pss_one (ps_if (pt_val (pe_call F_is_letter (hr.mono (by decide)) rfl T.g_is_letter T.k_is_letter T.b_is_letter .nil pass0 (pa_cons (pe_ix ix_str (pv 0) (pv 2) (fun _ _ => rfl)) pa_nil)) (fun _ => rfl)) (pss_cons (ps_expr (pe_bm PySem.F.plainAttrs_list PySem.F.slot_list_append PySem.F.type_list_append mt_append (pv 1) (pa_cons (pe_call F_read_word (hr.mono (by decide)) rfl T.g_read_word T.k_read_word T.b_read_word .nil (passes_call (takes_of rfl rfl rfl rfl) fun _ _ _ _ h => h) (pa_cons (pv 0) (pa_cons (pv 2) pa_nil))) pa_nil)))
      (pss_one (ps_set (i := 2) nd rfl (Or.inl rfl) (pe_call F_word_end (hr.mono (by decide)) rfl T.g_word_end T.k_word_end T.b_word_end .nil pass0 (pa_cons (pv 0) (pa_cons (pv 2) pa_nil)))))) (pss_one (ps_if (pt_val (pe_call F_is_digit (hr.mono (by decide)) rfl T.g_is_digit T.k_is_digit T.b_is_digit .nil pass0 (pa_cons (pe_ix ix_str (pv 0) (pv 2) (fun _ _ => rfl)) pa_nil)) (fun _ => rfl)) (pss_cons (ps_expr (pe_bm PySem.F.plainAttrs_list PySem.F.slot_list_append PySem.F.type_list_append mt_append (pv 1) (pa_cons (pe_call F_read_number (hr.mono (by decide)) rfl T.g_read_number T.k_read_number T.b_read_number .nil (passes_call (takes_of rfl rfl rfl rfl) fun _ _ _ _ h => h) (pa_cons (pv 0) (pa_cons (pv 2) pa_nil))) pa_nil)))
      (pss_one (ps_set (i := 2) nd rfl (Or.inl rfl) (pe_call F_word_end (hr.mono (by decide)) rfl T.g_word_end T.k_word_end T.b_word_end .nil pass0 (pa_cons (pv 0) (pa_cons (pv 2) pa_nil)))))) (pss_cons (ps_expr (pe_bm PySem.F.plainAttrs_list PySem.F.slot_list_append PySem.F.type_list_append mt_append (pv 1) (pa_cons (pe_call F_read_sign (hr.mono (by decide)) rfl T.g_read_sign T.k_read_sign T.b_read_sign .nil (passes_call (takes_of rfl rfl rfl rfl) fun _ _ _ _ h => h) (pa_cons (pv 0) (pa_cons (pv 2) pa_nil))) pa_nil)))
      (pss_one (ps_set (i := 2) nd rfl (Or.inl rfl) (pe_op op_add (pv 2) (pe_callB call_len_str (by rfl) T.n_len PySem.boot_len (pa_cons (pe_ix ix_tup (pe_ix ix_list (pv 1) (pe_un un_neg pe_int) (fun _ _ => rfl)) pe_int (fun _ _ => rfl)) pa_nil)))))))))))))
      (pss_one (ps_ret (pv 1))))))), ?_⟩
    have e0 : x.cps.toList.length = x.length := rfl
    unfold lex at k
    walk_at "rd"
    refine iteB (fun h => ?_) (fun h => ?_)
    · have h1 := of_decide_eq_true h
      rw [if_pos (by omega)] at k
      walk_at "rd"
      exact ⟨trivial, fun d hd => XEr.new k hd⟩
    · have h1 := of_decide_eq_false h
      rw [if_neg (by omega)] at k
      walk_at "rd"
      refine ⟨Nat.zero_le _, fun p hp => ?_⟩
      refine ⟨fun f σ H' => ∃ (m at_ : Nat) (done : List Tk) (xs : List V), f = x.length - at_ ∧ σ = [some (.str x), some (.ref p), some (.int (at_ : Int))] ∧ Kp [] H H' ∧ H' p = some (.lst xs) ∧ DpAll K H' xs (done.map Tk.enc) ∧ done.all (fun t => noL t.enc) = true ∧
        at_ ≤ x.length ∧ done.length ≤ at_ ∧ x.length - at_ ≤ m ∧ lexF x.cps.toList.length x.cps.toList 0 = lexRest m (x.cps.toList.drop at_) at_ done, ⟨_, x.length, 0, [], [], rfl, rfl, Kp.new hp, upd_same, .nil, rfl, Nat.zero_le _, Nat.le_refl _, by omega, ?_⟩, ?_⟩
      · unfold lexRest
        rw [List.drop_zero, e0]
        cases lexF x.length x.cps.toList 0 <;> rfl
      rintro f σ H' ⟨m, at_, done, xs, rfl, rfl, k1, hp1, hd1, hn1, ha, hdl, hm, hlex⟩
      have hxs : xs.length = done.length := by rw [DpAll.length hd1, List.length_map]
      walk_at "rd"
      refine iteB (fun h => ?_) (fun h => ?_)
      · have hlt : at_ < x.cps.toList.length := by
          have := of_decide_eq_true h
          omega
        have ed : x.cps.toList.drop at_ = x.cps.toList[at_] :: x.cps.toList.drop (at_ + 1) := (List.drop_eq_getElem_cons hlt)
        obtain ⟨m, rfl⟩ : ∃ m', m = m' + 1 := ⟨m - 1, by omega⟩
        generalize hc : x.cps.toList[at_] = c at ed
        have hat : atI x.cps.toList (at_ : Int) = some c := by rw [atI_at hlt, hc]
        refine ⟨_, fun _ _ z => z, ?_⟩
        have hms : ∀ j, 1 ≤ j → at_ + j ≤ x.length → x.length - (at_ + j) < x.length - at_ := fun j h1 h2 => by omega
        -- behind a token
        have turn : ∀ (t : Tk) (j : Nat) (v : V) (H2 : Hp), tok1 (c :: x.cps.toList.drop (at_ + 1)) at_ = some (t, j) → ¬ (c = 32 ∨ c = 10) → at_ + j ≤ x.length → Kp [] H' H2 → Dp K H2 v t.enc →
            ∃ (m2 at2 : Nat) (done2 : List Tk) (xs2 : List V), x.length - (at_ + j) = x.length - at2 ∧ [some (V.str x), some (.ref p), some (.int ((at_ + j : Nat) : Int))] = [some (.str x), some (.ref p), some (.int (at2 : Int))] ∧ Kp [] H (upd H2 p (.lst (xs ++ [v]))) ∧ (upd H2 p (.lst (xs ++ [v]))) p = some (.lst xs2) ∧ DpAll K (upd H2 p (.lst (xs ++ [v]))) xs2 (done2.map Tk.enc) ∧ done2.all (fun t => noL t.enc) = true ∧
              at2 ≤ x.length ∧ done2.length ≤ at2 ∧ x.length - at2 ≤ m2 ∧ lexF x.cps.toList.length x.cps.toList 0 = lexRest m2 (x.cps.toList.drop at2) at2 done2 := fun t j v H2 htk hsp hj k2 hv => by
          obtain ⟨nt, hj1⟩ := tk_noL htk
          have kk : Kp [p] H2 (upd H2 p (.lst (xs ++ [v]))) := Kp.put (k2.keep _ _ (by simp) hp1) nt_lst (by simp)
          refine ⟨m, at_ + j, done ++ [t], xs ++ [v], rfl, rfl, (k1.trans k2).mine hp, upd_same, ?_, ?_, hj, ?_, by omega, ?_⟩
          · rw [List.map_append]
            exact DpAll.snoc (Dp.kps kk _ _ (noLs_map hn1) (Dp.kps k2 _ _ (noLs_map hn1) hd1)) (Dp.kp kk _ _ nt hv)
          · rw [List.all_append, hn1]
            simp [nt]
          · rw [List.length_append, List.length_singleton]
            omega
          · rw [hlex]
            unfold lexRest
            rw [ed]
            have e5 : lexF (m + 1) (c :: x.cps.toList.drop (at_ + 1)) at_ = (match lexF m ((c :: x.cps.toList.drop (at_ + 1)).drop j) (at_ + j) with
              | .error e => .error e
              | .ok ts => .ok (t :: ts)) := by
              show (if c = 32 ∨ c = 10 then _ else _) = _
              rw [if_neg hsp, htk] <;> rfl
            rw [e5, ← ed, List.drop_drop]
            cases lexF m (x.cps.toList.drop (at_ + j)) (at_ + j) with
            | error e => rfl
            | ok ts => simp
        have fail : tok1 (c :: x.cps.toList.drop (at_ + 1)) at_ = none → ¬ (c = 32 ∨ c = 10) → XEr K [] H' E (.mal at_) := fun htk hsp => by
          have e5 : lexF (m + 1) (c :: x.cps.toList.drop (at_ + 1)) at_ = .error at_ := by
            show (if c = 32 ∨ c = 10 then _ else _) = _
            rw [if_neg hsp, htk]
          rw [hlex] at k
          unfold lexRest at k
          rw [ed, e5] at k
          exact XEr.back k k1
        have blank : (c = 32 ∨ c = 10) → ∃ (m2 at2 : Nat) (done2 : List Tk) (xs2 : List V), x.length - (at_ + 1) = x.length - at2 ∧ [some (V.str x), some (.ref p), some (.int ((at_ : Int) + 1))] = [some (.str x), some (.ref p), some (.int (at2 : Int))] ∧ Kp [] H H' ∧ H' p = some (.lst xs2) ∧ DpAll K H' xs2 (done2.map Tk.enc) ∧ done2.all (fun t => noL t.enc) = true ∧
            at2 ≤ x.length ∧ done2.length ≤ at2 ∧ x.length - at2 ≤ m2 ∧ lexF x.cps.toList.length x.cps.toList 0 = lexRest m2 (x.cps.toList.drop at2) at2 done2 := fun hb => by
          refine ⟨m, at_ + 1, done, xs, rfl, rfl, k1, hp1, hd1, hn1, by omega, by omega, by omega, ?_⟩
          rw [hlex]
          unfold lexRest
          rw [ed]
          have e5 : lexF (m + 1) (c :: x.cps.toList.drop (at_ + 1)) at_ = lexF m (x.cps.toList.drop (at_ + 1)) (at_ + 1) := by
            show (if c = 32 ∨ c = 10 then _ else _) = _
            rw [if_pos hb]
          rw [e5]
        have wl : wLen (x.cps.toList.drop at_) = wLen (c :: x.cps.toList.drop (at_ + 1)) := by rw [ed]
        have wb : at_ + wLen (x.cps.toList.drop at_) ≤ x.length := by
          have := wLen_le (x.cps.toList.drop at_)
          rw [List.length_drop] at this
          omega
        walk_at "rd"
        refine ⟨_, _, _, rfl, rfl, szl hx, hat, ?_⟩
        walk_at "rd"
        refine iteB (fun hb => ?_) (fun hb => ?_)
        · have hb' : c = 32 := of_decide_eq_true ((dec_one (z := " ") (d := 32) rfl).symm.trans hb)
          walk_at "rd"
          exact ⟨x.length - (at_ + 1), by omega, blank (.inl hb')⟩
        have hb' : ¬ c = 32 := of_decide_eq_false ((dec_one (z := " ") (d := 32) rfl).symm.trans hb)
        walk_at "rd"
        refine ⟨_, _, _, rfl, rfl, szl hx, hat, ?_⟩
        walk_at "rd"
        refine iteB (fun hb2 => ?_) (fun hb2 => ?_)
        · have hb2' : c = 10 := of_decide_eq_true ((dec_one (z := "\n") (d := 10) rfl).symm.trans hb2)
          walk_at "rd"
          exact ⟨x.length - (at_ + 1), by omega, blank (.inr hb2')⟩
        have hb2' : ¬ c = 10 := of_decide_eq_false ((dec_one (z := "\n") (d := 10) rfl).symm.trans hb2)
        have hsp : ¬ (c = 32 ∨ c = 10) := fun z => z.elim hb' hb2'
        walk_at "rd"
        refine ⟨_, _, _, rfl, rfl, szl hx, hat, _, rfl, _, rfl, ?_⟩
        refine iteB (fun hl => ?_) (fun hl => ?_)
        · -- a word
          refine ⟨_, rfl, .inl ⟨rfl, _, SqL.of hp1⟩, _, rfl, _, rfl, _, _, rfl, hx, by omega, ⟨c, _, ed, hl⟩, ?_⟩
          rw [ed]
          cases htw : tkWord (c :: x.cps.toList.drop (at_ + 1)) at_ with
          | none => exact fail (by unfold tok1; simp [hl, htw]) hsp
          | some t =>
            intro v H2 k2 hv
            refine ⟨_, _, _, rfl, rfl, k2.keep _ _ (by simp) hp1, szt (by omega), ?_⟩
            walk_at "rd"
            refine ⟨_, _, rfl, hx, by omega, ?_⟩
            rw [wl]
            have wp : 1 ≤ wLen (c :: x.cps.toList.drop (at_ + 1)) := wLen_pos (by unfold inW; simp [*])
            exact ⟨x.length - (at_ + wLen (c :: x.cps.toList.drop (at_ + 1))), hms _ wp (by rw [← wl]; exact wb), turn t _ v H2 (by unfold tok1; simp [hl, htw]) hsp (by first | exact z4 | (rw [← wl]; exact wb)) k2 hv⟩
        walk_at "rd"
        refine ⟨_, _, _, rfl, rfl, szl hx, hat, _, rfl, _, rfl, ?_⟩
        refine iteB (fun hdg => ?_) (fun hdg => ?_)
        · -- a number
          refine ⟨_, rfl, .inl ⟨rfl, _, SqL.of hp1⟩, _, rfl, _, rfl, _, _, rfl, hx, by omega, ⟨c, _, ed, hdg⟩, ?_⟩
          rw [ed]
          cases htw : tkNum (c :: x.cps.toList.drop (at_ + 1)) at_ with
          | none => exact fail (by unfold tok1; simp [hl, hdg, htw]) hsp
          | some t =>
            intro v H2 k2 hv
            refine ⟨_, _, _, rfl, rfl, k2.keep _ _ (by simp) hp1, szt (by omega), ?_⟩
            walk_at "rd"
            refine ⟨_, _, rfl, hx, by omega, ?_⟩
            rw [wl]
            have wp : 1 ≤ wLen (c :: x.cps.toList.drop (at_ + 1)) := wLen_pos (by unfold inW; simp [*])
            exact ⟨x.length - (at_ + wLen (c :: x.cps.toList.drop (at_ + 1))), hms _ wp (by rw [← wl]; exact wb), turn t _ v H2 (by unfold tok1; simp [hl, hdg, htw]) hsp (by first | exact z4 | (rw [← wl]; exact wb)) k2 hv⟩
        · -- a sign
          refine ⟨_, rfl, .inl ⟨rfl, _, SqL.of hp1⟩, _, rfl, _, rfl, _, _, rfl, hx, by omega, ⟨c, _, ed, rfl⟩, ?_⟩
          rw [ed]
          cases hts : sgn (c :: x.cps.toList.drop (at_ + 1)) with
          | none =>
            unfold tkSign
            rw [hts]
            exact fail (by unfold tok1; simp [hl, hdg, hts]) hsp
          | some z =>
            unfold tkSign
            rw [hts]
            intro v H2 k2 hv
            refine ⟨_, _, _, rfl, rfl, k2.keep _ _ (by simp) hp1, szt (by omega), ?_⟩
            walk_at "rd"
            obtain ⟨q, vs, rfl, hsq, hall⟩ := Dp.tupOf hv
            obtain ⟨v1, hv1, hz1⟩ := DpAll.get hall (i := 1) (d := .str z) rfl
            obtain rfl := Dp.strOf hz1
            obtain ⟨z1, z2, z3⟩ := sgn_len hts
            have kk : Kp [p] H2 (upd H2 p (.lst (xs ++ [.ref q]))) := Kp.put (k2.keep _ _ (by simp) hp1) nt_lst (by simp)
            have z4 : at_ + z.length ≤ x.length := by
              rw [List.length_cons, List.length_drop] at z3
              omega
            refine ⟨_, _, _, _, rfl, rfl, SqL.of upd_same, atI_last _ _, ?_⟩
            refine ⟨_, _, _, _, rfl, rfl, kk.sqt hsq, atI_nat (j := 1) hv1, ?_⟩
            refine ⟨_, rfl, szl (by omega), ?_⟩
            walk_at "rd"
            exact ⟨x.length - (at_ + z.length), hms _ z1 z4, turn ⟨"sign", .str z, at_⟩ _ _ H2 (by unfold tok1; simp [hl, hdg, hts]) hsp (by first | exact z4 | (rw [← wl]; exact wb)) k2 hv⟩
      · have h2 := of_decide_eq_false h
        have ea : at_ = x.length := by omega
        subst ea
        have ed : x.cps.toList.drop x.length = [] := by rw [← e0, List.drop_length]
        have el : lexF x.cps.toList.length x.cps.toList 0 = .ok done := by
          rw [hlex, ed]
          unfold lexRest
          cases m <;> simp [lexF]
        rw [el] at k
        walk_at "rd"
        exact k _ _ _ hp k1 hp1 hd1
end
end K7


set_option Elab.async false
set_option linter.all false
set_option maxRecDepth 100000
set_option maxHeartbeats 4000000
namespace K7
open PySem PySem.Spec PyProof.Rows L2 He Hz Cm Lx Px
local macro_rules | `(tactic| walk_at "rd") => `(tactic| repeat (first | (refine ⟨_, rfl, ?_⟩) | (refine ⟨_, _, rfl, rfl, ?_⟩) | (refine ⟨rfl, ?_⟩) | (refine ⟨szl (by omega), ?_⟩) | (refine ⟨_, _, _, _, _, rfl, (by assumption), (by assumption), (by assumption), (by rfl), ?_⟩) | (refine ⟨_, _, rfl, Or.inl (by assumption), ?_⟩)))
local macro_rules | `(tactic| walk_at "dp") => `(tactic| (repeat' (first | exact DpAll.nil | apply DpAll.cons | exact Dp.str _ | exact Dp.int _ | exact Dp.non | exact Dp.bl _ | assumption)))
/-! ### the reader's object -/
def rf (l : Addr) (n e num : Int) : List (Str × V) := [("_tokens", .ref l), ("_next", .int n), ("_end", .int e), ("_number", .int num)]
theorem rf_next (l : Addr) (n e num m : Int) : putF "_next" (.int m) (rf l n e num) = rf l m e num := by
  unfold rf
  simp only [putF, if_neg (show ¬ (("_tokens" : Str) = "_next") by decide +kernel), if_pos (show (("_next" : Str) = "_next") from rfl), if_true]
theorem rf_number (l : Addr) (n e num m : Int) : putF "_number" (.int m) (rf l n e num) = rf l n e m := by
  unfold rf
  simp only [putF, if_neg (show ¬ (("_tokens" : Str) = "_number") by decide +kernel), if_neg (show ¬ (("_next" : Str) = "_number") by decide +kernel), if_neg (show ¬ (("_end" : Str) = "_number") by decide +kernel), if_pos (show (("_number" : Str) = "_number") from rfl), if_true]
structure TkOk (t : Tk) : Prop where
  nl : noL t.val = true
  sh : SeqAt.shaped (.tuple [.str t.kind, t.val]) = true
  nm : t.kind = "name" → ∃ x, t.val = .str x
  nu : t.kind = "number" → ∃ n : Nat, t.val = .int n
  pl : t.at_ ≤ 200000
theorem TkOk.enc {t : Tk} (h : TkOk t) : noL t.enc = true := by
  show (true && (noL t.val && (true && true))) = true
  rw [h.nl]
  rfl
def RAt (K : PySem.W.Frag) (H : Hp) (r : Addr) (ts : Addr × List Tk) (e : Nat) (rem : List Tk) (num : Nat) : Prop :=
  ∃ (dx : Addr) (n : Nat) (xs : List V), H r = some (.ins (ga K "Reader") dx (rf ts.1 n e num)) ∧ H ts.1 = some (.lst xs) ∧ ts.1 ≠ r ∧ DpAll K H xs (ts.2.map Tk.enc) ∧ n ≤ ts.2.length ∧ rem = ts.2.drop n ∧ ts.2.length ≤ 50000 ∧ e ≤ 200000 ∧ ∀ t ∈ ts.2, TkOk t
section
variable {P : Program} {w : World} {K : PySem.W.Frag} {mg : Str → Option Value} {base : Heap} {H H' : Hp} {r : Addr} {ts : Addr × List Tk} {rem : List Tk} {e num : Nat}
theorem tks_noL {ts : List Tk} (h : ∀ t ∈ ts, TkOk t) : noLs (ts.map Tk.enc) = true := noLs_map (List.all_eq_true.mpr fun t m => (h t m).enc)
theorem RAt.kpM {M : List Addr} (h : RAt K H r ts e rem num) (k : Kp M H H') (m1 : r ∉ M) (m2 : ts.1 ∉ M) : RAt K H' r ts e rem num := by
  obtain ⟨dx, n, xs, h1, h2, h3, h4, h5, h6, h7, h8, h9⟩ := h
  exact ⟨dx, n, xs, k.keep _ _ m1 h1, k.keep _ _ m2 h2, h3, Dp.kps k _ _ (tks_noL h9) h4, h5, h6, h7, h8, h9⟩
theorem RAt.kp (h : RAt K H r ts e rem num) (k : Kp [] H H') : RAt K H' r ts e rem num := h.kpM k (by simp) (by simp)
/-- what is new is not the reader's -/
theorem RAt.old {p : Addr} (h : RAt K H r ts e rem num) (hp : H p = none) : p ≠ r ∧ p ≠ ts.1 := by
  obtain ⟨dx, n, xs, h1, h2, _⟩ := h
  exact ⟨fun z => (by rw [z, h1] at hp; cases hp), fun z => (by rw [z, h2] at hp; cases hp)⟩
theorem RAt.mine {p : Addr} {u o : HO} (h : RAt K H r ts e rem num) (n : p ≠ r ∧ p ≠ ts.1) (hp : H p = some u) (nt : NT u) : RAt K (upd H p o) r ts e rem num :=
  h.kpM (M := [p]) (Kp.put hp nt (by simp)) (by simpa using n.1.symm) (by simpa using n.2.symm)
theorem RAt.mem (h : RAt K H r ts e rem num) : ∀ t ∈ rem, TkOk t := by
  obtain ⟨dx, n, xs, h1, h2, h3, h4, h5, h6, h7, h8, h9⟩ := h
  subst h6
  exact fun t m => h9 t (List.mem_of_mem_drop m)
theorem RAt.plc_le (h : RAt K H r ts e rem num) : plc e rem ≤ 200000 := by
  have hm := h.mem
  obtain ⟨dx, n, xs, h1, h2, h3, h4, h5, h6, h7, h8, h9⟩ := h
  cases rem with
  | nil => exact h8
  | cons t r => exact (hm t List.mem_cons_self).pl
/-- the reader stands at its next token, the number is another -/
theorem RAt.put (h : RAt K H r ts e rem num) {dx l : Addr} {n : Nat} (hH : H r = some (.ins (ga K "Reader") dx (rf l n e num))) {n' num' : Nat} (hn : n' ≤ ts.2.length) : Kp [r] H (upd H r (.ins (ga K "Reader") dx (rf l n' e num'))) ∧ RAt K (upd H r (.ins (ga K "Reader") dx (rf l n' e num'))) r ts e (ts.2.drop n') num' := by
  obtain ⟨dx', n2, xs, h1, h2, h3, h4, h5, h6, h7, h8, h9⟩ := h
  have kk : Kp [r] H (upd H r (.ins (ga K "Reader") dx (rf l n' e num'))) := Kp.put hH nt_ins (by simp)
  rw [hH] at h1
  have e1 := Option.some.inj h1
  injection e1 with _ _ e2
  have e3 : l = ts.1 := by
    have q := congrArg (fun z : List (Str × V) => z.head?) e2
    injection q with q
    injection q with q q2
    injection q2
  subst e3
  exact ⟨kk, dx, n', xs, upd_same, kk.keep _ _ (by simpa using h3) h2, h3, Dp.kps kk _ _ (tks_noL h9) h4, hn, rfl, h7, h8, h9⟩
/-! ### promises of the reader's methods -/
/-- a read: its value, what is left -/
def ROut (K : PySem.W.Frag) (H : Hp) (Q : VK) (E : XK) (r : Addr) (ts : Addr × List Tk) (e : Nat) : Except Er (PyData × List Tk × Nat) → Prop
  | .error x => XEr K [r] H E x
  | .ok (d, rem, num) => ∀ v H', Kp [r] H H' → RAt K H' r ts e rem num → Dp K H' v d → Q v H'
def spPlace : Sp := fun vs H Q _ => ∃ r ts e rem num, vs = [.ref r] ∧ RAt K H r ts e rem num ∧ Q (.int (plc e rem : Nat)) H
def peekD (rem : List Tk) : PyData := .tuple [.str (peekK rem), peekV rem]
def spPeek : Sp := fun vs H Q _ => ∃ r ts e rem num, vs = [.ref r] ∧ RAt K H r ts e rem num ∧ DOut K [] H Q (peekD rem)
theorem RAt.look (h : RAt K H r ts e rem num) : ∃ (dx l : Addr) (n : Nat) (xs : List V), H r = some (.ins (ga K "Reader") dx (rf l n e num)) ∧ SqL K H l xs ∧ xs.length = ts.2.length ∧ n ≤ ts.2.length ∧ rem = ts.2.drop n ∧ ts.2.length ≤ 50000 ∧ (∀ t, ts.2[n]? = some t → ∃ v, xs[n]? = some v ∧ Dp K H v t.enc) := by
  obtain ⟨dx, n, xs, h1, h2, h3, h4, h5, h6, h7, h8, h9⟩ := h
  refine ⟨dx, ts.1, n, xs, h1, SqL.of h2, by rw [DpAll.length h4, List.length_map], h5, h6, h7, fun t ht => ?_⟩
  exact DpAll.get h4 (by rw [List.getElem?_map, ht]; rfl)
theorem ok_place (T : Tx P K mg) : OkF P w K mg base CX0 1 a_Reader_place ["self"] (spPlace (K := K)) := by
  have nd := sc_Reader_place.nd
  have cl := T.c_Reader
  have na1 := T.na_Reader_tokens
  have na2 := T.na_Reader_next
  have na3 := T.na_Reader_end
  refine T.f_Reader_place.ok (CX := CX0) sc_Reader_place (fun vs H Q E h => ?_) (fun cdv A outer s H vs Q E hr h => ?_)
  · obtain ⟨_, _, _, _, _, rfl, _⟩ := h
    rfl
  · obtain ⟨r, ts, e, rem, num, rfl, hR, k⟩ := h
    obtain ⟨dx, l, n, xs, h1, h2, hlen, hn, hrem, hl5, hget⟩ := hR.look
    refine ⟨_, PSs.nox (pss_cons (ps_if (pt_cmpR op_lt (pe_fld (pv 0) rfl) (pe_callB call_len_seq (by rfl) T.n_len PySem.boot_len (pa_cons (pe_fld (pv 0) rfl) pa_nil)) (nomark _)) (pss_one (ps_ret (pe_ix ix_tup (pe_ix ix_list (pe_fld (pv 0) rfl) (pe_fld (pv 0) rfl) (fun _ _ => rfl)) pe_int (fun _ _ => rfl)))) pss_nil)
      (pss_one (ps_ret (pe_fld (pv 0) rfl)))), ?_⟩
    walk_at "rd"
    refine iteB (fun h => ?_) (fun h => ?_)
    · have hlt : n < ts.2.length := by
        have := of_decide_eq_true h
        omega
      obtain ⟨v, hv, hd⟩ := hget _ (List.getElem?_eq_getElem hlt)
      obtain ⟨q, vs, rfl, hsq, hall⟩ := Dp.tupOf hd
      obtain ⟨v2, hv2, hz⟩ := DpAll.get hall (i := 2) (d := .int (ts.2[n].at_ : Nat)) rfl
      obtain rfl := Dp.intOf hz
      walk_at "rd"
      refine ⟨_, _, _, _, rfl, rfl, h2, atI_nat hv, ?_⟩
      refine ⟨_, _, _, _, rfl, rfl, hsq, atI_nat (j := 2) hv2, ?_⟩
      have e1 : plc e rem = ts.2[n].at_ := by rw [hrem, List.drop_eq_getElem_cons hlt]; rfl
      rw [e1] at k
      exact k
    · have hlt : n = ts.2.length := by
        have := of_decide_eq_false h
        omega
      walk_at "rd"
      have e1 : plc e rem = e := by rw [hrem, hlt, List.drop_length]; rfl
      rw [e1] at k
      exact k
theorem ok_peek (T : Tx P K mg) : OkF P w K mg base CX0 1 a_Reader_peek ["self"] (spPeek (K := K)) := by
  have nd := sc_Reader_peek.nd
  have cl := T.c_Reader
  have na1 := T.na_Reader_tokens
  have na2 := T.na_Reader_next
  refine T.f_Reader_peek.ok (CX := CX0) sc_Reader_peek (fun vs H Q E h => ?_) (fun cdv A outer s H vs Q E hr h => ?_)
  · obtain ⟨_, _, _, _, _, rfl, _⟩ := h
    rfl
  · obtain ⟨r, ts, e, rem, num, rfl, hR, k⟩ := h
    obtain ⟨dx, l, n, xs, h1, h2, hlen, hn, hrem, hl5, hget⟩ := hR.look
    have hm := hR.mem
    refine ⟨_, PSs.nox (pss_cons (ps_if (pt_cmpR op_lt (pe_fld (pv 0) rfl) (pe_callB call_len_seq (by rfl) T.n_len PySem.boot_len (pa_cons (pe_fld (pv 0) rfl) pa_nil)) (nomark _)) (pss_one (ps_ret (pe_slice sl_tupA (pe_ix ix_list (pe_fld (pv 0) rfl) (pe_fld (pv 0) rfl) (fun _ _ => rfl)) po_none (po_some pe_int)))) pss_nil)
      (pss_one (ps_ret (pe_tup (pa_cons pe_str (pa_cons pe_str pa_nil)))))), ?_⟩
    walk_at "rd"
    refine iteB (fun h => ?_) (fun h => ?_)
    · have hlt : n < ts.2.length := by
        have := of_decide_eq_true h
        omega
      obtain ⟨v, hv, hd⟩ := hget _ (List.getElem?_eq_getElem hlt)
      obtain ⟨q, vs, rfl, hsq, hall⟩ := Dp.tupOf hd
      have hl3 : vs.length = 3 := DpAll.length hall
      walk_at "rd"
      refine ⟨_, _, _, _, rfl, rfl, h2, atI_nat hv, ?_⟩
      walk_at "rd"
      have ec : cutV vs none (some 2) = vs.take 2 := by
        unfold cutV
        rw [hl3]
        rfl
      refine ⟨_, _, rfl, hsq, fun z => absurd z.2 (by rw [hl3]; decide), fun _ p hp => ?_⟩
      rw [ec]
      have e1 : peekD rem = .tuple ([.str ts.2[n].kind, ts.2[n].val]) := by rw [hrem, List.drop_eq_getElem_cons hlt]; rfl
      rw [e1] at k
      have tk := (hm ts.2[n] (by rw [hrem, List.drop_eq_getElem_cons hlt]; exact List.mem_cons_self)).nl
      exact k _ _ (Kp.new hp) (Dp.new (DpAll.take hall 2) (by show (true && (noL _ && true)) = true; rw [tk]; rfl) hp)
    · have hlt : n = ts.2.length := by
        have := of_decide_eq_false h
        omega
      walk_at "rd"
      have e1 : peekD rem = .tuple [.str "", .str ""] := by rw [hrem, hlt, List.drop_length]; rfl
      rw [e1] at k
      refine ⟨szl (Nat.le_of_ble_eq_true rfl), fun p hp => ?_⟩
      exact k _ _ (Kp.new hp) (Dp.new (by walk_at "dp") rfl hp)
theorem eqv_isTk {k v : Str} {rem : List Tk} (hk : k ≠ "") : PyData.eqv (peekD rem) (.tuple [.str k, .str v]) = isTk k v rem := by
  cases rem with
  | nil =>
    show (("" : Str) == k && (PyData.eqv (.str "") (.str v) && true)) = false
    rw [beq_eq_false_iff_ne.mpr (fun z => hk z.symm), Bool.false_and]
  | cons t r =>
    show ((t.kind == k) && (PyData.eqv t.val (.str v) && true)) = (decide (t.kind = k) && (match t.val with | .str x => decide (x = v) | _ => false))
    have e1 : (t.kind == k) = decide (t.kind = k) := by
      by_cases h : t.kind = k
      · rw [h]; simp
      · rw [beq_eq_false_iff_ne.mpr h, decide_eq_false h]
    rw [e1, Bool.and_true]
    cases hv : t.val with
    | str x =>
      have e2 : PyData.eqv (.str x) (.str v) = decide (x = v) := by
        show (x == v) = _
        by_cases h : x = v
        · rw [h]; simp
        · rw [beq_eq_false_iff_ne.mpr h, decide_eq_false h]
      rw [e2]
    | _ => simp [PyData.eqv]
theorem peek_sh {rem : List Tk} (h : ∀ t ∈ rem, TkOk t) : SeqAt.shaped (peekD rem) = true := by
  cases rem with
  | nil => decide +kernel
  | cons t r => exact (h t List.mem_cons_self).sh
theorem sh2 {k v : Str} (hk : PyData.strOk k = true) (hv : PyData.strOk v = true) : SeqAt.shaped (.tuple [.str k, .str v]) = true := by
  show ((PyData.strOk k && (PyData.strOk v && true)) && decide _) = true
  rw [hk, hv]
  rfl
def spAccept : Sp := fun vs H Q _ => ∃ r ts e rem num k v, vs = [.ref r, .str k, .str v] ∧ RAt K H r ts e rem num ∧ k ≠ "" ∧ PyData.strOk k = true ∧ PyData.strOk v = true ∧
  (isTk k v rem = false → ∀ H', Kp [r] H H' → RAt K H' r ts e rem num → Q (.bl false) H') ∧ (isTk k v rem = true → ∀ H', Kp [r] H H' → RAt K H' r ts e rem.tail num → Q (.bl true) H')
theorem RAt.next (h : RAt K H r ts e rem num) {dx l : Addr} {n : Nat} (hH : H r = some (.ins (ga K "Reader") dx (rf l n e num))) (hrem : rem = ts.2.drop n) (hn : n < ts.2.length) : Kp [r] H (upd H r (.ins (ga K "Reader") dx (putF "_next" (.int ((n : Int) + 1)) (rf l n e num)))) ∧ RAt K (upd H r (.ins (ga K "Reader") dx (putF "_next" (.int ((n : Int) + 1)) (rf l n e num)))) r ts e rem.tail num := by
  rw [rf_next]
  have q := h.put hH (n' := n + 1) (num' := num) hn
  rw [hrem, List.tail_drop]
  exact q
theorem isTk_lt {k v : Str} {n : Nat} (h : isTk k v (ts.2.drop n) = true) : n < ts.2.length := by
  by_cases h2 : n < ts.2.length
  · exact h2
  · rw [List.drop_eq_nil_of_le (by omega)] at h
    cases h
theorem ok_accept (T : Tx P K mg) : OkF P w K mg base CX0 2 a_Reader_accept ["self", "kind", "value"] (spAccept (K := K)) := by
  have nd := sc_Reader_accept.nd
  have cl := T.c_Reader
  have na2 := T.na_Reader_next
  have F_Reader_peek := ok_peek (P := P) (w := w) (base := base) T
  refine T.f_Reader_accept.ok (CX := CX0) sc_Reader_accept (fun vs H Q E h => ?_) (fun cdv A outer s H vs Q E hr h => ?_)
  · obtain ⟨_, _, _, _, _, _, _, rfl, _⟩ := h
    rfl
  · obtain ⟨r, ts, e, rem, num, k, v, rfl, hR, hk, ok1, ok2, kf, kt⟩ := h
    obtain ⟨dx, l, n, xs, h1, h2, hlen, hn, hrem, hl5, hget⟩ := hR.look
    refine ⟨_, PSs.nox (pss_cons (ps_if (pt_cmpR (op_eqD hr.units) (pe_meth0 (pv 0) T.c_Reader T.m_Reader_peek F_Reader_peek (hr.mono (by decide)) T.b_Reader_peek .nil pass0) (pe_tup (pa_cons (pv 1) (pa_cons (pv 2) pa_nil))) (nomark _)) (pss_cons (ps_fld (pv 0) (pe_op op_add (pe_fld (pv 0) rfl) pe_int) rfl)
      (pss_one (ps_ret pe_bl))) pss_nil)
      (pss_one (ps_ret pe_bl))), ?_⟩
    walk_at "rd"
    refine ⟨_, _, _, rfl, h1, rfl, r, ts, e, rem, num, rfl, hR, ?_⟩
    intro u H1 k1 hd1
    walk_at "rd"
    refine ⟨szl (Nat.le_of_ble_eq_true rfl), fun p hp => ?_⟩
    have k2 : Kp [] H1 (upd H1 p (.tup [.str k, .str v])) := Kp.new hp
    refine ⟨_, _, Dp.kp k2 _ _ ?_ hd1, Dp.new (ds := [.str k, .str v]) (by walk_at "dp") rfl hp, peek_sh hR.mem, sh2 ok1 ok2, _, rfl, ?_⟩
    · cases rem with
      | nil => rfl
      | cons t r' =>
        show (true && (noL t.val && true)) = true
        rw [(hR.mem t List.mem_cons_self).nl]
        rfl
    rw [eqv_isTk hk]
    have hR2 := (hR.kp k1).kp k2
    have h12 : upd H1 p (.tup [.str k, .str v]) r = some (.ins (ga K "Reader") dx (rf l n e num)) := k2.keep _ _ (by simp) (k1.keep _ _ (by simp) h1)
    refine iteB (fun h => ?_) (fun h => ?_)
    · obtain ⟨k3, hR3⟩ := hR2.next h12 hrem (isTk_lt (by rw [← hrem]; exact h))
      walk_at "rd"
      refine ⟨_, _, dx, _, rfl, h12, cl, na2, (by show 4 < 1000; decide), ?_⟩
      exact kt h _ ((k1.trans k2).nil.trans k3) hR3
    · walk_at "rd"
      exact kf h _ (k1.trans k2).nil hR2
def spExpect : Sp := fun vs H Q E => ∃ r ts e rem num v, vs = [.ref r, .str v] ∧ RAt K H r ts e rem num ∧ PyData.strOk v = true ∧ match expct e v rem with
  | .error x => XEr K [r] H E x
  | .ok rem' => ∀ H', Kp [r] H H' → RAt K H' r ts e rem' num → Q .non H'
theorem ok_expect (T : Tx P K mg) : OkF P w K mg base (L2.CX P w) 3 a_Reader_expect ["self", "sign"] (spExpect (K := K)) := by
  have nd := sc_Reader_expect.nd
  have cl := T.c_Reader
  have F_Reader_accept := ok_accept (P := P) (w := w) (base := base) T
  have F_Reader_place := ok_place (P := P) (w := w) (base := base) T
  refine T.f_Reader_expect.ok (CX := L2.CX P w) sc_Reader_expect (fun vs H Q E h => ?_) (fun cdv A outer s H vs Q E hr h => ?_)
  · obtain ⟨_, _, _, _, _, _, rfl, _⟩ := h
    rfl
  · obtain ⟨r, ts, e, rem, num, v, rfl, hR, ok2, k⟩ := h
    obtain ⟨dx, l, n, xs, h1, h2, hlen, hn, hrem, hl5, hget⟩ := hR.look
    refine ⟨_, (pss_one (ps_if (pt_not (pt_val (pe_meth (pv 0) T.c_Reader T.m_Reader_accept F_Reader_accept (hr.mono (by decide)) T.b_Reader_accept .nil pass0 (pa_cons pe_str (pa_cons (pv 1) pa_nil))) (fun _ => rfl))) (pss_one (ps_raiseSx rfl T.g_Malformed T.x_Malformed hr (by decide) strR_scal (takes_of rfl rfl rfl rfl) (by exact (pa_cons (pe_meth0 (pv 0) T.c_Reader T.m_Reader_place F_Reader_place (hr.mono (by decide)) T.b_Reader_place .nil pass0) pa_nil)))) pss_nil)), ?_⟩
    walk_at "rd"
    refine ⟨_, _, _, rfl, h1, rfl, ?_⟩
    walk_at "rd"
    refine ⟨r, ts, e, rem, num, "sign", v, rfl, hR, by decide, by decide +kernel, ok2, fun h H1 k1 hR1 => ?_, fun h H1 k1 hR1 => ?_⟩
    · have ea : expct e v rem = .error (.mal (plc e rem)) := by
        unfold expct acc
        rw [h]
        rfl
      rw [ea] at k
      obtain ⟨dx, l, n, xs, h1, h2, hlen, hn, hrem, hl5, hget⟩ := hR1.look
      walk_at "rd"
      refine ⟨_, _, _, rfl, h1, rfl, r, ts, e, rem, num, rfl, hR1, ?_⟩
      walk_at "rd"
      exact ⟨soInt hR.plc_le, fun d hd => (XEr.back k k1).new hd⟩
    · have ea : expct e v rem = .ok rem.tail := by
        unfold expct acc
        rw [h]
        rfl
      rw [ea] at k
      walk_at "rd"
      exact k _ k1 hR1
def spRead : Sp := fun vs H Q E => ∃ r ts e rem num k, vs = [.ref r, .str k] ∧ RAt K H r ts e rem num ∧ k ≠ "" ∧ match rdTok e k rem with
  | .error x => XEr K [r] H E x
  | .ok (d, rem') => ∀ v H', Kp [r] H H' → RAt K H' r ts e rem' num → Dp K H' v d → Q v H'
theorem ok_read (T : Tx P K mg) : OkF P w K mg base (L2.CX P w) 2 a_Reader_read ["self", "kind"] (spRead (K := K)) := by
  have nd := sc_Reader_read.nd
  have cl := T.c_Reader
  have na2 := T.na_Reader_next
  have F_Reader_peek := ok_peek (P := P) (w := w) (base := base) T
  have F_Reader_place := ok_place (P := P) (w := w) (base := base) T
  refine T.f_Reader_read.ok (CX := L2.CX P w) sc_Reader_read (fun vs H Q E h => ?_) (fun cdv A outer s H vs Q E hr h => ?_)
  · obtain ⟨_, _, _, _, _, _, rfl, _⟩ := h
    rfl
  · obtain ⟨r, ts, e, rem, num, kk, rfl, hR, hk, k⟩ := h
    obtain ⟨dx, l, n, xs, h1, h2, hlen, hn, hrem, hl5, hget⟩ := hR.look
    have hm := hR.mem
    refine ⟨_, (pss_cons (ps_set (i := 2) nd rfl (Or.inl rfl) (pe_meth0 (pv 0) T.c_Reader T.m_Reader_peek F_Reader_peek (hr.mono (by decide)) T.b_Reader_peek .nil pass0))
      (pss_cons (ps_if (pt_cmpR op_ne (pe_ix ix_tup (pv 2) pe_int (fun _ _ => rfl)) (pv 1) (nomark _)) (pss_one (ps_raiseSx rfl T.g_Malformed T.x_Malformed hr (by decide) strR_scal (takes_of rfl rfl rfl rfl) (by exact (pa_cons (pe_meth0 (pv 0) T.c_Reader T.m_Reader_place F_Reader_place (hr.mono (by decide)) T.b_Reader_place .nil pass0) pa_nil)))) pss_nil)
      (pss_cons (ps_fld (pv 0) (pe_op op_add (pe_fld (pv 0) rfl) pe_int) rfl)
      (pss_one (ps_ret (pe_ix ix_tup (pv 2) pe_int (fun _ _ => rfl))))))), ?_⟩
    walk_at "rd"
    refine ⟨_, _, _, rfl, h1, rfl, r, ts, e, rem, num, rfl, hR, ?_⟩
    intro u H1 k1 hd1
    have hR1 := hR.kp k1
    have h11 := k1.keep _ _ (by simp) h1
    obtain ⟨q, us, rfl, hsq, hall⟩ := Dp.tupOf hd1
    obtain ⟨v0, hv0, hz0⟩ := DpAll.get hall (i := 0) (d := .str (peekK rem)) rfl
    obtain ⟨v1, hv1, hz1⟩ := DpAll.get hall (i := 1) (d := peekV rem) rfl
    obtain rfl := Dp.strOf hz0
    walk_at "rd"
    refine ⟨_, _, _, _, rfl, rfl, hsq, atI_nat (j := 0) hv0, ?_⟩
    walk_at "rd"
    refine iteB (fun h => ?_) (fun h => ?_)
    · have hne : ¬ peekK rem = kk := fun z => by
        rw [z] at h
        simp at h
      have ea : rdTok e kk rem = .error (.mal (plc e rem)) := by
        unfold rdTok
        rw [if_neg hne]
      rw [ea] at k
      walk_at "rd"
      refine ⟨_, _, _, rfl, h11, rfl, r, ts, e, rem, num, rfl, hR1, ?_⟩
      walk_at "rd"
      exact ⟨soInt hR.plc_le, fun d hd => (XEr.back k k1.nil).new hd⟩
    · have he : peekK rem = kk := by
        by_cases z : peekK rem = kk
        · exact z
        · have z2 : ¬ V.str (peekK rem) = V.str kk := fun q => z (V.str.inj q)
          rw [decide_eq_false z2] at h
          cases h
      have ea : rdTok e kk rem = .ok (peekV rem, rem.tail) := by
        unfold rdTok
        rw [if_pos he]
      rw [ea] at k
      have hlt : n < ts.2.length := by
        by_cases z : n < ts.2.length
        · exact z
        · rw [hrem, List.drop_eq_nil_of_le (by omega)] at he
          exact absurd he.symm hk
      obtain ⟨k3, hR3⟩ := hR1.next h11 hrem hlt
      have nv : noL (peekV rem) = true := by
        rw [hrem, List.drop_eq_getElem_cons hlt]
        exact (hm ts.2[n] (by rw [hrem, List.drop_eq_getElem_cons hlt]; exact List.mem_cons_self)).nl
      walk_at "rd"
      refine ⟨_, _, dx, _, rfl, h11, cl, na2, (by show 4 < 1000; decide), ?_⟩
      refine ⟨_, rfl, _, _, _, _, rfl, rfl, k3.sqt hsq, atI_nat (j := 1) hv1, ?_⟩
      exact k _ _ (k1.nil.trans k3) hR3 (Dp.kp k3 _ _ nv hz1)
def spAtEnd : Sp := fun vs H Q _ => ∃ r ts e rem num, vs = [.ref r] ∧ RAt K H r ts e rem num ∧ Q (.bl (decide (rem = []))) H
theorem ok_at_end (T : Tx P K mg) : OkF P w K mg base CX0 1 a_Reader_at_end ["self"] (spAtEnd (K := K)) := by
  have nd := sc_Reader_at_end.nd
  have cl := T.c_Reader
  have na1 := T.na_Reader_tokens
  have na2 := T.na_Reader_next
  refine T.f_Reader_at_end.ok (CX := CX0) sc_Reader_at_end (fun vs H Q E h => ?_) (fun cdv A outer s H vs Q E hr h => ?_)
  · obtain ⟨_, _, _, _, _, rfl, _⟩ := h
    rfl
  · obtain ⟨r, ts, e, rem, num, rfl, hR, k⟩ := h
    obtain ⟨dx, l, n, xs, h1, h2, hlen, hn, hrem, hl5, hget⟩ := hR.look
    refine ⟨_, PSs.nox (pss_one (ps_ret (pe_cmpR op_ge (pe_fld (pv 0) rfl) (pe_callB call_len_seq (by rfl) T.n_len PySem.boot_len (pa_cons (pe_fld (pv 0) rfl) pa_nil)) (nomark _)))), ?_⟩
    walk_at "rd"
    have e1 : decide (rem = []) = decide ((xs.length : Int) ≤ (n : Int)) := by
      refine decide_eq_decide.mpr ?_
      rw [hrem, List.drop_eq_nil_iff]
      omega
    rw [e1] at k
    exact k
def spStart : Sp := fun vs H Q _ => ∃ r ts e rem num, vs = [.ref r] ∧ RAt K H r ts e rem num ∧ ∀ H', Kp [r] H H' → RAt K H' r ts e rem 0 → Q .non H'
theorem RAt.setNum (h : RAt K H r ts e rem num) {dx l : Addr} {n : Nat} (hH : H r = some (.ins (ga K "Reader") dx (rf l n e num))) (hrem : rem = ts.2.drop n) (hn : n ≤ ts.2.length) (m : Nat) : Kp [r] H (upd H r (.ins (ga K "Reader") dx (putF "_number" (.int (m : Int)) (rf l n e num)))) ∧ RAt K (upd H r (.ins (ga K "Reader") dx (putF "_number" (.int (m : Int)) (rf l n e num)))) r ts e rem m := by
  rw [rf_number, hrem]
  exact h.put hH (n' := n) (num' := m) hn
theorem ok_start_function (T : Tx P K mg) : OkF P w K mg base CX0 1 a_Reader_start_function ["self"] (spStart (K := K)) := by
  have nd := sc_Reader_start_function.nd
  have cl := T.c_Reader
  have na4 := T.na_Reader_number
  refine T.f_Reader_start_function.ok (CX := CX0) sc_Reader_start_function (fun vs H Q E h => ?_) (fun cdv A outer s H vs Q E hr h => ?_)
  · obtain ⟨_, _, _, _, _, rfl, _⟩ := h
    rfl
  · obtain ⟨r, ts, e, rem, num, rfl, hR, k⟩ := h
    obtain ⟨dx, l, n, xs, h1, h2, hlen, hn, hrem, hl5, hget⟩ := hR.look
    obtain ⟨k1, hR1⟩ := hR.setNum h1 hrem hn 0
    refine ⟨_, PSs.nox (pss_one (ps_fld (pv 0) pe_int rfl)), ?_⟩
    walk_at "rd"
    refine ⟨_, _, dx, _, rfl, h1, cl, na4, (by show 4 < 1000; decide), ?_⟩
    exact k _ k1 hR1
def spTake : Sp := fun vs H Q _ => ∃ r ts e rem num, vs = [.ref r] ∧ RAt K H r ts e rem num ∧ ∀ H', Kp [r] H H' → RAt K H' r ts e rem (num + 1) → Q (.int (num : Nat)) H'
theorem ok_take_number (T : Tx P K mg) : OkF P w K mg base CX0 1 a_Reader_take_number ["self"] (spTake (K := K)) := by
  have nd := sc_Reader_take_number.nd
  have cl := T.c_Reader
  have na4 := T.na_Reader_number
  refine T.f_Reader_take_number.ok (CX := CX0) sc_Reader_take_number (fun vs H Q E h => ?_) (fun cdv A outer s H vs Q E hr h => ?_)
  · obtain ⟨_, _, _, _, _, rfl, _⟩ := h
    rfl
  · obtain ⟨r, ts, e, rem, num, rfl, hR, k⟩ := h
    obtain ⟨dx, l, n, xs, h1, h2, hlen, hn, hrem, hl5, hget⟩ := hR.look
    obtain ⟨k1, hR1⟩ := hR.setNum h1 hrem hn (num + 1)
    refine ⟨_, PSs.nox (pss_cons (ps_fld (pv 0) (pe_op op_add (pe_fld (pv 0) rfl) pe_int) rfl)
      (pss_one (ps_ret (pe_op op_sub (pe_fld (pv 0) rfl) pe_int)))), ?_⟩
    walk_at "rd"
    refine ⟨_, _, dx, _, rfl, h1, cl, na4, (by show 4 < 1000; decide), ?_⟩
    have h2' : (upd H r (.ins (ga K "Reader") dx (putF "_number" (.int ((num + 1 : Nat) : Int)) (rf l n e num)))) r = some (.ins (ga K "Reader") dx (rf l n e ((num + 1 : Nat) : Int))) := by rw [upd_same, rf_number]
    have k' := k _ k1 hR1
    refine ⟨_, rfl, _, _, _, _, _, rfl, h2', cl, na4, rfl, ?_⟩
    walk_at "rd"
    have e3 : (((num + 1 : Nat) : Int) - 1) = (num : Int) := by omega
    show Q (.int (((num + 1 : Nat) : Int) - 1)) _
    rw [e3]
    exact k'
end
end K7


set_option Elab.async false
set_option linter.all false
set_option maxRecDepth 100000
set_option maxHeartbeats 4000000
namespace K7
open PySem PySem.Spec PyProof.Rows L2 He Hz Cm Lx Px
local macro_rules | `(tactic| walk_at "rd") => `(tactic| repeat (first | (refine ⟨_, rfl, ?_⟩) | (refine ⟨_, _, rfl, rfl, ?_⟩) | (refine ⟨rfl, ?_⟩) | (refine ⟨szl (by omega), ?_⟩) | (refine ⟨_, _, _, _, _, rfl, (by assumption), (by assumption), (by assumption), (by rfl), ?_⟩) | (refine ⟨_, _, rfl, Or.inl (by assumption), ?_⟩)))
local macro_rules | `(tactic| walk_at "dp") => `(tactic| (repeat' (first | exact DpAll.nil | apply DpAll.cons | exact Dp.str _ | exact Dp.int _ | exact Dp.non | exact Dp.bl _ | assumption)))
section
variable {P : Program} {w : World} {K : PySem.W.Frag} {mg : Str → Option Value} {base : Heap} {H H' : Hp} {r : Addr} {ts : Addr × List Tk} {rem : List Tk} {e num : Nat} {Q : VK} {E : XK}
/-! ### tokens of a text are fine -/
theorem mem_tw {p : Nat → Bool} {c : Nat} : ∀ l : List Nat, c ∈ l.takeWhile p → p c = true
  | [], h => absurd h List.not_mem_nil
  | d :: l, h => by
    rw [List.takeWhile_cons] at h
    split at h
    · rename_i hd
      rcases List.mem_cons.mp h with rfl | h
      · exact hd
      · exact mem_tw l h
    · cases h
theorem strOk_word {l : List Nat} : PyData.strOk (wordOf l) = true := by
  unfold PyData.strOk wordOf
  show ((l.takeWhile inW).toArray).all _ = true
  rw [List.all_toArray, List.all_eq_true]
  intro c hc
  have h2 : inW c = true := mem_tw l hc
  have h3 : c ≤ 122 := by
    simp only [inW, isLet, isDig, Bool.or_eq_true, Bool.and_eq_true, decide_eq_true_eq] at h2
    omega
  exact decide_eq_true (by omega)
theorem shp {k v : Str} (hk : PyData.strOk k = true) (hv : PyData.strOk v = true) : SeqAt.shaped (.tuple [.str k, .str v]) = true := sh2 hk hv
theorem shn {k : Str} {n : Int} (hk : PyData.strOk k = true) : SeqAt.shaped (.tuple [.str k, .int n]) = true := by
  show ((PyData.strOk k && (true && true)) && decide _) = true
  rw [hk]
  rfl
theorem tok1_ok {l : List Nat} {n : Nat} {t : Tk} {k : Nat} (h : tok1 l n = some (t, k)) (hn : n ≤ 200000) : TkOk t := by
  have hnl : noL t.val = true := by
    have z := (tk_noL h).1
    have z2 : (true && (noL t.val && (true && true))) = true := z
    simpa using z2
  unfold tok1 at h
  cases l with
  | nil => cases h
  | cons c r =>
    dsimp only at h
    split at h
    · obtain ⟨t', ht, e1⟩ := Option.map_eq_some_iff.mp h
      obtain ⟨rfl, -⟩ := Prod.mk.inj e1
      unfold tkWord at ht
      split at ht
      · cases ht
        exact ⟨hnl, shp (k := "reserved") (by decide +kernel) strOk_word, fun z => absurd (show ("reserved" : Str) = "name" from z) (by decide), fun z => absurd (show ("reserved" : Str) = "number" from z) (by decide), hn⟩
      · split at ht
        · cases ht
        · cases ht
          exact ⟨hnl, shp (k := "name") (by decide +kernel) strOk_word, fun _ => ⟨_, rfl⟩, fun z => absurd (show ("name" : Str) = "number" from z) (by decide), hn⟩
    · split at h
      · obtain ⟨t', ht, e1⟩ := Option.map_eq_some_iff.mp h
        obtain ⟨rfl, -⟩ := Prod.mk.inj e1
        unfold tkNum at ht
        split at ht
        · cases ht
        · split at ht
          · cases ht
          · cases ht
            exact ⟨hnl, shn (k := "number") (by decide +kernel), fun z => absurd (show ("number" : Str) = "name" from z) (by decide), fun _ => ⟨_, rfl⟩, hn⟩
      · obtain ⟨z, hz, e1⟩ := Option.map_eq_some_iff.mp h
        obtain ⟨rfl, -⟩ := Prod.mk.inj e1
        have hm := List.mem_of_find?_eq_some hz
        refine ⟨hnl, shp (k := "sign") (by decide +kernel) ?_, fun z => absurd (show ("sign" : Str) = "name" from z) (by decide), fun z => absurd (show ("sign" : Str) = "number" from z) (by decide), hn⟩
        exact List.all_eq_true.mp (show sgns.all PyData.strOk = true by decide +kernel) z hm
theorem lexF_ok : ∀ (m : Nat) (l : List Nat) (n : Nat) (ts : List Tk), lexF m l n = .ok ts → n + l.length ≤ 200000 → (∀ t ∈ ts, TkOk t) ∧ ts.length ≤ m
  | 0, l, n, ts, h, _ => by
    cases h
    exact ⟨fun t m => absurd m List.not_mem_nil, Nat.le_refl _⟩
  | m + 1, [], n, ts, h, _ => by
    cases h
    exact ⟨fun t m => absurd m List.not_mem_nil, Nat.zero_le _⟩
  | m + 1, c :: r, n, ts, h, hl => by
    rw [List.length_cons] at hl
    unfold lexF at h
    split at h
    · obtain ⟨h1, h2⟩ := lexF_ok m r (n + 1) ts h (by omega)
      exact ⟨h1, by omega⟩
    · cases ht : tok1 (c :: r) n with
      | none =>
        rw [ht] at h
        cases h
      | some z =>
        obtain ⟨t, k⟩ := z
        rw [ht] at h
        dsimp only at h
        cases hx : lexF m ((c :: r).drop k) (n + k) with
        | error x =>
          rw [hx] at h
          cases h
        | ok ts' =>
          rw [hx] at h
          cases h
          have hk : k ≤ (c :: r).length := by
            unfold tok1 at ht
            dsimp only at ht
            split at ht
            · obtain ⟨t', ht, e1⟩ := Option.map_eq_some_iff.mp ht
              obtain ⟨-, rfl⟩ := Prod.mk.inj e1
              exact wLen_le _
            · split at ht
              · obtain ⟨t', ht, e1⟩ := Option.map_eq_some_iff.mp ht
                obtain ⟨-, rfl⟩ := Prod.mk.inj e1
                exact wLen_le _
              · obtain ⟨t', hs, e1⟩ := Option.map_eq_some_iff.mp ht
                obtain ⟨-, rfl⟩ := Prod.mk.inj e1
                exact (sgn_len hs).2.2
          have hk2 := hk
          rw [List.length_cons] at hk2
          obtain ⟨h1, h2⟩ := lexF_ok m _ (n + k) ts' hx (by rw [List.length_drop, List.length_cons]; omega)
          refine ⟨fun t' m' => ?_, by rw [List.length_cons]; omega⟩
          rcases List.mem_cons.mp m' with rfl | m'
          · exact tok1_ok ht (by omega)
          · exact h1 t' m'
theorem lex_ok {l : List Nat} {ts : List Tk} (h : lex l = .ok ts) : (∀ t ∈ ts, TkOk t) ∧ ts.length ≤ l.length ∧ l.length ≤ 6000 := by
  unfold lex at h
  split at h
  · cases h
  · cases hx : lexF l.length l 0 with
    | error n =>
      rw [hx] at h
      cases h
    | ok ts' =>
      rw [hx] at h
      cases h
      obtain ⟨h1, h2⟩ := lexF_ok _ _ _ _ hx (by omega)
      exact ⟨h1, h2, by omega⟩
/-! ### a reader is made -/
theorem rf_new (l : Addr) (x y z : V) : putF "_number" z (putF "_end" y (putF "_next" x (putF "_tokens" (.ref l) []))) = ([("_tokens", .ref l), ("_next", x), ("_end", y), ("_number", z)] : List (Str × V)) := by
  simp only [putF, if_neg (show ¬ (("_tokens" : Str) = "_next") by decide +kernel), if_neg (show ¬ (("_tokens" : Str) = "_end") by decide +kernel), if_neg (show ¬ (("_next" : Str) = "_end") by decide +kernel), if_neg (show ¬ (("_tokens" : Str) = "_number") by decide +kernel), if_neg (show ¬ (("_next" : Str) = "_number") by decide +kernel), if_neg (show ¬ (("_end" : Str) = "_number") by decide +kernel)]
def spReader : Sp := fun vs H Q E => ∃ p dx x, vs = [.ref p, .str x] ∧ H p = some (.ins (ga K "Reader") dx []) ∧ x.length ≤ 100000 ∧ match lex x.cps.toList with
  | .error e => XEr K [p] H E e
  | .ok ts => ∀ l H', H l = none → Kp [p] H H' → RAt K H' p (l, ts) x.length ts 0 → Q .non H'
theorem ok_Reader_init (T : Tx P K mg) : OkF P w K mg base (L2.CX P w) 6 a_Reader___init__ ["self", "text"] (spReader (K := K)) := by
  have nd := sc_Reader___init__.nd
  have cl := T.c_Reader
  have na1 := T.na_Reader_tokens
  have na2 := T.na_Reader_next
  have na3 := T.na_Reader_end
  have na4 := T.na_Reader_number
  have F_tokens := ok_tokens (P := P) (w := w) (base := base) T
  refine T.f_Reader___init__.ok (CX := L2.CX P w) sc_Reader___init__ (fun vs H Q E h => ?_) (fun cdv A outer s H vs Q E hr h => ?_)
  · obtain ⟨_, _, _, rfl, _⟩ := h
    rfl
  · obtain ⟨p, dx, x, rfl, hp, hx, k⟩ := h
    refine ⟨_, (pss_cons (ps_fld (pv 0) (pe_call F_tokens (hr.mono (by decide)) rfl T.g_tokens T.k_tokens T.b_tokens .nil (passes_call (takes_of rfl rfl rfl rfl) fun _ _ _ _ h => h) (pa_cons (pv 1) pa_nil)) rfl)
      (pss_cons (ps_fld (pv 0) pe_int rfl)
      (pss_cons (ps_fld (pv 0) (pe_callB call_len_str (by rfl) T.n_len PySem.boot_len (pa_cons (pv 1) pa_nil)) rfl)
      (pss_one (ps_fld (pv 0) pe_int rfl))))), ?_⟩
    walk_at "rd"
    refine ⟨hx, ?_⟩
    cases hlx : lex x.cps.toList with
    | error er =>
      rw [hlx] at k
      exact fun d H' kk hd => k d H' kk.nil hd
    | ok ts =>
      rw [hlx] at k
      obtain ⟨hts, hl1, hl2⟩ := lex_ok hlx
      have e0 : x.cps.toList.length = x.length := rfl
      intro l xs H1 hl k1 hls hall
      have h1 := k1.keep _ _ (by simp) hp
      have nlp : l ≠ p := fun z => by
        subst z
        rw [hp] at hl
        cases hl
      walk_at "rd"
      refine ⟨_, _, dx, _, rfl, h1, cl, na1, (by show 0 < 1000; decide), ?_⟩
      walk_at "rd"
      refine ⟨_, _, dx, _, rfl, upd_same, cl, na2, (by show 1 < 1000; decide), ?_⟩
      walk_at "rd"
      refine ⟨_, _, dx, _, rfl, upd_same, cl, na3, (by show 2 < 1000; decide), ?_⟩
      walk_at "rd"
      refine ⟨_, _, dx, _, rfl, upd_same, cl, na4, (by show 3 < 1000; decide), ?_⟩
      have kk : ∀ o, Kp [p] (upd H1 p (.ins (ga K "Reader") dx o)) (upd (upd H1 p (.ins (ga K "Reader") dx o)) p (.ins (ga K "Reader") dx (putF "_number" (.int 0) (putF "_end" (.int (x.length : Nat)) (putF "_next" (.int 0) (putF "_tokens" (.ref l) [])))))) := fun o => Kp.put upd_same nt_ins (by simp)
      have kA := (Kp.put (M := [p]) (o := .ins (ga K "Reader") dx (putF "_tokens" (.ref l) [])) h1 nt_ins (by simp))
      have kB := (Kp.put (M := [p]) (o := .ins (ga K "Reader") dx (putF "_next" (.int 0) (putF "_tokens" (.ref l) []))) (H := upd H1 p (.ins (ga K "Reader") dx (putF "_tokens" (.ref l) []))) upd_same nt_ins (by simp))
      have kC := (Kp.put (M := [p]) (o := .ins (ga K "Reader") dx (putF "_end" (.int (x.length : Nat)) (putF "_next" (.int 0) (putF "_tokens" (.ref l) [])))) (H := upd (upd H1 p (.ins (ga K "Reader") dx (putF "_tokens" (.ref l) []))) p (.ins (ga K "Reader") dx (putF "_next" (.int 0) (putF "_tokens" (.ref l) [])))) upd_same nt_ins (by simp))
      have kD := (Kp.put (M := [p]) (o := .ins (ga K "Reader") dx (putF "_number" (.int 0) (putF "_end" (.int (x.length : Nat)) (putF "_next" (.int 0) (putF "_tokens" (.ref l) []))))) (H := upd (upd (upd H1 p (.ins (ga K "Reader") dx (putF "_tokens" (.ref l) []))) p (.ins (ga K "Reader") dx (putF "_next" (.int 0) (putF "_tokens" (.ref l) [])))) p (.ins (ga K "Reader") dx (putF "_end" (.int (x.length : Nat)) (putF "_next" (.int 0) (putF "_tokens" (.ref l) []))))) upd_same nt_ins (by simp))
      have kz := ((kA.trans kB).trans kC).trans kD
      refine (k l _ hl (k1.nil.trans kz) ⟨dx, 0, xs, ?_, kz.keep _ _ (by simpa using nlp) hls, nlp, Dp.kps kz _ _ (tks_noL hts) hall, Nat.zero_le _, rfl, (show ts.length ≤ 50000 by omega), by omega, hts⟩)
      rw [upd_same, rf_new]
      rfl
/-! ### tools for what reads on -/
theorem acc_t {k v : Str} (h : isTk k v rem = true) : acc k v rem = some rem.tail := by
  unfold acc
  rw [if_pos h]
theorem acc_f {k v : Str} (h : isTk k v rem = false) : acc k v rem = none := by
  unfold acc
  rw [h]
  rfl
theorem RAt.ins (h : RAt K H r ts e rem num) : ∃ (dx l : Addr) (n : Nat), H r = some (.ins (ga K "Reader") dx (rf l n e num)) := by
  obtain ⟨dx, n, xs, h1, _⟩ := h
  exact ⟨dx, ts.1, n, h1⟩
theorem rdTok_name {k : Str} {d : PyData} {r' : List Tk} (h : rdTok e k rem = .ok (d, r')) (hk : k ≠ "") : ∃ t, rem = t :: r' ∧ t.kind = k ∧ d = t.val := by
  unfold rdTok at h
  split at h
  · rename_i h2
    cases h
    cases rem with
    | nil => exact absurd h2.symm hk
    | cons t l => exact ⟨t, rfl, h2, rfl⟩
  · cases h
theorem read_name (hR : RAt K H r ts e rem num) (k : match rdName e rem with | .error x => XEr K [r] H E x | .ok (x, rem') => ∀ H', Kp [r] H H' → RAt K H' r ts e rem' num → Q (.str x) H') : spRead (K := K) [.ref r, .str "name"] H Q E := by
  refine ⟨r, ts, e, rem, num, "name", rfl, hR, by decide, ?_⟩
  unfold rdName at k
  cases h : rdTok e "name" rem with
  | error x =>
    rw [h] at k
    exact k
  | ok z =>
    obtain ⟨d, r'⟩ := z
    rw [h] at k
    obtain ⟨t, e1, e2, e3⟩ := rdTok_name h (by decide)
    obtain ⟨x, e4⟩ := (hR.mem t (by rw [e1]; exact List.mem_cons_self)).nm e2
    rw [e4] at e3
    subst e3
    intro v H' kk hr hd
    obtain rfl := Dp.strOf hd
    exact k H' kk hr
theorem read_num (hR : RAt K H r ts e rem num) (k : match rdNum e rem with | .error x => XEr K [r] H E x | .ok (x, rem') => ∀ H', Kp [r] H H' → RAt K H' r ts e rem' num → Q (.int x) H') : spRead (K := K) [.ref r, .str "number"] H Q E := by
  refine ⟨r, ts, e, rem, num, "number", rfl, hR, by decide, ?_⟩
  unfold rdNum at k
  cases h : rdTok e "number" rem with
  | error x =>
    rw [h] at k
    exact k
  | ok z =>
    obtain ⟨d, r'⟩ := z
    rw [h] at k
    obtain ⟨t, e1, e2, e3⟩ := rdTok_name h (by decide)
    obtain ⟨x, e4⟩ := (hR.mem t (by rw [e1]; exact List.mem_cons_self)).nu e2
    rw [e4] at e3
    subst e3
    intro v H' kk hr hd
    obtain rfl := Dp.intOf hd
    exact k H' kk hr
theorem Vl.nl (v : Vl) : noL v.enc = true := by cases v <;> rfl
theorem Ts.nl (v : Ts) : noL v.enc = true := by
  cases v with
  | tru x => rfl
  | same x v =>
    show (true && (true && (noL v.enc && true))) = true
    rw [Vl.nl]
    rfl
theorem vls_nl (vs : List Vl) : noLs (vs.map Vl.enc) = true := noLs_map (List.all_eq_true.mpr fun v _ => Vl.nl v)
/-! ### values -/
def spVal : Sp := fun vs H Q E => ∃ r ts e rem num, vs = [.ref r] ∧ RAt K H r ts e rem num ∧ match rdVal e rem with
  | .error x => XEr K [r] H E x
  | .ok (v, rem') => ∀ u H', Kp [r] H H' → RAt K H' r ts e rem' num → Dp K H' u v.enc → Q u H'
theorem ok_read_value (T : Tx P K mg) : OkF P w K mg base (L2.CX P w) 3 a_read_value ["reader"] (spVal (K := K)) := by
  have nd := sc_read_value.nd
  have cl := T.c_Reader
  have F_Reader_accept := ok_accept (P := P) (w := w) (base := base) T
  have F_Reader_peek := ok_peek (P := P) (w := w) (base := base) T
  have F_Reader_read := ok_read (P := P) (w := w) (base := base) T
  refine T.f_read_value.ok (CX := L2.CX P w) sc_read_value (fun vs H Q E h => ?_) (fun cdv A outer s H vs Q E hr h => ?_)
  · obtain ⟨_, _, _, _, _, rfl, _⟩ := h
    rfl
  · obtain ⟨r, ts, e, rem, num, rfl, hR, k⟩ := h
    obtain ⟨dx, l, n, h1⟩ := hR.ins
    refine ⟨_, (pss_cons (ps_if (pt_val (pe_meth (pv 0) T.c_Reader T.m_Reader_accept F_Reader_accept (hr.mono (by decide)) T.b_Reader_accept .nil pass0 (pa_cons pe_str (pa_cons pe_str pa_nil))) (fun _ => rfl)) (pss_one (ps_ret (pe_tup (pa_cons pe_str pa_nil)))) pss_nil)
      (pss_cons (ps_if (pt_cmpR op_eq (pe_ix ix_tup (pe_meth0 (pv 0) T.c_Reader T.m_Reader_peek F_Reader_peek (hr.mono (by decide)) T.b_Reader_peek .nil pass0) pe_int (fun _ _ => rfl)) pe_str (nomark _)) (pss_one (ps_ret (pe_tup (pa_cons pe_str (pa_cons (pe_meth (pv 0) T.c_Reader T.m_Reader_read F_Reader_read (hr.mono (by decide)) T.b_Reader_read .nil (passes_call (takes_of rfl rfl rfl rfl) fun _ _ _ _ h => h) (pa_cons pe_str pa_nil)) pa_nil))))) pss_nil)
      (pss_one (ps_ret (pe_tup (pa_cons pe_str (pa_cons (pe_meth (pv 0) T.c_Reader T.m_Reader_read F_Reader_read (hr.mono (by decide)) T.b_Reader_read .nil (passes_call (takes_of rfl rfl rfl rfl) fun _ _ _ _ h => h) (pa_cons pe_str pa_nil)) pa_nil))))))), ?_⟩
    unfold rdVal at k
    walk_at "rd"
    refine ⟨_, _, _, rfl, h1, rfl, ?_⟩
    walk_at "rd"
    refine ⟨r, ts, e, rem, num, "reserved", "nil", rfl, hR, by decide, by decide +kernel, by decide +kernel, fun h H1 k1 hR1 => ?_, fun h H1 k1 hR1 => ?_⟩
    · rw [acc_f h] at k
      dsimp only at k
      obtain ⟨dx, l, n, h1⟩ := hR1.ins
      walk_at "rd"
      refine ⟨_, _, _, rfl, h1, rfl, r, ts, e, rem, num, rfl, hR1, ?_⟩
      intro u H2 k2 hd2
      have hR2 := hR1.kp k2
      obtain ⟨dx, l, n, h2⟩ := hR2.ins
      obtain ⟨q, us, rfl, hsq, hall⟩ := Dp.tupOf hd2
      obtain ⟨v0, hv0, hz0⟩ := DpAll.get hall (i := 0) (d := .str (peekK rem)) rfl
      obtain rfl := Dp.strOf hz0
      walk_at "rd"
      refine ⟨_, _, _, _, rfl, rfl, hsq, atI_nat (j := 0) hv0, ?_⟩
      walk_at "rd"
      refine iteB (fun h => ?_) (fun h => ?_)
      · have he : peekK rem = "number" := V.str.inj (of_decide_eq_true h)
        rw [if_pos he] at k
        walk_at "rd"
        refine ⟨_, _, _, rfl, h2, rfl, ?_⟩
        walk_at "rd"
        refine read_num hR2 ?_
        cases hn : rdNum e rem with
        | error x =>
          rw [hn] at k
          exact k.back (k1.trans k2.nil)
        | ok z =>
          obtain ⟨m, rem2⟩ := z
          rw [hn] at k
          intro H3 k3 hR3
          walk_at "rd"
          refine ⟨szl (Nat.le_of_ble_eq_true rfl), fun p hp => ?_⟩
          exact k _ _ (((k1.trans k2.nil).trans k3).trans (Kp.new hp)) (hR3.kp (Kp.new hp)) (Dp.new (by walk_at "dp") rfl hp)
      · have he : ¬ peekK rem = "number" := fun z => by rw [z] at h; exact absurd h (by decide)
        rw [if_neg he] at k
        walk_at "rd"
        refine ⟨_, _, _, rfl, h2, rfl, ?_⟩
        walk_at "rd"
        refine read_name hR2 ?_
        cases hn : rdName e rem with
        | error x =>
          rw [hn] at k
          exact k.back (k1.trans k2.nil)
        | ok z =>
          obtain ⟨m, rem2⟩ := z
          rw [hn] at k
          intro H3 k3 hR3
          walk_at "rd"
          refine ⟨szl (Nat.le_of_ble_eq_true rfl), fun p hp => ?_⟩
          exact k _ _ (((k1.trans k2.nil).trans k3).trans (Kp.new hp)) (hR3.kp (Kp.new hp)) (Dp.new (by walk_at "dp") rfl hp)
    · rw [acc_t h] at k
      walk_at "rd"
      refine ⟨szl (Nat.le_of_ble_eq_true rfl), fun p hp => ?_⟩
      exact k _ _ (k1.trans (Kp.new hp)) (hR1.kp (Kp.new hp)) (Dp.new (by walk_at "dp") rfl hp)
def spFld : Sp := fun vs H Q E => ∃ r ts e rem num, vs = [.ref r] ∧ RAt K H r ts e rem num ∧ match rdFld e rem with
  | .error x => XEr K [r] H E x
  | .ok (v, rem') => ∀ H', Kp [r] H H' → RAt K H' r ts e rem' num → Q (.str v) H'
theorem ok_read_field (T : Tx P K mg) : OkF P w K mg base (L2.CX P w) 3 a_read_field ["reader"] (spFld (K := K)) := by
  have nd := sc_read_field.nd
  have cl := T.c_Reader
  have F_Reader_place := ok_place (P := P) (w := w) (base := base) T
  have F_Reader_read := ok_read (P := P) (w := w) (base := base) T
  refine T.f_read_field.ok (CX := L2.CX P w) sc_read_field (fun vs H Q E h => ?_) (fun cdv A outer s H vs Q E hr h => ?_)
  · obtain ⟨_, _, _, _, _, rfl, _⟩ := h
    rfl
  · obtain ⟨r, ts, e, rem, num, rfl, hR, k⟩ := h
    obtain ⟨dx, l, n, h1⟩ := hR.ins
    refine ⟨_, (pss_cons (ps_set (i := 1) nd rfl (Or.inl rfl) (pe_meth0 (pv 0) T.c_Reader T.m_Reader_place F_Reader_place (hr.mono (by decide)) T.b_Reader_place .nil pass0))
      (pss_cons (ps_set (i := 2) nd rfl (Or.inl rfl) (pe_meth (pv 0) T.c_Reader T.m_Reader_read F_Reader_read (hr.mono (by decide)) T.b_Reader_read .nil (passes_call (takes_of rfl rfl rfl rfl) fun _ _ _ _ h => h) (pa_cons pe_str pa_nil)))
      (pss_cons (ps_if (pt_cmpR op_notIn_seq (pv 2) (pe_gref T.g_FIELDS) (by with_unfolding_all rfl)) (pss_one (ps_raiseSx rfl T.g_Malformed T.x_Malformed hr (by decide) strR_scal (takes_of rfl rfl rfl rfl) (by exact (pa_cons (pv 1) pa_nil)))) pss_nil)
      (pss_one (ps_ret (pv 2)))))), ?_⟩
    unfold rdFld at k
    walk_at "rd"
    refine ⟨_, _, _, rfl, h1, rfl, r, ts, e, rem, num, rfl, hR, ?_⟩
    walk_at "rd"
    refine ⟨_, _, _, rfl, h1, rfl, ?_⟩
    walk_at "rd"
    refine read_name hR ?_
    cases hn : rdName e rem with
    | error x =>
      rw [hn] at k
      exact k
    | ok z =>
      obtain ⟨f, rem2⟩ := z
      rw [hn] at k
      dsimp only at k
      intro H3 k3 hR3
      walk_at "rd"
      refine ⟨_, _, rfl, .inr (T.t_FIELDS _), rfl, ?_⟩
      have e1 : tl_FIELDS.map (He.Dv.v K) = (["a", "b"] : List Str).map V.str := rfl
      rw [e1]
      refine ⟨flat_strs _, _, rfl, ?_⟩
      rw [inV_strs]
      by_cases hf : f = "a" ∨ f = "b"
      · rw [if_pos hf] at k
        have e2 : decide (f ∈ (["a", "b"] : List Str)) = true := by simpa using hf
        rw [e2]
        refine iteF' rfl ?_
        walk_at "rd"
        exact k _ k3 hR3
      · rw [if_neg hf] at k
        have e2 : decide (f ∈ (["a", "b"] : List Str)) = false := by simpa using hf
        rw [e2]
        refine iteT' rfl ?_
        walk_at "rd"
        exact ⟨soInt hR.plc_le, fun d hd => (XEr.back k k3).new hd⟩
def spTest : Sp := fun vs H Q E => ∃ r ts e rem num, vs = [.ref r] ∧ RAt K H r ts e rem num ∧ match rdTest e rem with
  | .error x => XEr K [r] H E x
  | .ok (v, rem') => ∀ u H', Kp [r] H H' → RAt K H' r ts e rem' num → Dp K H' u v.enc → Q u H'
theorem ok_read_test (T : Tx P K mg) : OkF P w K mg base (L2.CX P w) 4 a_read_test ["reader"] (spTest (K := K)) := by
  have nd := sc_read_test.nd
  have cl := T.c_Reader
  have F_Reader_accept := ok_accept (P := P) (w := w) (base := base) T
  have F_Reader_read := ok_read (P := P) (w := w) (base := base) T
  have F_read_value := ok_read_value (P := P) (w := w) (base := base) T
  refine T.f_read_test.ok (CX := L2.CX P w) sc_read_test (fun vs H Q E h => ?_) (fun cdv A outer s H vs Q E hr h => ?_)
  · obtain ⟨_, _, _, _, _, rfl, _⟩ := h
    rfl
  · obtain ⟨r, ts, e, rem, num, rfl, hR, k⟩ := h
    obtain ⟨dx, l, n, h1⟩ := hR.ins
    refine ⟨_, (pss_cons (ps_set (i := 1) nd rfl (Or.inl rfl) (pe_meth (pv 0) T.c_Reader T.m_Reader_read F_Reader_read (hr.mono (by decide)) T.b_Reader_read .nil (passes_call (takes_of rfl rfl rfl rfl) fun _ _ _ _ h => h) (pa_cons pe_str pa_nil)))
      (pss_cons (ps_if (pt_val (pe_meth (pv 0) T.c_Reader T.m_Reader_accept F_Reader_accept (hr.mono (by decide)) T.b_Reader_accept .nil pass0 (pa_cons pe_str (pa_cons pe_str pa_nil))) (fun _ => rfl)) (pss_one (ps_ret (pe_tup (pa_cons pe_str (pa_cons (pv 1) (pa_cons (pe_call F_read_value (hr.mono (by decide)) rfl T.g_read_value T.k_read_value T.b_read_value .nil (passes_call (takes_of rfl rfl rfl rfl) fun _ _ _ _ h => h) (pa_cons (pv 0) pa_nil)) pa_nil)))))) pss_nil)
      (pss_one (ps_ret (pe_tup (pa_cons pe_str (pa_cons (pv 1) pa_nil))))))), ?_⟩
    unfold rdTest at k
    walk_at "rd"
    refine ⟨_, _, _, rfl, h1, rfl, ?_⟩
    walk_at "rd"
    refine read_name hR ?_
    cases hn : rdName e rem with
    | error x =>
      rw [hn] at k
      exact k
    | ok z =>
      obtain ⟨x, rem2⟩ := z
      rw [hn] at k
      dsimp only at k
      intro H2 k2 hR2
      obtain ⟨dx, l, n, h2⟩ := hR2.ins
      walk_at "rd"
      refine ⟨_, _, _, rfl, h2, rfl, ?_⟩
      walk_at "rd"
      refine ⟨r, ts, e, rem2, num, "sign", "==", rfl, hR2, by decide, by decide +kernel, by decide +kernel, fun h H3 k3 hR3 => ?_, fun h H3 k3 hR3 => ?_⟩
      · rw [acc_f h] at k
        walk_at "rd"
        refine ⟨szl (Nat.le_of_ble_eq_true rfl), fun p hp => ?_⟩
        exact k _ _ ((k2.trans k3).trans (Kp.new hp)) (hR3.kp (Kp.new hp)) (Dp.new (by walk_at "dp") rfl hp)
      · rw [acc_t h] at k
        dsimp only at k
        walk_at "rd"
        refine ⟨r, ts, e, _, num, rfl, hR3, ?_⟩
        cases hv : rdVal e rem2.tail with
        | error x =>
          rw [hv] at k
          exact k.back (k2.trans k3)
        | ok z =>
          obtain ⟨v, rem3⟩ := z
          rw [hv] at k
          intro u H4 k4 hR4 hd4
          walk_at "rd"
          refine ⟨szl (Nat.le_of_ble_eq_true rfl), fun p hp => ?_⟩
          exact k _ _ (((k2.trans k3).trans k4).trans (Kp.new hp)) (hR4.kp (Kp.new hp)) (Dp.new (by walk_at "dp") (Ts.nl (.same x v)) hp)
end
end K7


set_option Elab.async false
set_option linter.all false
set_option maxRecDepth 100000
set_option maxHeartbeats 4000000
namespace K7
open PySem PySem.Spec PyProof.Rows L2 He Hz Cm Lx Px
local macro_rules | `(tactic| walk_at "rd") => `(tactic| repeat (first | (refine ⟨_, rfl, ?_⟩) | (refine ⟨_, _, rfl, rfl, ?_⟩) | (refine ⟨rfl, ?_⟩) | (refine ⟨szl (by omega), ?_⟩) | (refine ⟨_, _, _, _, _, rfl, (by assumption), (by assumption), (by assumption), (by rfl), ?_⟩) | (refine ⟨_, _, rfl, Or.inl (by assumption), ?_⟩)))
local macro_rules | `(tactic| walk_at "dp") => `(tactic| (repeat' (first | exact DpAll.nil | apply DpAll.cons | exact Dp.str _ | exact Dp.int _ | exact Dp.non | exact Dp.bl _ | assumption)))
section
variable {P : Program} {w : World} {K : PySem.W.Frag} {mg : Str → Option Value} {base : Heap} {H H' : Hp} {r : Addr} {ts : Addr × List Tk} {rem : List Tk} {e num : Nat} {Q : VK} {E : XK}
def spVals : Sp := fun vs H Q E => ∃ r ts e rem num f res, vs = [.ref r] ∧ RAt K H r ts e rem num ∧ f ≤ 90000 ∧ rdVals e f rem = some res ∧ match res with
  | .error x => XEr K [r] H E x
  | .ok (v, rem') => ∀ u H', Kp [r] H H' → RAt K H' r ts e rem' num → Dp K H' u (.tuple (v.map Vl.enc)) → Q u H'
theorem ok_read_values (T : Tx P K mg) : OkF P w K mg base (L2.CX P w) 4 a_read_values ["reader"] (spVals (K := K)) := by
  have nd := sc_read_values.nd
  have cl := T.c_Reader
  have F_Reader_accept := ok_accept (P := P) (w := w) (base := base) T
  have F_Reader_expect := ok_expect (P := P) (w := w) (base := base) T
  have F_read_value := ok_read_value (P := P) (w := w) (base := base) T
  refine T.f_read_values.ok (CX := L2.CX P w) sc_read_values (fun vs H Q E h => ?_) (fun cdv A outer s H vs Q E hr h => ?_)
  · obtain ⟨_, _, _, _, _, _, _, rfl, _⟩ := h
    rfl
  · obtain ⟨r, ts, e, rem, num, f, res, rfl, hR, hf, hres, k⟩ := h
    refine ⟨_, (pss_cons (ps_set (i := 1) nd rfl (Or.inl rfl) (pe_lst pa_nil))
      (pss_cons (ps_if (pt_not (pt_val (pe_meth (pv 0) T.c_Reader T.m_Reader_accept F_Reader_accept (hr.mono (by decide)) T.b_Reader_accept .nil pass0 (pa_cons pe_str (pa_cons pe_str pa_nil))) (fun _ => rfl))) (pss_cons (ps_expr (pe_bm PySem.F.plainAttrs_list PySem.F.slot_list_append PySem.F.type_list_append mt_append (pv 1) (pa_cons (pe_call F_read_value (hr.mono (by decide)) rfl T.g_read_value T.k_read_value T.b_read_value .nil (passes_call (takes_of rfl rfl rfl rfl) fun _ _ _ _ h => h) (pa_cons (pv 0) pa_nil)) pa_nil)))
      (pss_cons (ps_while (passes_of rfl) (pt_val (pe_meth (pv 0) T.c_Reader T.m_Reader_accept F_Reader_accept (hr.mono (by decide)) T.b_Reader_accept .nil pass0 (pa_cons pe_str (pa_cons pe_str pa_nil))) (fun _ => rfl)) (pss_one (ps_expr (pe_bm PySem.F.plainAttrs_list PySem.F.slot_list_append PySem.F.type_list_append mt_append (pv 1) (pa_cons (pe_call F_read_value (hr.mono (by decide)) rfl T.g_read_value T.k_read_value T.b_read_value .nil (passes_call (takes_of rfl rfl rfl rfl) fun _ _ _ _ h => h) (pa_cons (pv 0) pa_nil)) pa_nil)))))
      (pss_one (ps_expr (pe_meth (pv 0) T.c_Reader T.m_Reader_expect F_Reader_expect (hr.mono (by decide)) T.b_Reader_expect .nil (passes_call (takes_of rfl rfl rfl rfl) fun _ _ _ _ h => h) (pa_cons pe_str pa_nil)))))) pss_nil)
      (pss_one (ps_ret (pe_callTy call_tuple_of (by rfl) T.n_tuple (by decide +kernel) (pa_cons (pv 1) pa_nil)))))), ?_⟩
    unfold rdVals at hres
    walk_at "rd"
    refine ⟨Nat.zero_le _, fun p hp => ?_⟩
    have hpo := hR.old hp
    have k0 : Kp [r] H (upd H p (.lst [])) := Kp.new hp
    have hR0 := hR.kp (Kp.new (o := .lst []) hp)
    obtain ⟨dx, l, n, h1⟩ := hR0.ins
    have hp0 : (upd H p (.lst [])) p = some (.lst []) := upd_same
    generalize upd H p (.lst []) = H0 at k0 hR0 h1 hp0
    -- what is told at the end
    have fin : ∀ (vs : List Vl) (xs : List V) (rem' : List Tk) (Hn : Hp) (t : Addr), Kp [r] H Hn → RAt K Hn r ts e rem' num → DpAll K Hn xs (vs.map Vl.enc) → Hn t = none → Kp [r] H (upd Hn t (.tup xs)) ∧ RAt K (upd Hn t (.tup xs)) r ts e rem' num ∧ Dp K (upd Hn t (.tup xs)) (.ref t) (.tuple (vs.map Vl.enc)) := fun vs xs rem' Hn t a1 a2 a3 a4 => ⟨a1.trans (Kp.new a4), a2.kp (Kp.new a4), Dp.new a3 (vls_nl vs) a4⟩
    walk_at "rd"
    refine ⟨_, _, _, rfl, h1, rfl, ?_⟩
    walk_at "rd"
    refine ⟨r, ts, e, rem, num, "sign", ")", rfl, hR0, by decide, by decide +kernel, by decide +kernel, fun h H1 k1 hR1 => ?_, fun h H1 k1 hR1 => ?_⟩
    · rw [acc_f h] at hres
      dsimp only at hres
      have hp1 := k1.keep _ _ (by simpa using hpo.1) hp0
      walk_at "rd"
      refine ⟨.inl ⟨rfl, _, SqL.of hp1⟩, ?_⟩
      walk_at "rd"
      refine ⟨r, ts, e, rem, num, rfl, hR1, ?_⟩
      cases hv : rdVal e rem with
      | error x =>
        rw [hv] at hres
        obtain rfl := Option.some.inj hres
        exact k.back (k0.trans k1)
      | ok z =>
        obtain ⟨v, rem2⟩ := z
        rw [hv] at hres
        dsimp only at hres
        intro u H2 k2 hR2 hd2
        have hp2 := k2.keep _ _ (by simpa using hpo.1) hp1
        refine ⟨_, _, _, rfl, rfl, hp2, szt (by decide), ?_⟩
        walk_at "rd"
        have grow : ∀ (done : List Vl) (xs : List V) (v : Vl) (u : V) (Hn : Hp), Hn p = some (.lst xs) → Kp [r] H Hn → DpAll K Hn xs (done.map Vl.enc) → Dp K Hn u v.enc → Kp [r] H (upd Hn p (.lst (xs ++ [u]))) ∧ (upd Hn p (.lst (xs ++ [u]))) p = some (.lst (xs ++ [u])) ∧ DpAll K (upd Hn p (.lst (xs ++ [u]))) (xs ++ [u]) ((done ++ [v]).map Vl.enc) := fun done xs v u Hn a1 a2 a3 a4 => by
          have kk : Kp [p] Hn (upd Hn p (.lst (xs ++ [u]))) := Kp.put a1 nt_lst (by simp)
          refine ⟨a2.mine hp, upd_same, ?_⟩
          rw [List.map_append]
          exact DpAll.snoc (Dp.kps kk _ _ (vls_nl done) a3) (Dp.kp kk _ _ (Vl.nl v) a4)
        have fin2 : ∀ (done : List Vl) (res' : Except Er (List Vl × List Tk)), (match res' with
            | .error x => XEr K [r] H E x
            | .ok (vs, rem3) => match expct e ")" rem3 with
              | .error x => XEr K [r] H E x
              | .ok r3 => ∀ u Hn, Kp [r] H Hn → RAt K Hn r ts e r3 num → Dp K Hn u (.tuple ((done ++ vs).map Vl.enc)) → Q u Hn) → True := fun _ _ _ => trivial
        refine ⟨fun f' σ H' => ∃ (done : List Vl) (xs : List V) (rem' : List Tk) (res' : Except Er (List Vl × List Tk)), done.length + f' ≤ 90001 ∧ σ = [some (.ref r), some (.ref p)] ∧ Kp [r] H H' ∧ H' p = some (.lst xs) ∧ DpAll K H' xs (done.map Vl.enc) ∧ RAt K H' r ts e rem' num ∧ rdMore e f' rem' = some res' ∧ (match res' with
            | .error x => XEr K [r] H E x
            | .ok (vs, rem3) => match expct e ")" rem3 with
              | .error x => XEr K [r] H E x
              | .ok r3 => ∀ u Hn, Kp [r] H Hn → RAt K Hn r ts e r3 num → Dp K Hn u (.tuple ((done ++ vs).map Vl.enc)) → Q u Hn), ⟨f, ?_⟩, ?_⟩
        · obtain ⟨g1, g2, g3⟩ := grow [] [] v u H2 hp2 ((k0.trans k1).trans k2) .nil hd2
          cases hm : rdMore e f rem2 with
          | none =>
            rw [hm] at hres
            cases hres
          | some res' =>
            rw [hm] at hres
            refine ⟨[v], [u], rem2, res', by show 1 + f ≤ 90001; omega, rfl, g1, g2, g3, hR2.mine hpo hp2 nt_lst, hm, ?_⟩
            cases res' with
            | error x =>
              obtain rfl := Option.some.inj hres
              exact k
            | ok z =>
              obtain ⟨vs, rem3⟩ := z
              dsimp only at hres ⊢
              cases hx : expct e ")" rem3 with
              | error x =>
                rw [hx] at hres
                obtain rfl := Option.some.inj hres
                exact k
              | ok r3 =>
                rw [hx] at hres
                obtain rfl := Option.some.inj hres
                exact k
        rintro f' σ H' ⟨done, xs, rem', res', hfl, rfl, k3, hp3, hd3, hR3, hm, kr⟩
        obtain ⟨dx, l, n, h3⟩ := hR3.ins
        obtain ⟨f', rfl⟩ : ∃ m, f' = m + 1 := by
          cases f' with
          | zero => cases hm
          | succ m => exact ⟨m, rfl⟩
        unfold rdMore at hm
        walk_at "rd"
        refine ⟨_, _, _, rfl, h3, rfl, ?_⟩
        walk_at "rd"
        refine ⟨r, ts, e, rem', num, "sign", ",", rfl, hR3, by decide, by decide +kernel, by decide +kernel, fun h H4 k4 hR4 => ?_, fun h H4 k4 hR4 => ?_⟩
        · rw [acc_f h] at hm
          obtain rfl := Option.some.inj hm
          dsimp only at kr
          obtain ⟨dx, l, n, h4⟩ := hR4.ins
          have hp4 := k4.keep _ _ (by simpa using hpo.1) hp3
          walk_at "rd"
          refine ⟨_, _, _, rfl, h4, rfl, ?_⟩
          walk_at "rd"
          refine ⟨r, ts, e, rem', num, ")", rfl, hR4, by decide +kernel, ?_⟩
          cases hx : expct e ")" rem' with
          | error x =>
            rw [hx] at kr
            exact kr.back (k3.trans k4)
          | ok r3 =>
            rw [hx] at kr
            intro H5 k5 hR5
            have hp5 := k5.keep _ _ (by simpa using hpo.1) hp4
            walk_at "rd"
            refine ⟨_, _, rfl, .inl ⟨SqL.of hp5, fun t ht => ?_⟩⟩
            obtain ⟨a1, a2, a3⟩ := fin done xs r3 H5 t ((k3.trans k4).trans k5) hR5 (Dp.kps k5 _ _ (vls_nl _) (Dp.kps k4 _ _ (vls_nl _) hd3)) ht
            exact kr _ _ a1 a2 (by rw [List.append_nil]; exact a3)
        · rw [acc_t h] at hm
          dsimp only at hm
          have hp4 := k4.keep _ _ (by simpa using hpo.1) hp3
          walk_at "rd"
          refine ⟨_, fun _ _ z => z, ?_⟩
          walk_at "rd"
          refine ⟨.inl ⟨rfl, _, SqL.of hp4⟩, ?_⟩
          walk_at "rd"
          refine ⟨r, ts, e, _, num, rfl, hR4, ?_⟩
          cases hv2 : rdVal e rem'.tail with
          | error x =>
            rw [hv2] at hm
            obtain rfl := Option.some.inj hm
            exact kr.back (k3.trans k4)
          | ok z =>
            obtain ⟨v2, rem3⟩ := z
            rw [hv2] at hm
            dsimp only at hm
            intro u2 H5 k5 hR5 hd5
            have hp5 := k5.keep _ _ (by simpa using hpo.1) hp4
            have hxl : xs.length = done.length := by rw [DpAll.length hd3, List.length_map]
            refine ⟨_, _, _, rfl, rfl, hp5, szt (by omega), ?_⟩
            walk_at "rd"
            obtain ⟨g1, g2, g3⟩ := grow done xs v2 u2 H5 hp5 ((k3.trans k4).trans k5) (Dp.kps k5 _ _ (vls_nl _) (Dp.kps k4 _ _ (vls_nl _) hd3)) hd5
            cases hm2 : rdMore e f' rem3 with
            | none =>
              rw [hm2] at hm
              cases hm
            | some res2 =>
              rw [hm2] at hm
              refine ⟨f', Nat.lt_succ_self _, done ++ [v2], xs ++ [u2], rem3, res2, by rw [List.length_append]; show done.length + 1 + f' ≤ 90001; omega, rfl, g1, g2, g3, hR5.mine hpo hp5 nt_lst, hm2, ?_⟩
              cases res2 with
              | error x =>
                obtain rfl := Option.some.inj hm
                exact kr
              | ok z =>
                obtain ⟨vs, rem4⟩ := z
                obtain rfl := Option.some.inj hm
                dsimp only at kr ⊢
                rw [List.append_assoc]
                exact kr
    · rw [acc_t h] at hres
      obtain rfl := Option.some.inj hres
      have hp1 := k1.keep _ _ (by simpa using hpo.1) hp0
      walk_at "rd"
      refine ⟨_, _, rfl, .inl ⟨SqL.of hp1, fun t ht => ?_⟩⟩
      obtain ⟨a1, a2, a3⟩ := fin [] [] rem.tail H1 t (k0.trans k1) hR1 .nil ht
      exact k _ _ a1 a2 a3
end
end K7


set_option Elab.async false
set_option linter.all false
set_option maxRecDepth 100000
set_option maxHeartbeats 4000000
namespace K7
open PySem PySem.Spec PyProof.Rows L2 He Hz Cm Lx Px
local macro_rules | `(tactic| walk_at "rd") => `(tactic| repeat (first | (refine ⟨_, rfl, ?_⟩) | (refine ⟨_, _, rfl, rfl, ?_⟩) | (refine ⟨rfl, ?_⟩) | (refine ⟨szl (by omega), ?_⟩) | (refine ⟨_, _, _, _, _, rfl, (by assumption), (by assumption), (by assumption), (by rfl), ?_⟩) | (refine ⟨_, _, rfl, Or.inl (by assumption), ?_⟩)))
local macro_rules | `(tactic| walk_at "dp") => `(tactic| (repeat' (first | exact DpAll.nil | apply DpAll.cons | exact Dp.str _ | exact Dp.int _ | exact Dp.non | exact Dp.bl _ | assumption)))
section
variable {P : Program} {w : World} {K : PySem.W.Frag} {mg : Str → Option Value} {base : Heap} {H H' : Hp} {r : Addr} {ts : Addr × List Tk} {rem : List Tk} {e num : Nat} {Q : VK} {E : XK}
mutual
theorem Sm.nl : ∀ s : Sm, noL s.enc = true
  | .new x k => rfl
  | .set x v k => by
    show (true && (true && (noL v.enc && (true && true)))) = true
    rw [Vl.nl]
    rfl
  | .load x y f k => rfl
  | .add x y n k => rfl
  | .call x g vs k => by
    show (true && (true && (true && (noLs (vs.map Vl.enc) && (true && true))))) = true
    rw [vls_nl]
    rfl
  | .store x f v k => by
    show (true && (true && (true && (noL v.enc && (true && true))))) = true
    rw [Vl.nl]
    rfl
  | .out x k => rfl
  | .ret v k => by
    show (true && (noL v.enc && (true && true))) = true
    rw [Vl.nl]
    rfl
  | .ite t a b k => by
    show (true && (noL t.enc && (noLs (encs a) && (noLs (encs b) && (true && true))))) = true
    rw [Ts.nl, Sms.nl a, Sms.nl b]
    rfl
  | .whl t a k => by
    show (true && (noL t.enc && (noLs (encs a) && (true && true)))) = true
    rw [Ts.nl, Sms.nl a]
    rfl
theorem Sms.nl : ∀ l : List Sm, noLs (encs l) = true
  | [] => rfl
  | s :: l => by
    show (noL s.enc && noLs (encs l)) = true
    rw [Sm.nl s, Sms.nl l]
    rfl
end
def SOut (K : PySem.W.Frag) (H : Hp) (Q : VK) (E : XK) (r : Addr) (ts : Addr × List Tk) (e num : Nat) : Except Er (Sm × List Tk) → Prop
  | .error x => XEr K [r] H E x
  | .ok (v, rem') => ∀ u H', Kp [r] H H' → RAt K H' r ts e rem' num → Dp K H' u v.enc → Q u H'
theorem SOut.back {H1 : Hp} : ∀ {res : Except Er (Sm × List Tk)}, SOut K H Q E r ts e num res → Kp [r] H H1 → SOut K H1 Q E r ts e num res
  | .error x, k, k1 => XEr.back k k1
  | .ok (v, rem'), k, k1 => fun u H' a b c => k u H' (k1.trans a) b c
def spRight : Sp := fun vs H Q E => ∃ r ts e rem num x k f res, vs = [.ref r, .str x, .int (k : Nat)] ∧ RAt K H r ts e rem num ∧ f ≤ 90000 ∧ rdRight e f x k rem = some res ∧ SOut K H Q E r ts e num res
theorem ok_read_right (T : Tx P K mg) : OkF P w K mg base (L2.CX P w) 5 a_read_right ["reader", "x", "number"] (spRight (K := K)) := by
  have nd := sc_read_right.nd
  have cl := T.c_Reader
  have F_Reader_accept := ok_accept (P := P) (w := w) (base := base) T
  have F_Reader_peek := ok_peek (P := P) (w := w) (base := base) T
  have F_Reader_read := ok_read (P := P) (w := w) (base := base) T
  have F_read_value := ok_read_value (P := P) (w := w) (base := base) T
  have F_read_field := ok_read_field (P := P) (w := w) (base := base) T
  have F_read_values := ok_read_values (P := P) (w := w) (base := base) T
  refine T.f_read_right.ok (CX := L2.CX P w) sc_read_right (fun vs H Q E h => ?_) (fun cdv A outer s H vs Q E hr h => ?_)
  · obtain ⟨_, _, _, _, _, _, _, _, _, rfl, _⟩ := h
    rfl
  · obtain ⟨r, ts, e, rem, num, x, kk, f, res, rfl, hR, hf, hres, k⟩ := h
    obtain ⟨dx, l, n, h1⟩ := hR.ins
    refine ⟨_, (pss_cons (ps_if (pt_val (pe_meth (pv 0) T.c_Reader T.m_Reader_accept F_Reader_accept (hr.mono (by decide)) T.b_Reader_accept .nil pass0 (pa_cons pe_str (pa_cons pe_str pa_nil))) (fun _ => rfl)) (pss_one (ps_ret (pe_tup (pa_cons pe_str (pa_cons (pv 1) (pa_cons (pv 2) pa_nil)))))) pss_nil)
      (pss_cons (ps_if (pt_cmpR op_ne (pe_ix ix_tup (pe_meth0 (pv 0) T.c_Reader T.m_Reader_peek F_Reader_peek (hr.mono (by decide)) T.b_Reader_peek .nil pass0) pe_int (fun _ _ => rfl)) pe_str (nomark _)) (pss_one (ps_ret (pe_tup (pa_cons pe_str (pa_cons (pv 1) (pa_cons (pe_call F_read_value (hr.mono (by decide)) rfl T.g_read_value T.k_read_value T.b_read_value .nil (passes_call (takes_of rfl rfl rfl rfl) fun _ _ _ _ h => h) (pa_cons (pv 0) pa_nil)) (pa_cons (pv 2) pa_nil))))))) pss_nil)
      (pss_cons (ps_set (i := 3) nd rfl (Or.inl rfl) (pe_meth (pv 0) T.c_Reader T.m_Reader_read F_Reader_read (hr.mono (by decide)) T.b_Reader_read .nil (passes_call (takes_of rfl rfl rfl rfl) fun _ _ _ _ h => h) (pa_cons pe_str pa_nil)))
      (pss_cons (ps_if (pt_val (pe_meth (pv 0) T.c_Reader T.m_Reader_accept F_Reader_accept (hr.mono (by decide)) T.b_Reader_accept .nil pass0 (pa_cons pe_str (pa_cons pe_str pa_nil))) (fun _ => rfl)) (pss_one (ps_ret (pe_tup (pa_cons pe_str (pa_cons (pv 1) (pa_cons (pv 3) (pa_cons (pe_call F_read_field (hr.mono (by decide)) rfl T.g_read_field T.k_read_field T.b_read_field .nil (passes_call (takes_of rfl rfl rfl rfl) fun _ _ _ _ h => h) (pa_cons (pv 0) pa_nil)) (pa_cons (pv 2) pa_nil)))))))) pss_nil)
      (pss_cons (ps_if (pt_val (pe_meth (pv 0) T.c_Reader T.m_Reader_accept F_Reader_accept (hr.mono (by decide)) T.b_Reader_accept .nil pass0 (pa_cons pe_str (pa_cons pe_str pa_nil))) (fun _ => rfl)) (pss_one (ps_ret (pe_tup (pa_cons pe_str (pa_cons (pv 1) (pa_cons (pv 3) (pa_cons (pe_call F_read_values (hr.mono (by decide)) rfl T.g_read_values T.k_read_values T.b_read_values .nil (passes_call (takes_of rfl rfl rfl rfl) fun _ _ _ _ h => h) (pa_cons (pv 0) pa_nil)) (pa_cons (pv 2) pa_nil)))))))) pss_nil)
      (pss_cons (ps_if (pt_val (pe_meth (pv 0) T.c_Reader T.m_Reader_accept F_Reader_accept (hr.mono (by decide)) T.b_Reader_accept .nil pass0 (pa_cons pe_str (pa_cons pe_str pa_nil))) (fun _ => rfl)) (pss_one (ps_ret (pe_tup (pa_cons pe_str (pa_cons (pv 1) (pa_cons (pv 3) (pa_cons (pe_meth (pv 0) T.c_Reader T.m_Reader_read F_Reader_read (hr.mono (by decide)) T.b_Reader_read .nil (passes_call (takes_of rfl rfl rfl rfl) fun _ _ _ _ h => h) (pa_cons pe_str pa_nil)) (pa_cons (pv 2) pa_nil)))))))) pss_nil)
      (pss_cons (ps_if (pt_val (pe_meth (pv 0) T.c_Reader T.m_Reader_accept F_Reader_accept (hr.mono (by decide)) T.b_Reader_accept .nil pass0 (pa_cons pe_str (pa_cons pe_str pa_nil))) (fun _ => rfl)) (pss_one (ps_ret (pe_tup (pa_cons pe_str (pa_cons (pv 1) (pa_cons (pv 3) (pa_cons (pe_op op_mod (pe_un un_neg (pe_meth (pv 0) T.c_Reader T.m_Reader_read F_Reader_read (hr.mono (by decide)) T.b_Reader_read .nil (passes_call (takes_of rfl rfl rfl rfl) fun _ _ _ _ h => h) (pa_cons pe_str pa_nil))) pe_int) (pa_cons (pv 2) pa_nil)))))))) pss_nil)
      (pss_one (ps_ret (pe_tup (pa_cons pe_str (pa_cons (pv 1) (pa_cons (pe_tup (pa_cons pe_str (pa_cons (pv 3) pa_nil))) (pa_cons (pv 2) pa_nil)))))))))))))), ?_⟩
    unfold rdRight at hres
    -- a tuple that is told
    have fin : ∀ (s : Sm) (xs : List V) (ds : List PyData) (rem' : List Tk) (Hn : Hp), s.enc = .tuple ds → res = .ok (s, rem') → Kp [r] H Hn → RAt K Hn r ts e rem' num → DpAll K Hn xs ds → ∀ t, Hn t = none → Q (.ref t) (upd Hn t (.tup xs)) := fun s xs ds rem' Hn es er a2 a3 a4 t ht => by
      subst er
      have nl := Sm.nl s
      rw [es] at nl
      exact k _ _ (a2.trans (Kp.new ht)) (a3.kp (Kp.new ht)) (by rw [es]; exact Dp.new a4 nl ht)
    walk_at "rd"
    refine ⟨_, _, _, rfl, h1, rfl, ?_⟩
    walk_at "rd"
    refine ⟨r, ts, e, rem, num, "reserved", "new", rfl, hR, by decide, by decide +kernel, by decide +kernel, fun h H1 k1 hR1 => ?_, fun h H1 k1 hR1 => ?_⟩
    rotate_left
    · -- new
      rw [acc_t h] at hres
      obtain rfl := Option.some.inj hres
      walk_at "rd"
      refine ⟨szl (Nat.le_of_ble_eq_true rfl), fin _ _ _ _ _ rfl rfl k1 hR1 (by walk_at "dp")⟩
    rw [acc_f h] at hres
    dsimp only at hres
    clear h
    obtain ⟨dx, l, n, h1⟩ := hR1.ins
    walk_at "rd"
    refine ⟨_, _, _, rfl, h1, rfl, r, ts, e, rem, num, rfl, hR1, ?_⟩
    intro u H2 k2 hd2
    have hR2 := hR1.kp k2
    replace k2 : Kp [r] H H2 := k1.trans k2.nil
    obtain ⟨q, us, rfl, hsq, hall⟩ := Dp.tupOf hd2
    obtain ⟨v0, hv0, hz0⟩ := DpAll.get hall (i := 0) (d := .str (peekK rem)) rfl
    obtain rfl := Dp.strOf hz0
    walk_at "rd"
    refine ⟨_, _, _, _, rfl, rfl, hsq, atI_nat (j := 0) hv0, ?_⟩
    walk_at "rd"
    refine iteB (fun h => ?_) (fun h => ?_)
    · have he : peekK rem ≠ "name" := fun z => by
        rw [z] at h
        exact absurd h (by decide)
      rw [if_pos he] at hres
      walk_at "rd"
      refine ⟨r, ts, e, rem, num, rfl, hR2, ?_⟩
      cases hv : rdVal e rem with
      | error x =>
        rw [hv] at hres
        obtain rfl := Option.some.inj hres
        exact XEr.back k k2
      | ok z =>
        obtain ⟨v, rem2⟩ := z
        rw [hv] at hres
        obtain rfl := Option.some.inj hres
        intro u3 H3 k3 hR3 hd3
        walk_at "rd"
        exact ⟨szl (Nat.le_of_ble_eq_true rfl), fin (.set x v kk) _ _ _ _ rfl rfl (k2.trans k3) hR3 (by walk_at "dp")⟩
    have he : ¬ peekK rem ≠ "name" := fun z => by
      have z2 : ¬ V.str (peekK rem) = V.str "name" := fun q => z (V.str.inj q)
      have z3 : (!decide (V.str (peekK rem) = V.str "name")) = false := h
      rw [decide_eq_false z2] at z3
      cases z3
    rw [if_neg he] at hres
    clear h
    obtain ⟨dx, l, n, h2⟩ := hR2.ins
    walk_at "rd"
    refine ⟨_, _, _, rfl, h2, rfl, ?_⟩
    walk_at "rd"
    refine read_name hR2 ?_
    cases hn : rdName e rem with
    | error x =>
      rw [hn] at hres
      obtain rfl := Option.some.inj hres
      exact XEr.back k k2
    | ok z =>
      obtain ⟨y, rem2⟩ := z
      rw [hn] at hres
      dsimp only at hres
      intro H3 k3 hR3
      replace k3 := k2.trans k3
      obtain ⟨dx, l, n, h1⟩ := hR3.ins
      walk_at "rd"
      refine ⟨_, _, _, rfl, h1, rfl, ?_⟩
      walk_at "rd"
      refine ⟨r, ts, e, _, num, "sign", ".", rfl, hR3, by decide, by decide +kernel, by decide +kernel, fun h H4 k4 hR4 => ?_, fun h H4 k4 hR4 => ?_⟩
      rotate_left
      · rw [acc_t h] at hres
        dsimp only at hres
        replace k4 := k3.trans k4

        walk_at "rd"
        refine ⟨r, ts, e, _, num, rfl, hR4, ?_⟩
        cases hv : rdFld e rem2.tail with
        | error x =>
          rw [hv] at hres
          obtain rfl := Option.some.inj hres
          exact XEr.back k k4
        | ok z =>
          obtain ⟨g, rem3⟩ := z
          rw [hv] at hres
          obtain rfl := Option.some.inj hres
          intro H5 k5 hR5
          walk_at "rd"
          exact ⟨szl (Nat.le_of_ble_eq_true rfl), fin (.load x y g kk) _ _ _ _ rfl rfl (k4.trans k5) hR5 (by walk_at "dp")⟩
      rw [acc_f h] at hres
      dsimp only at hres
      replace k4 := k3.trans k4
      clear h
      obtain ⟨dx, l, n, h1⟩ := hR4.ins
      walk_at "rd"
      refine ⟨_, _, _, rfl, h1, rfl, ?_⟩
      walk_at "rd"
      refine ⟨r, ts, e, _, num, "sign", "(", rfl, hR4, by decide, by decide +kernel, by decide +kernel, fun h H5 k5 hR5 => ?_, fun h H5 k5 hR5 => ?_⟩
      rotate_left
      · rw [acc_t h] at hres
        dsimp only at hres
        replace k5 := k4.trans k5

        walk_at "rd"
        cases hv : rdVals e f rem2.tail with
        | none =>
          rw [hv] at hres
          cases hres
        | some rv =>
          refine ⟨r, ts, e, _, num, f, rv, rfl, hR5, hf, hv, ?_⟩
          rw [hv] at hres
          cases rv with
          | error x =>
            obtain rfl := Option.some.inj hres
            exact XEr.back k k5
          | ok z =>
            obtain ⟨vs, rem3⟩ := z
            obtain rfl := Option.some.inj hres
            intro u6 H6 k6 hR6 hd6
            walk_at "rd"
            exact ⟨szl (Nat.le_of_ble_eq_true rfl), fin (.call x y vs kk) _ _ _ _ rfl rfl (k5.trans k6) hR6 (by walk_at "dp")⟩
      rw [acc_f h] at hres
      dsimp only at hres
      replace k5 := k4.trans k5
      clear h
      obtain ⟨dx, l, n, h1⟩ := hR5.ins
      walk_at "rd"
      refine ⟨_, _, _, rfl, h1, rfl, ?_⟩
      walk_at "rd"
      refine ⟨r, ts, e, _, num, "sign", "+", rfl, hR5, by decide, by decide +kernel, by decide +kernel, fun h H6 k6 hR6 => ?_, fun h H6 k6 hR6 => ?_⟩
      rotate_left
      · rw [acc_t h] at hres
        dsimp only at hres
        replace k6 := k5.trans k6

        obtain ⟨dx, l, n, h6⟩ := hR6.ins
        walk_at "rd"
        refine ⟨_, _, _, rfl, h6, rfl, ?_⟩
        walk_at "rd"
        refine read_num hR6 ?_
        cases hv : rdNum e rem2.tail with
        | error x =>
          rw [hv] at hres
          obtain rfl := Option.some.inj hres
          exact XEr.back k k6
        | ok z =>
          obtain ⟨g, rem3⟩ := z
          rw [hv] at hres
          obtain rfl := Option.some.inj hres
          intro H7 k7 hR7
          walk_at "rd"
          exact ⟨szl (Nat.le_of_ble_eq_true rfl), fin (.add x y g kk) _ _ _ _ rfl rfl (k6.trans k7) hR7 (by walk_at "dp")⟩
      rw [acc_f h] at hres
      dsimp only at hres
      replace k6 := k5.trans k6
      clear h
      obtain ⟨dx, l, n, h1⟩ := hR6.ins
      walk_at "rd"
      refine ⟨_, _, _, rfl, h1, rfl, ?_⟩
      walk_at "rd"
      refine ⟨r, ts, e, _, num, "sign", "-", rfl, hR6, by decide, by decide +kernel, by decide +kernel, fun h H7 k7 hR7 => ?_, fun h H7 k7 hR7 => ?_⟩
      rotate_left
      · rw [acc_t h] at hres
        dsimp only at hres
        replace k7 := k6.trans k7

        obtain ⟨dx, l, n, h7⟩ := hR7.ins
        walk_at "rd"
        refine ⟨_, _, _, rfl, h7, rfl, ?_⟩
        walk_at "rd"
        refine read_num hR7 ?_
        cases hv : rdNum e rem2.tail with
        | error x =>
          rw [hv] at hres
          obtain rfl := Option.some.inj hres
          exact XEr.back k k7
        | ok z =>
          obtain ⟨g, rem3⟩ := z
          rw [hv] at hres
          obtain rfl := Option.some.inj hres
          intro H8 k8 hR8
          walk_at "rd"
          refine ⟨(by show (0 : Int) < 65536; decide), ?_⟩
          walk_at "rd"
          exact ⟨szl (Nat.le_of_ble_eq_true rfl), fin (.add x y (-g % 65536) kk) _ _ _ _ rfl rfl (k7.trans k8) hR8 (by walk_at "dp")⟩
      rw [acc_f h] at hres
      dsimp only at hres
      replace k7 := k6.trans k7
      clear h
      obtain rfl := Option.some.inj hres
      walk_at "rd"
      refine ⟨szl (Nat.le_of_ble_eq_true rfl), fun q hq => ?_⟩
      walk_at "rd"
      have kq : Kp [] H7 (upd H7 q (.tup [.str "name", .str y])) := Kp.new hq
      refine ⟨szl (Nat.le_of_ble_eq_true rfl), fin (.set x (.nm y) kk) _ _ _ _ rfl rfl (k7.trans kq.nil) (hR7.kp kq) ?_⟩
      exact .cons (.str _) (.cons (.str _) (.cons (Dp.new (ds := [.str "name", .str y]) (by walk_at "dp") rfl hq) (.cons (.int _) .nil)))
def spAsg : Sp := fun vs H Q E => ∃ r ts e rem num k f res, vs = [.ref r, .int (k : Nat)] ∧ RAt K H r ts e rem num ∧ f ≤ 90000 ∧ rdAsg e f k rem = some res ∧ SOut K H Q E r ts e num res
theorem ok_read_assignment (T : Tx P K mg) : OkF P w K mg base (L2.CX P w) 6 a_read_assignment ["reader", "number"] (spAsg (K := K)) := by
  have nd := sc_read_assignment.nd
  have cl := T.c_Reader
  have F_Reader_accept := ok_accept (P := P) (w := w) (base := base) T
  have F_Reader_expect := ok_expect (P := P) (w := w) (base := base) T
  have F_Reader_read := ok_read (P := P) (w := w) (base := base) T
  have F_read_value := ok_read_value (P := P) (w := w) (base := base) T
  have F_read_field := ok_read_field (P := P) (w := w) (base := base) T
  have F_read_right := ok_read_right (P := P) (w := w) (base := base) T
  refine T.f_read_assignment.ok (CX := L2.CX P w) sc_read_assignment (fun vs H Q E h => ?_) (fun cdv A outer s H vs Q E hr h => ?_)
  · obtain ⟨_, _, _, _, _, _, _, _, rfl, _⟩ := h
    rfl
  · obtain ⟨r, ts, e, rem, num, kk, f, res, rfl, hR, hf, hres, k⟩ := h
    obtain ⟨dx, l, n, h1⟩ := hR.ins
    refine ⟨_, (pss_cons (ps_set (i := 2) nd rfl (Or.inl rfl) (pe_meth (pv 0) T.c_Reader T.m_Reader_read F_Reader_read (hr.mono (by decide)) T.b_Reader_read .nil (passes_call (takes_of rfl rfl rfl rfl) fun _ _ _ _ h => h) (pa_cons pe_str pa_nil)))
      (pss_cons (ps_if (pt_val (pe_meth (pv 0) T.c_Reader T.m_Reader_accept F_Reader_accept (hr.mono (by decide)) T.b_Reader_accept .nil pass0 (pa_cons pe_str (pa_cons pe_str pa_nil))) (fun _ => rfl)) (pss_cons (ps_set (i := 3) nd rfl (Or.inl rfl) (pe_call F_read_field (hr.mono (by decide)) rfl T.g_read_field T.k_read_field T.b_read_field .nil (passes_call (takes_of rfl rfl rfl rfl) fun _ _ _ _ h => h) (pa_cons (pv 0) pa_nil)))
      (pss_cons (ps_expr (pe_meth (pv 0) T.c_Reader T.m_Reader_expect F_Reader_expect (hr.mono (by decide)) T.b_Reader_expect .nil (passes_call (takes_of rfl rfl rfl rfl) fun _ _ _ _ h => h) (pa_cons pe_str pa_nil)))
      (pss_one (ps_ret (pe_tup (pa_cons pe_str (pa_cons (pv 2) (pa_cons (pv 3) (pa_cons (pe_call F_read_value (hr.mono (by decide)) rfl T.g_read_value T.k_read_value T.b_read_value .nil (passes_call (takes_of rfl rfl rfl rfl) fun _ _ _ _ h => h) (pa_cons (pv 0) pa_nil)) (pa_cons (pv 1) pa_nil)))))))))) pss_nil)
      (pss_cons (ps_expr (pe_meth (pv 0) T.c_Reader T.m_Reader_expect F_Reader_expect (hr.mono (by decide)) T.b_Reader_expect .nil (passes_call (takes_of rfl rfl rfl rfl) fun _ _ _ _ h => h) (pa_cons pe_str pa_nil)))
      (pss_one (ps_ret (pe_call F_read_right (hr.mono (by decide)) rfl T.g_read_right T.k_read_right T.b_read_right .nil (passes_call (takes_of rfl rfl rfl rfl) fun _ _ _ _ h => h) (pa_cons (pv 0) (pa_cons (pv 2) (pa_cons (pv 1) pa_nil))))))))), ?_⟩
    unfold rdAsg at hres
    walk_at "rd"
    refine ⟨_, _, _, rfl, h1, rfl, ?_⟩
    walk_at "rd"
    refine read_name hR ?_
    cases hn : rdName e rem with
    | error x =>
      rw [hn] at hres
      obtain rfl := Option.some.inj hres
      exact k
    | ok z =>
      obtain ⟨x, rem2⟩ := z
      rw [hn] at hres
      dsimp only at hres
      intro H3 k3 hR3
      obtain ⟨dx, l, n, h1⟩ := hR3.ins
      walk_at "rd"
      refine ⟨_, _, _, rfl, h1, rfl, ?_⟩
      walk_at "rd"
      refine ⟨r, ts, e, _, num, "sign", ".", rfl, hR3, by decide, by decide +kernel, by decide +kernel, fun h H4 k4 hR4 => ?_, fun h H4 k4 hR4 => ?_⟩
      · rw [acc_f h] at hres
        dsimp only at hres
        replace k4 := k3.trans k4
        obtain ⟨dx, l, n, h4⟩ := hR4.ins
        walk_at "rd"
        refine ⟨_, _, _, rfl, h4, rfl, ?_⟩
        walk_at "rd"
        refine ⟨r, ts, e, rem2, num, "=", rfl, hR4, by decide +kernel, ?_⟩
        cases hx : expct e "=" rem2 with
        | error x =>
          rw [hx] at hres
          obtain rfl := Option.some.inj hres
          exact XEr.back k k4
        | ok r3 =>
          rw [hx] at hres
          dsimp only at hres
          intro H5 k5 hR5
          walk_at "rd"
          exact ⟨r, ts, e, r3, num, x, kk, f, res, rfl, hR5, hf, hres, k.back (k4.trans k5)⟩
      · rw [acc_t h] at hres
        dsimp only at hres
        replace k4 := k3.trans k4
        walk_at "rd"
        refine ⟨r, ts, e, _, num, rfl, hR4, ?_⟩
        cases hv : rdFld e rem2.tail with
        | error x =>
          rw [hv] at hres
          obtain rfl := Option.some.inj hres
          exact XEr.back k k4
        | ok z =>
          obtain ⟨g, rem3⟩ := z
          rw [hv] at hres
          dsimp only at hres
          intro H5 k5 hR5
          replace k5 := k4.trans k5
          obtain ⟨dx, l, n, h5⟩ := hR5.ins
          walk_at "rd"
          refine ⟨_, _, _, rfl, h5, rfl, ?_⟩
          walk_at "rd"
          refine ⟨r, ts, e, rem3, num, "=", rfl, hR5, by decide +kernel, ?_⟩
          cases hx : expct e "=" rem3 with
          | error x =>
            rw [hx] at hres
            obtain rfl := Option.some.inj hres
            exact XEr.back k k5
          | ok r4 =>
            rw [hx] at hres
            dsimp only at hres
            intro H6 k6 hR6
            replace k6 := k5.trans k6
            walk_at "rd"
            refine ⟨r, ts, e, r4, num, rfl, hR6, ?_⟩
            cases hv : rdVal e r4 with
            | error x =>
              rw [hv] at hres
              obtain rfl := Option.some.inj hres
              exact XEr.back k k6
            | ok z =>
              obtain ⟨v, r5⟩ := z
              rw [hv] at hres
              obtain rfl := Option.some.inj hres
              intro u H7 k7 hR7 hd7
              walk_at "rd"
              refine ⟨szl (Nat.le_of_ble_eq_true rfl), fun q hq => ?_⟩
              exact k _ _ ((k6.trans k7).trans (Kp.new hq)) (hR7.kp (Kp.new hq)) (Dp.new (by walk_at "dp") (Sm.nl (.store x g v kk)) hq)
end
end K7


set_option Elab.async false
set_option linter.all false
set_option maxRecDepth 100000
set_option maxHeartbeats 4000000
namespace K7
open PySem PySem.Spec PyProof.Rows L2 He Hz Cm Lx Px
local macro_rules | `(tactic| walk_at "rd") => `(tactic| repeat (first | (refine ⟨_, rfl, ?_⟩) | (refine ⟨_, _, rfl, rfl, ?_⟩) | (refine ⟨rfl, ?_⟩) | (refine ⟨szl (by omega), ?_⟩) | (refine ⟨_, _, _, _, _, rfl, (by assumption), (by assumption), (by assumption), (by rfl), ?_⟩) | (refine ⟨_, _, rfl, Or.inl (by assumption), ?_⟩)))
local macro_rules | `(tactic| walk_at "dp") => `(tactic| (repeat' (first | exact DpAll.nil | apply DpAll.cons | exact Dp.str _ | exact Dp.int _ | exact Dp.non | exact Dp.bl _ | assumption)))
section
variable {P : Program} {w : World} {K : PySem.W.Frag} {mg : Str → Option Value} {base : Heap} {H H' : Hp} {r : Addr} {ts : Addr × List Tk} {rem : List Tk} {e num : Nat} {Q : VK} {E : XK}
def MOut (K : PySem.W.Frag) (H : Hp) (Q : VK) (E : XK) (r : Addr) (ts : Addr × List Tk) (e : Nat) : Except Er (Sm × List Tk × Nat) → Prop
  | .error x => XEr K [r] H E x
  | .ok (v, rem', num') => ∀ u H', Kp [r] H H' → RAt K H' r ts e rem' num' → Dp K H' u v.enc → Q u H'
def BOut (K : PySem.W.Frag) (H : Hp) (Q : VK) (E : XK) (r : Addr) (ts : Addr × List Tk) (e : Nat) : Except Er (List Sm × List Tk × Nat) → Prop
  | .error x => XEr K [r] H E x
  | .ok (v, rem', num') => ∀ u H', Kp [r] H H' → RAt K H' r ts e rem' num' → Dp K H' u (.tuple (encs v)) → Q u H'
def spStm (d : Nat) : Sp := fun vs H Q E => ∃ r ts e rem num lv f res, vs = [.ref r, .int (lv : Nat)] ∧ RAt K H r ts e rem num ∧ lv + d = 13 ∧ lv ≤ 12 ∧ f ≤ 90000 ∧ rdStm e f lv rem num = some res ∧ MOut K H Q E r ts e res
def spBlk (d : Nat) : Sp := fun vs H Q E => ∃ r ts e rem num lv f res, vs = [.ref r, .int (lv : Nat)] ∧ RAt K H r ts e rem num ∧ lv + d = 13 ∧ f ≤ 90000 ∧ rdBlk e f lv rem num = some res ∧ BOut K H Q E r ts e res
theorem sms_app (a b : List Sm) : encs (a ++ b) = encs a ++ encs b := by rw [encs_map, encs_map, encs_map, List.map_append]
theorem ok_stm (T : Tx P K mg) (d : Nat) (F_read_block : OkF P w K mg base (L2.CX P w) (2 * d + 8) a_read_block ["reader", "level"] (spBlk (K := K) d)) : OkF P w K mg base (L2.CX P w) (2 * d + 9) a_read_statement ["reader", "level"] (spStm (K := K) (d + 1)) := by
  have nd := sc_read_statement.nd
  have cl := T.c_Reader
  have F_Reader_take_number := ok_take_number (P := P) (w := w) (base := base) T
  have F_Reader_accept := ok_accept (P := P) (w := w) (base := base) T
  have F_Reader_expect := ok_expect (P := P) (w := w) (base := base) T
  have F_Reader_read := ok_read (P := P) (w := w) (base := base) T
  have F_read_value := ok_read_value (P := P) (w := w) (base := base) T
  have F_read_test := ok_read_test (P := P) (w := w) (base := base) T
  have F_read_assignment := ok_read_assignment (P := P) (w := w) (base := base) T
  refine T.f_read_statement.ok (CX := L2.CX P w) sc_read_statement (fun vs H Q E h => ?_) (fun cdv A outer s H vs Q E hr h => ?_)
  · obtain ⟨_, _, _, _, _, _, _, _, rfl, _⟩ := h
    rfl
  · obtain ⟨r, ts, e, rem, num, lv, f, res, rfl, hR, hlv, hlv2, hf, hres, k⟩ := h
    obtain ⟨dx, l, n, h1⟩ := hR.ins
    refine ⟨_, (pss_cons (ps_set (i := 2) nd rfl (Or.inl rfl) (pe_meth0 (pv 0) T.c_Reader T.m_Reader_take_number F_Reader_take_number (hr.mono (by omega)) T.b_Reader_take_number .nil pass0))
      (pss_cons (ps_if (pt_val (pe_meth (pv 0) T.c_Reader T.m_Reader_accept F_Reader_accept (hr.mono (by omega)) T.b_Reader_accept .nil pass0 (pa_cons pe_str (pa_cons pe_str pa_nil))) (fun _ => rfl)) (pss_cons (ps_set (i := 3) nd rfl (Or.inl rfl) (pe_call F_read_test (hr.mono (by omega)) rfl T.g_read_test T.k_read_test T.b_read_test .nil (passes_call (takes_of rfl rfl rfl rfl) fun _ _ _ _ h => h) (pa_cons (pv 0) pa_nil)))
      (pss_cons (ps_set (i := 4) nd rfl (Or.inl rfl) (pe_call F_read_block (hr.mono (by omega)) rfl T.g_read_block T.k_read_block T.b_read_block .nil (passes_call (takes_of rfl rfl rfl rfl) fun _ _ _ _ h => h) (pa_cons (pv 0) (pa_cons (pe_op op_add (pv 1) pe_int) pa_nil))))
      (pss_cons (ps_set (i := 5) nd rfl (Or.inl rfl) (pe_tup pa_nil))
      (pss_cons (ps_if (pt_val (pe_meth (pv 0) T.c_Reader T.m_Reader_accept F_Reader_accept (hr.mono (by omega)) T.b_Reader_accept .nil pass0 (pa_cons pe_str (pa_cons pe_str pa_nil))) (fun _ => rfl)) (pss_one (ps_set (i := 5) nd rfl (Or.inl rfl) (pe_call F_read_block (hr.mono (by omega)) rfl T.g_read_block T.k_read_block T.b_read_block .nil (passes_call (takes_of rfl rfl rfl rfl) fun _ _ _ _ h => h) (pa_cons (pv 0) (pa_cons (pe_op op_add (pv 1) pe_int) pa_nil))))) pss_nil)
      (pss_one (ps_ret (pe_tup (pa_cons pe_str (pa_cons (pv 3) (pa_cons (pv 4) (pa_cons (pv 5) (pa_cons (pv 2) pa_nil)))))))))))) pss_nil)
      (pss_cons (ps_if (pt_val (pe_meth (pv 0) T.c_Reader T.m_Reader_accept F_Reader_accept (hr.mono (by omega)) T.b_Reader_accept .nil pass0 (pa_cons pe_str (pa_cons pe_str pa_nil))) (fun _ => rfl)) (pss_cons (ps_set (i := 3) nd rfl (Or.inl rfl) (pe_call F_read_test (hr.mono (by omega)) rfl T.g_read_test T.k_read_test T.b_read_test .nil (passes_call (takes_of rfl rfl rfl rfl) fun _ _ _ _ h => h) (pa_cons (pv 0) pa_nil)))
      (pss_one (ps_ret (pe_tup (pa_cons pe_str (pa_cons (pv 3) (pa_cons (pe_call F_read_block (hr.mono (by omega)) rfl T.g_read_block T.k_read_block T.b_read_block .nil (passes_call (takes_of rfl rfl rfl rfl) fun _ _ _ _ h => h) (pa_cons (pv 0) (pa_cons (pe_op op_add (pv 1) pe_int) pa_nil))) (pa_cons (pv 2) pa_nil)))))))) pss_nil)
      (pss_cons (ps_if (pt_val (pe_meth (pv 0) T.c_Reader T.m_Reader_accept F_Reader_accept (hr.mono (by omega)) T.b_Reader_accept .nil pass0 (pa_cons pe_str (pa_cons pe_str pa_nil))) (fun _ => rfl)) (pss_one (ps_set (i := 6) nd rfl (Or.inl rfl) (pe_tup (pa_cons pe_str (pa_cons (pe_meth (pv 0) T.c_Reader T.m_Reader_read F_Reader_read (hr.mono (by omega)) T.b_Reader_read .nil (passes_call (takes_of rfl rfl rfl rfl) fun _ _ _ _ h => h) (pa_cons pe_str pa_nil)) (pa_cons (pv 2) pa_nil)))))) (pss_one (ps_if (pt_val (pe_meth (pv 0) T.c_Reader T.m_Reader_accept F_Reader_accept (hr.mono (by omega)) T.b_Reader_accept .nil pass0 (pa_cons pe_str (pa_cons pe_str pa_nil))) (fun _ => rfl)) (pss_one (ps_set (i := 6) nd rfl (Or.inl rfl) (pe_tup (pa_cons pe_str (pa_cons (pe_call F_read_value (hr.mono (by omega)) rfl T.g_read_value T.k_read_value T.b_read_value .nil (passes_call (takes_of rfl rfl rfl rfl) fun _ _ _ _ h => h) (pa_cons (pv 0) pa_nil)) (pa_cons (pv 2) pa_nil)))))) (pss_one (ps_set (i := 6) nd rfl (Or.inl rfl) (pe_call F_read_assignment (hr.mono (by omega)) rfl T.g_read_assignment T.k_read_assignment T.b_read_assignment .nil (passes_call (takes_of rfl rfl rfl rfl) fun _ _ _ _ h => h) (pa_cons (pv 0) (pa_cons (pv 2) pa_nil))))))))
      (pss_cons (ps_expr (pe_meth (pv 0) T.c_Reader T.m_Reader_expect F_Reader_expect (hr.mono (by omega)) T.b_Reader_expect .nil (passes_call (takes_of rfl rfl rfl rfl) fun _ _ _ _ h => h) (pa_cons pe_str pa_nil)))
      (pss_one (ps_ret (pv 6)))))))), ?_⟩
    obtain ⟨f, rfl⟩ : ∃ m, f = m + 1 := by
      cases f with
      | zero =>
        unfold rdStm at hres
        cases hres
      | succ m => exact ⟨m, rfl⟩
    unfold rdStm at hres
    walk_at "rd"
    refine ⟨_, _, _, rfl, h1, rfl, r, ts, e, rem, num, rfl, hR, ?_⟩
    intro H1 k1 hR1
    obtain ⟨dx, l, n, h1⟩ := hR1.ins
    walk_at "rd"
    refine ⟨_, _, _, rfl, h1, rfl, ?_⟩
    walk_at "rd"
    refine ⟨r, ts, e, rem, _, "reserved", "if", rfl, hR1, by decide, by decide +kernel, by decide +kernel, fun h H2 k2 hR2 => ?_, fun h H2 k2 hR2 => ?_⟩
    rotate_left
    · rw [acc_t h] at hres
      dsimp only at hres
      replace k2 := k1.trans k2
      walk_at "rd"
      refine ⟨r, ts, e, _, _, rfl, hR2, ?_⟩
      cases hv : rdTest e rem.tail with
      | error x =>
        rw [hv] at hres
        obtain rfl := Option.some.inj hres
        exact XEr.back k k2
      | ok z =>
        obtain ⟨t, rem2⟩ := z
        rw [hv] at hres
        dsimp only at hres
        intro u3 H3 k3 hR3 hd3
        replace k3 := k2.trans k3
        walk_at "rd"
        cases hb : rdBlk e f (lv + 1) rem2 (num + 1) with
        | none =>
          rw [hb] at hres
          cases hres
        | some rb =>
          refine ⟨r, ts, e, rem2, num + 1, lv + 1, f, rb, rfl, hR3, by omega, by omega, hb, ?_⟩
          rw [hb] at hres
          cases rb with
          | error x =>
            obtain rfl := Option.some.inj hres
            exact XEr.back k k3
          | ok z =>
            obtain ⟨a, r3, k2'⟩ := z
            dsimp only at hres
            intro u4 H4 k4 hR4 hd4
            have hd34 := Dp.kp k4 _ _ (Ts.nl t) hd3
            replace k4 := k3.trans k4
            walk_at "rd"
            refine ⟨szl (Nat.zero_le _), fun q hq => ?_⟩
            have kq : Kp [] H4 (upd H4 q (.tup [])) := Kp.new hq
            have hR5 := hR4.kp kq
            have hd5 : Dp K (upd H4 q (.tup [])) (.ref q) (.tuple (encs [])) := Dp.new .nil rfl hq
            have hd35 := Dp.kp kq _ _ (Ts.nl t) hd34
            have hd45 := Dp.kp kq (.tuple (encs a)) _ (Sms.nl a) hd4
            have k5 := k4.trans kq.nil
            generalize upd H4 q (.tup []) = H5 at hR5 hd5 hd35 hd45 k5
            obtain ⟨dx, l, n, h5⟩ := hR5.ins
            walk_at "rd"
            refine ⟨_, _, _, rfl, h5, rfl, ?_⟩
            walk_at "rd"
            refine ⟨r, ts, e, _, _, "reserved", "else", rfl, hR5, by decide, by decide +kernel, by decide +kernel, fun h H6 k6 hR6 => ?_, fun h H6 k6 hR6 => ?_⟩
            · rw [acc_f h] at hres
              obtain rfl := Option.some.inj hres
              walk_at "rd"
              refine ⟨szl (Nat.le_of_ble_eq_true rfl), fun p hp => ?_⟩
              exact k _ _ ((k5.trans k6).trans (Kp.new hp)) (hR6.kp (Kp.new hp)) (Dp.new (.cons (.str _) (.cons (Dp.kp k6 _ _ (Ts.nl t) hd35) (.cons (Dp.kp k6 (.tuple (encs a)) _ (Sms.nl a) hd45) (.cons (Dp.kp k6 _ _ rfl hd5) (.cons (.int _) .nil))))) (Sm.nl (.ite t a [] num)) hp)
            · rw [acc_t h] at hres
              dsimp only at hres
              walk_at "rd"
              cases hb2 : rdBlk e f (lv + 1) r3.tail k2' with
              | none =>
                rw [hb2] at hres
                cases hres
              | some rb2 =>
                refine ⟨r, ts, e, _, _, lv + 1, f, rb2, rfl, hR6, by omega, by omega, hb2, ?_⟩
                rw [hb2] at hres
                cases rb2 with
                | error x =>
                  obtain rfl := Option.some.inj hres
                  exact XEr.back k (k5.trans k6)
                | ok z =>
                  obtain ⟨b, r5, k3'⟩ := z
                  obtain rfl := Option.some.inj hres
                  intro u7 H7 k7 hR7 hd7
                  walk_at "rd"
                  refine ⟨szl (Nat.le_of_ble_eq_true rfl), fun p hp => ?_⟩
                  exact k _ _ (((k5.trans k6).trans k7).trans (Kp.new hp)) (hR7.kp (Kp.new hp)) (Dp.new (.cons (.str _) (.cons (Dp.kp k7 _ _ (Ts.nl t) (Dp.kp k6 _ _ (Ts.nl t) hd35)) (.cons (Dp.kp k7 (.tuple (encs a)) _ (Sms.nl a) (Dp.kp k6 (.tuple (encs a)) _ (Sms.nl a) hd45)) (.cons hd7 (.cons (.int _) .nil))))) (Sm.nl (.ite t a b num)) hp)
    rw [acc_f h] at hres
    dsimp only at hres
    clear h
    replace k2 := k1.trans k2
    obtain ⟨dx, l, n, h1⟩ := hR2.ins
    walk_at "rd"
    refine ⟨_, _, _, rfl, h1, rfl, ?_⟩
    walk_at "rd"
    refine ⟨r, ts, e, rem, _, "reserved", "while", rfl, hR2, by decide, by decide +kernel, by decide +kernel, fun h H3 k3 hR3 => ?_, fun h H3 k3 hR3 => ?_⟩
    rotate_left
    · rw [acc_t h] at hres
      dsimp only at hres
      replace k3 := k2.trans k3
      walk_at "rd"
      refine ⟨r, ts, e, _, _, rfl, hR3, ?_⟩
      cases hv : rdTest e rem.tail with
      | error x =>
        rw [hv] at hres
        obtain rfl := Option.some.inj hres
        exact XEr.back k k3
      | ok z =>
        obtain ⟨t, rem2⟩ := z
        rw [hv] at hres
        dsimp only at hres
        intro u4 H4 k4 hR4 hd4
        replace k4 := k3.trans k4
        walk_at "rd"
        cases hb : rdBlk e f (lv + 1) rem2 (num + 1) with
        | none =>
          rw [hb] at hres
          cases hres
        | some rb =>
          refine ⟨r, ts, e, rem2, num + 1, lv + 1, f, rb, rfl, hR4, by omega, by omega, hb, ?_⟩
          rw [hb] at hres
          cases rb with
          | error x =>
            obtain rfl := Option.some.inj hres
            exact XEr.back k k4
          | ok z =>
            obtain ⟨a, r3, k2'⟩ := z
            obtain rfl := Option.some.inj hres
            intro u5 H5 k5 hR5 hd5
            walk_at "rd"
            refine ⟨szl (Nat.le_of_ble_eq_true rfl), fun p hp => ?_⟩
            exact k _ _ ((k4.trans k5).trans (Kp.new hp)) (hR5.kp (Kp.new hp)) (Dp.new (.cons (.str _) (.cons (Dp.kp k5 _ _ (Ts.nl t) hd4) (.cons hd5 (.cons (.int _) .nil)))) (Sm.nl (.whl t a num)) hp)
    rw [acc_f h] at hres
    dsimp only at hres
    clear h
    replace k3 := k2.trans k3
    unfold rdPlain at hres
    obtain ⟨dx, l, n, h1⟩ := hR3.ins
    walk_at "rd"
    refine ⟨_, _, _, rfl, h1, rfl, ?_⟩
    walk_at "rd"
    refine ⟨r, ts, e, rem, _, "reserved", "out", rfl, hR3, by decide, by decide +kernel, by decide +kernel, fun h H4 k4 hR4 => ?_, fun h H4 k4 hR4 => ?_⟩
    rotate_left
    · rw [acc_t h] at hres
      dsimp only at hres
      replace k4 := k3.trans k4
      obtain ⟨dx, l, n, h1⟩ := hR4.ins
      walk_at "rd"
      refine ⟨_, _, _, rfl, h1, rfl, ?_⟩
      walk_at "rd"
      refine read_name hR4 ?_
      cases hv : rdName e rem.tail with
      | error x =>
        rw [hv] at hres
        obtain rfl := Option.some.inj hres
        exact XEr.back k k4
      | ok z =>
        obtain ⟨x, rem2⟩ := z
        rw [hv] at hres
        dsimp only at hres
        intro H5 k5 hR5
        replace k5 := k4.trans k5
        walk_at "rd"
        refine ⟨szl (Nat.le_of_ble_eq_true rfl), fun p hp => ?_⟩
        replace k5 := k5.trans (Kp.new (M := [r]) (o := .tup [.str "out", .str x, .int (num : Nat)]) hp)
        have hR6 := hR5.kp (Kp.new (o := .tup [.str "out", .str x, .int (num : Nat)]) hp)
        have hd6 : Dp K _ (.ref p) (Sm.out x num).enc := Dp.new (vs := [.str "out", .str x, .int (num : Nat)]) (by walk_at "dp") (Sm.nl (.out x num)) hp
        obtain ⟨dx, l, n, h6⟩ := hR6.ins
        walk_at "rd"
        refine ⟨_, _, _, rfl, h6, rfl, ?_⟩
        walk_at "rd"
        refine ⟨r, ts, e, rem2, _, ";", rfl, hR6, by decide +kernel, ?_⟩
        cases hx : expct e ";" rem2 with
        | error x =>
          rw [hx] at hres
          obtain rfl := Option.some.inj hres
          exact XEr.back k k5
        | ok r4 =>
          rw [hx] at hres
          obtain rfl := Option.some.inj hres
          intro H7 k7 hR7
          walk_at "rd"
          exact k _ _ (k5.trans k7) hR7 (Dp.kp k7 _ _ (Sm.nl (.out x num)) hd6)
    rw [acc_f h] at hres
    dsimp only at hres
    clear h
    replace k4 := k3.trans k4
    obtain ⟨dx, l, n, h1⟩ := hR4.ins
    walk_at "rd"
    refine ⟨_, _, _, rfl, h1, rfl, ?_⟩
    walk_at "rd"
    refine ⟨r, ts, e, rem, _, "reserved", "return", rfl, hR4, by decide, by decide +kernel, by decide +kernel, fun h H5 k5 hR5 => ?_, fun h H5 k5 hR5 => ?_⟩
    rotate_left
    · rw [acc_t h] at hres
      dsimp only at hres
      replace k5 := k4.trans k5
      walk_at "rd"
      refine ⟨r, ts, e, _, _, rfl, hR5, ?_⟩
      cases hv : rdVal e rem.tail with
      | error x =>
        rw [hv] at hres
        obtain rfl := Option.some.inj hres
        exact XEr.back k k5
      | ok z =>
        obtain ⟨v, rem2⟩ := z
        rw [hv] at hres
        dsimp only at hres
        intro u6 H6 k6 hR6 hd6
        replace k6 := k5.trans k6
        walk_at "rd"
        refine ⟨szl (Nat.le_of_ble_eq_true rfl), fun p hp => ?_⟩
        have hd7 : Dp K _ (.ref p) (Sm.ret v num).enc := Dp.new (vs := [.str "return", u6, .int (num : Nat)]) (by walk_at "dp") (Sm.nl (.ret v num)) hp
        have k7 := k6.trans (Kp.new (M := [r]) (o := .tup [.str "return", u6, .int (num : Nat)]) hp)
        have hR7 := hR6.kp (Kp.new (o := .tup [.str "return", u6, .int (num : Nat)]) hp)
        obtain ⟨dx, l, n, h7⟩ := hR7.ins
        walk_at "rd"
        refine ⟨_, _, _, rfl, h7, rfl, ?_⟩
        walk_at "rd"
        refine ⟨r, ts, e, rem2, _, ";", rfl, hR7, by decide +kernel, ?_⟩
        cases hx : expct e ";" rem2 with
        | error x =>
          rw [hx] at hres
          obtain rfl := Option.some.inj hres
          exact XEr.back k k7
        | ok r4 =>
          rw [hx] at hres
          obtain rfl := Option.some.inj hres
          intro H8 k8 hR8
          walk_at "rd"
          exact k _ _ (k7.trans k8) hR8 (Dp.kp k8 _ _ (Sm.nl (.ret v num)) hd7)
    rw [acc_f h] at hres
    dsimp only at hres
    clear h
    replace k5 := k4.trans k5
    walk_at "rd"
    cases ha : rdAsg e f num rem with
    | none =>
      rw [ha] at hres
      cases hres
    | some ra =>
      refine ⟨r, ts, e, rem, _, num, f, ra, rfl, hR5, by omega, ha, ?_⟩
      rw [ha] at hres
      cases ra with
      | error x =>
        obtain rfl := Option.some.inj hres
        exact XEr.back k k5
      | ok z =>
        obtain ⟨st, rem2⟩ := z
        dsimp only at hres
        intro u6 H6 k6 hR6 hd6
        replace k6 := k5.trans k6
        obtain ⟨dx, l, n, h6⟩ := hR6.ins
        walk_at "rd"
        refine ⟨_, _, _, rfl, h6, rfl, ?_⟩
        walk_at "rd"
        refine ⟨r, ts, e, rem2, _, ";", rfl, hR6, by decide +kernel, ?_⟩
        cases hx : expct e ";" rem2 with
        | error x =>
          rw [hx] at hres
          obtain rfl := Option.some.inj hres
          exact XEr.back k k6
        | ok r4 =>
          rw [hx] at hres
          obtain rfl := Option.some.inj hres
          intro H7 k7 hR7
          walk_at "rd"
          exact k _ _ (k6.trans k7) hR7 (Dp.kp k7 _ _ (Sm.nl st) hd6)
theorem ok_block (T : Tx P K mg) (d : Nat) (F_read_statement : OkF P w K mg base (L2.CX P w) (2 * d + 7) a_read_statement ["reader", "level"] (spStm (K := K) d)) : OkF P w K mg base (L2.CX P w) (2 * d + 8) a_read_block ["reader", "level"] (spBlk (K := K) d) := by
  have nd := sc_read_block.nd
  have cl := T.c_Reader
  have F_Reader_accept := ok_accept (P := P) (w := w) (base := base) T
  have F_Reader_expect := ok_expect (P := P) (w := w) (base := base) T
  have F_Reader_peek := ok_peek (P := P) (w := w) (base := base) T
  refine T.f_read_block.ok (CX := L2.CX P w) sc_read_block (fun vs H Q E h => ?_) (fun cdv A outer s H vs Q E hr h => ?_)
  · obtain ⟨_, _, _, _, _, _, _, _, rfl, _⟩ := h
    rfl
  · obtain ⟨r, ts, e, rem, num, lv, f, res, rfl, hR, hlv, hf, hres, k⟩ := h
    obtain ⟨dx, l, n, h1⟩ := hR.ins
    refine ⟨_, (pss_cons (ps_if (PW.pt (pw_and (pt_cmpR op_gt (pv 1) (pe_gint T.i_MAX_LEVELS) (nomark _)) (pw_and1 (pt_cmpR (op_eqD hr.units) (pe_meth0 (pv 0) T.c_Reader T.m_Reader_peek F_Reader_peek (hr.mono (by omega)) T.b_Reader_peek .nil pass0) (pe_tup (pa_cons pe_str (pa_cons pe_str pa_nil))) (nomark _))))) (pss_one (ps_raiseSx rfl T.g_Oversized T.x_Oversized hr (by omega) strR_scal (takes_of rfl rfl rfl rfl) (by exact (pa_cons pe_str pa_nil)))) pss_nil)
      (pss_cons (ps_expr (pe_meth (pv 0) T.c_Reader T.m_Reader_expect F_Reader_expect (hr.mono (by omega)) T.b_Reader_expect .nil (passes_call (takes_of rfl rfl rfl rfl) fun _ _ _ _ h => h) (pa_cons pe_str pa_nil)))
      (pss_cons (ps_set (i := 2) nd rfl (Or.inl rfl) (pe_lst pa_nil))
      (pss_cons (ps_while (passes_of rfl) (pt_not (pt_val (pe_meth (pv 0) T.c_Reader T.m_Reader_accept F_Reader_accept (hr.mono (by omega)) T.b_Reader_accept .nil pass0 (pa_cons pe_str (pa_cons pe_str pa_nil))) (fun _ => rfl))) (pss_one (ps_expr (pe_bm PySem.F.plainAttrs_list PySem.F.slot_list_append PySem.F.type_list_append mt_append (pv 2) (pa_cons (pe_call F_read_statement (hr.mono (by omega)) rfl T.g_read_statement T.k_read_statement T.b_read_statement .nil (passes_call (takes_of rfl rfl rfl rfl) fun _ _ _ _ h => h) (pa_cons (pv 0) (pa_cons (pv 1) pa_nil))) pa_nil)))))
      (pss_one (ps_ret (pe_callTy call_tuple_of (by rfl) T.n_tuple (by decide +kernel) (pa_cons (pv 2) pa_nil)))))))), ?_⟩
    obtain ⟨f, rfl⟩ : ∃ m, f = m + 1 := by
      cases f with
      | zero =>
        unfold rdBlk at hres
        cases hres
      | succ m => exact ⟨m, rfl⟩
    unfold rdBlk at hres
    walk_at "rd"
    refine iteB (fun h => ?_) (fun h => ?_)
    · have hl : 12 < lv := by
        have := of_decide_eq_true h
        omega
      walk_at "rd"
      refine ⟨_, _, _, rfl, h1, rfl, r, ts, e, rem, num, rfl, hR, ?_⟩
      intro u H2 k2 hd2
      have hR2 := hR.kp k2
      walk_at "rd"
      refine ⟨szl (Nat.le_of_ble_eq_true rfl), fun p hp => ?_⟩
      have k3 : Kp [] H2 (upd H2 p (.tup [.str "sign", .str "{"])) := Kp.new hp
      refine ⟨_, _, Dp.kp k3 _ _ ?_ hd2, Dp.new (ds := [.str "sign", .str "{"]) (by walk_at "dp") rfl hp, peek_sh hR.mem, sh2 (by decide +kernel) (by decide +kernel), _, rfl, ?_⟩
      · cases rem with
        | nil => rfl
        | cons t r' =>
          show (true && (noL t.val && true)) = true
          rw [(hR.mem t List.mem_cons_self).nl]
          rfl
      rw [eqv_isTk (by decide)]
      refine iteB (fun h2 => ?_) (fun h2 => ?_)
      · rw [if_pos ⟨hl, h2⟩] at hres
        obtain rfl := Option.some.inj hres
        walk_at "rd"
        exact ⟨trivial, fun d hd => (XEr.back k ((k2.trans k3).nil)).new hd⟩
      · rw [if_neg (fun z => by rw [h2] at z; exact absurd z.2 (by decide))] at hres
        have hR3 := hR2.kp k3
        obtain ⟨dx, l, n, h3⟩ := hR3.ins
        have ea : expct e "{" rem = .error (.mal (plc e rem)) := by
          unfold expct
          rw [acc_f h2]
        rw [ea] at hres
        obtain rfl := Option.some.inj hres
        walk_at "rd"
        refine ⟨_, _, _, rfl, h3, rfl, ?_⟩
        walk_at "rd"
        refine ⟨r, ts, e, rem, num, "{", rfl, hR3, by decide +kernel, ?_⟩
        rw [ea]
        exact XEr.back k ((k2.trans k3).nil)
    have hl : lv ≤ 12 := by
      have := of_decide_eq_false h
      omega
    rw [if_neg (fun z => by omega)] at hres
    walk_at "rd"
    refine ⟨_, _, _, rfl, h1, rfl, ?_⟩
    walk_at "rd"
    refine ⟨r, ts, e, rem, num, "{", rfl, hR, by decide +kernel, ?_⟩
    cases hx : expct e "{" rem with
    | error x =>
      rw [hx] at hres
      obtain rfl := Option.some.inj hres
      exact k
    | ok rem2 =>
      rw [hx] at hres
      dsimp only at hres
      intro H1 k1 hR1
      walk_at "rd"
      refine ⟨Nat.zero_le _, fun p hp => ?_⟩
      have hpo := hR1.old hp
      have hpH := k1.fresh (l := p) (by simpa using hpo.1) hp
      have grow : ∀ (done : List Sm) (xs : List V) (v : Sm) (u : V) (Hn : Hp), Hn p = some (.lst xs) → Kp [r] H Hn → DpAll K Hn xs (encs done) → Dp K Hn u v.enc → Kp [r] H (upd Hn p (.lst (xs ++ [u]))) ∧ (upd Hn p (.lst (xs ++ [u]))) p = some (.lst (xs ++ [u])) ∧ DpAll K (upd Hn p (.lst (xs ++ [u]))) (xs ++ [u]) (encs (done ++ [v])) := fun done xs v u Hn a1 a2 a3 a4 => by
        have kk : Kp [p] Hn (upd Hn p (.lst (xs ++ [u]))) := Kp.put a1 nt_lst (by simp)
        refine ⟨a2.mine hpH, upd_same, ?_⟩
        rw [sms_app]
        exact DpAll.snoc (Dp.kps kk _ _ (Sms.nl done) a3) (Dp.kp kk _ _ (Sm.nl v) a4)
      refine ⟨fun f' σ H' => ∃ (done : List Sm) (xs : List V) (rem' : List Tk) (num' : Nat) (res' : Except Er (List Sm × List Tk × Nat)), done.length + f' ≤ 90001 ∧ σ = [some (.ref r), some (.int (lv : Nat)), some (.ref p)] ∧ Kp [r] H H' ∧ H' p = some (.lst xs) ∧ DpAll K H' xs (encs done) ∧ RAt K H' r ts e rem' num' ∧ rdStms e f' lv rem' num' = some res' ∧ (match res' with
          | .error x => XEr K [r] H E x
          | .ok (vs, rem3, num3) => ∀ u Hn, Kp [r] H Hn → RAt K Hn r ts e rem3 num3 → Dp K Hn u (.tuple (encs (done ++ vs))) → Q u Hn), ⟨f, [], [], rem2, num, res, by show 0 + f ≤ 90001; omega, rfl, k1.trans (Kp.new hp), upd_same, .nil, hR1.kp (Kp.new hp), hres, ?_⟩, ?_⟩
      · cases res with
        | error x => exact k
        | ok z => exact k
      rintro f' σ H' ⟨done, xs, rem', num', res', hfl, rfl, k3, hp3, hd3, hR3, hm, kr⟩
      obtain ⟨dx, l, n, h3⟩ := hR3.ins
      obtain ⟨f', rfl⟩ : ∃ m, f' = m + 1 := by
        cases f' with
        | zero =>
          unfold rdStms at hm
          cases hm
        | succ m => exact ⟨m, rfl⟩
      unfold rdStms at hm
      walk_at "rd"
      refine ⟨_, _, _, rfl, h3, rfl, ?_⟩
      walk_at "rd"
      refine ⟨r, ts, e, rem', num', "sign", "}", rfl, hR3, by decide, by decide +kernel, by decide +kernel, fun h H4 k4 hR4 => ?_, fun h H4 k4 hR4 => ?_⟩
      · rw [acc_f h] at hm
        dsimp only at hm
        have hp4 := k4.keep _ _ (by simpa using hpo.1) hp3
        walk_at "rd"
        refine ⟨_, fun _ _ z => z, ?_⟩
        walk_at "rd"
        refine ⟨.inl ⟨rfl, _, SqL.of hp4⟩, ?_⟩
        walk_at "rd"
        cases hs : rdStm e f' lv rem' num' with
        | none =>
          rw [hs] at hm
          cases hm
        | some rs =>
          refine ⟨r, ts, e, _, _, lv, f', rs, rfl, hR4, hlv, hl, by omega, hs, ?_⟩
          rw [hs] at hm
          cases rs with
          | error x =>
            obtain rfl := Option.some.inj hm
            exact XEr.back kr (k3.trans k4)
          | ok z =>
            obtain ⟨st, rem3, num3⟩ := z
            dsimp only at hm
            intro u5 H5 k5 hR5 hd5
            have hp5 := k5.keep _ _ (by simpa using hpo.1) hp4
            have hxl : xs.length = done.length := by rw [DpAll.length hd3, encs_map, List.length_map]
            refine ⟨_, _, _, rfl, rfl, hp5, szt (by omega), ?_⟩
            walk_at "rd"
            obtain ⟨g1, g2, g3⟩ := grow done xs st u5 H5 hp5 ((k3.trans k4).trans k5) (Dp.kps k5 _ _ (Sms.nl _) (Dp.kps k4 _ _ (Sms.nl _) hd3)) hd5
            cases hm2 : rdStms e f' lv rem3 num3 with
            | none =>
              rw [hm2] at hm
              cases hm
            | some res2 =>
              rw [hm2] at hm
              refine ⟨f', Nat.lt_succ_self _, done ++ [st], xs ++ [u5], rem3, num3, res2, by rw [List.length_append]; show done.length + 1 + f' ≤ 90001; omega, rfl, g1, g2, g3, hR5.mine hpo hp5 nt_lst, hm2, ?_⟩
              cases res2 with
              | error x =>
                obtain rfl := Option.some.inj hm
                exact kr
              | ok z =>
                obtain ⟨vs, rem4, num4⟩ := z
                obtain rfl := Option.some.inj hm
                dsimp only at kr ⊢
                rw [List.append_assoc]
                exact kr
      · rw [acc_t h] at hm
        obtain rfl := Option.some.inj hm
        have hp4 := k4.keep _ _ (by simpa using hpo.1) hp3
        walk_at "rd"
        refine ⟨_, _, rfl, .inl ⟨SqL.of hp4, fun t ht => ?_⟩⟩
        refine kr _ _ ((k3.trans k4).trans (Kp.new ht)) (hR4.kp (Kp.new ht)) ?_
        rw [List.append_nil]
        exact Dp.new (Dp.kps k4 _ _ (Sms.nl _) hd3) (Sms.nl _) ht
/-- what is never asked -/
def spNo : Sp := fun _ _ _ _ => False
theorem ok_blocks (T : Tx P K mg) : ∀ d, OkF P w K mg base (L2.CX P w) (2 * d + 8) a_read_block ["reader", "level"] (spBlk (K := K) d)
  | 0 => ok_block T 0 (T.f_read_statement.ok (CX := L2.CX P w) sc_read_statement (fun vs H Q E h => by
      obtain ⟨_, _, _, _, _, _, _, _, _, _, h1, h2, _⟩ := h
      omega) (fun cdv A outer s H vs Q E hr h => by
      obtain ⟨_, _, _, _, _, _, _, _, _, _, h1, h2, _⟩ := h
      omega))
  | d + 1 => ok_block T (d + 1) (ok_stm T d (ok_blocks T d))
end
end K7


set_option Elab.async false
set_option linter.all false
set_option maxRecDepth 100000
set_option maxHeartbeats 4000000
namespace K7
open PySem PySem.Spec PyProof.Rows L2 He Hz Cm Lx Px
local macro_rules | `(tactic| walk_at "rd") => `(tactic| repeat (first | (refine ⟨_, rfl, ?_⟩) | (refine ⟨_, _, rfl, rfl, ?_⟩) | (refine ⟨rfl, ?_⟩) | (refine ⟨szl (by omega), ?_⟩) | (refine ⟨_, _, _, _, _, rfl, (by assumption), (by assumption), (by assumption), (by rfl), ?_⟩) | (refine ⟨_, _, rfl, Or.inl (by assumption), ?_⟩)))
local macro_rules | `(tactic| walk_at "dp") => `(tactic| (repeat' (first | exact DpAll.nil | apply DpAll.cons | exact Dp.str _ | exact Dp.int _ | exact Dp.non | exact Dp.bl _ | assumption)))
section
variable {P : Program} {w : World} {K : PySem.W.Frag} {mg : Str → Option Value} {base : Heap} {H H' : Hp} {r : Addr} {ts : Addr × List Tk} {rem : List Tk} {e num : Nat} {Q : VK} {E : XK}
theorem strs_nl : ∀ l : List Str, noLs (l.map PyData.str) = true
  | [] => rfl
  | a :: l => by
    show (true && noLs (l.map PyData.str)) = true
    rw [strs_nl l]
    rfl
theorem Fd.nl (f : Fd) : noL f.enc = true := by
  show (true && (noLs (f.ps.map PyData.str) && (noLs (encs f.body) && true))) = true
  rw [strs_nl, Sms.nl]
  rfl
def spFn : Sp := fun vs H Q E => ∃ r ts e rem num f res, vs = [.ref r] ∧ RAt K H r ts e rem num ∧ f ≤ 90000 ∧ rdFn e f rem = some res ∧ match res with
  | .error x => XEr K [r] H E x
  | .ok (g, rem', num') => ∀ u H', Kp [r] H H' → RAt K H' r ts e rem' num' → Dp K H' u g.enc → Q u H'
theorem ok_read_function (T : Tx P K mg) : OkF P w K mg base (L2.CX P w) 33 a_read_function ["reader"] (spFn (K := K)) := by
  have nd := sc_read_function.nd
  have cl := T.c_Reader
  have F_Reader_start_function := ok_start_function (P := P) (w := w) (base := base) T
  have F_Reader_accept := ok_accept (P := P) (w := w) (base := base) T
  have F_Reader_expect := ok_expect (P := P) (w := w) (base := base) T
  have F_Reader_read := ok_read (P := P) (w := w) (base := base) T
  have F_read_block := ok_blocks (P := P) (w := w) (base := base) T 12
  refine T.f_read_function.ok (CX := L2.CX P w) sc_read_function (fun vs H Q E h => ?_) (fun cdv A outer s H vs Q E hr h => ?_)
  · obtain ⟨_, _, _, _, _, _, _, rfl, _⟩ := h
    rfl
  · obtain ⟨r, ts, e, rem, num, f, res, rfl, hR, hf, hres, k⟩ := h
    obtain ⟨dx, l, n, h1⟩ := hR.ins
    refine ⟨_, (pss_cons (ps_expr (pe_meth0 (pv 0) T.c_Reader T.m_Reader_start_function F_Reader_start_function (hr.mono (by decide)) T.b_Reader_start_function .nil pass0))
      (pss_cons (ps_set (i := 1) nd rfl (Or.inl rfl) (pe_meth (pv 0) T.c_Reader T.m_Reader_read F_Reader_read (hr.mono (by decide)) T.b_Reader_read .nil (passes_call (takes_of rfl rfl rfl rfl) fun _ _ _ _ h => h) (pa_cons pe_str pa_nil)))
      (pss_cons (ps_expr (pe_meth (pv 0) T.c_Reader T.m_Reader_expect F_Reader_expect (hr.mono (by decide)) T.b_Reader_expect .nil (passes_call (takes_of rfl rfl rfl rfl) fun _ _ _ _ h => h) (pa_cons pe_str pa_nil)))
      (pss_cons (ps_set (i := 2) nd rfl (Or.inl rfl) (pe_lst pa_nil))
      (pss_cons (ps_if (pt_not (pt_val (pe_meth (pv 0) T.c_Reader T.m_Reader_accept F_Reader_accept (hr.mono (by decide)) T.b_Reader_accept .nil pass0 (pa_cons pe_str (pa_cons pe_str pa_nil))) (fun _ => rfl))) (pss_cons (ps_expr (pe_bm PySem.F.plainAttrs_list PySem.F.slot_list_append PySem.F.type_list_append mt_append (pv 2) (pa_cons (pe_meth (pv 0) T.c_Reader T.m_Reader_read F_Reader_read (hr.mono (by decide)) T.b_Reader_read .nil (passes_call (takes_of rfl rfl rfl rfl) fun _ _ _ _ h => h) (pa_cons pe_str pa_nil)) pa_nil)))
      (pss_cons (ps_while (passes_of rfl) (pt_val (pe_meth (pv 0) T.c_Reader T.m_Reader_accept F_Reader_accept (hr.mono (by decide)) T.b_Reader_accept .nil pass0 (pa_cons pe_str (pa_cons pe_str pa_nil))) (fun _ => rfl)) (pss_one (ps_expr (pe_bm PySem.F.plainAttrs_list PySem.F.slot_list_append PySem.F.type_list_append mt_append (pv 2) (pa_cons (pe_meth (pv 0) T.c_Reader T.m_Reader_read F_Reader_read (hr.mono (by decide)) T.b_Reader_read .nil (passes_call (takes_of rfl rfl rfl rfl) fun _ _ _ _ h => h) (pa_cons pe_str pa_nil)) pa_nil)))))
      (pss_one (ps_expr (pe_meth (pv 0) T.c_Reader T.m_Reader_expect F_Reader_expect (hr.mono (by decide)) T.b_Reader_expect .nil (passes_call (takes_of rfl rfl rfl rfl) fun _ _ _ _ h => h) (pa_cons pe_str pa_nil)))))) pss_nil)
      (pss_one (ps_ret (pe_tup (pa_cons (pv 1) (pa_cons (pe_callTy call_tuple_of (by rfl) T.n_tuple (by decide +kernel) (pa_cons (pv 2) pa_nil)) (pa_cons (pe_call F_read_block (hr.mono (by decide)) rfl T.g_read_block T.k_read_block T.b_read_block .nil (passes_call (takes_of rfl rfl rfl rfl) fun _ _ _ _ h => h) (pa_cons (pv 0) (pa_cons pe_int pa_nil))) pa_nil))))))))))), ?_⟩
    unfold rdFn at hres
    walk_at "rd"
    refine ⟨_, _, _, rfl, h1, rfl, r, ts, e, rem, num, rfl, hR, ?_⟩
    intro H1 k1 hR1
    obtain ⟨dx, l, n, h1⟩ := hR1.ins
    walk_at "rd"
    refine ⟨_, _, _, rfl, h1, rfl, ?_⟩
    walk_at "rd"
    refine read_name hR1 ?_
    cases hn : rdName e rem with
    | error x =>
      rw [hn] at hres
      obtain rfl := Option.some.inj hres
      exact XEr.back k k1
    | ok z =>
      obtain ⟨name, rem2⟩ := z
      rw [hn] at hres
      dsimp only at hres
      intro H2 k2 hR2
      replace k2 := k1.trans k2
      obtain ⟨dx, l, n, h2⟩ := hR2.ins
      walk_at "rd"
      refine ⟨_, _, _, rfl, h2, rfl, ?_⟩
      walk_at "rd"
      refine ⟨r, ts, e, rem2, _, "(", rfl, hR2, by decide +kernel, ?_⟩
      cases hx : expct e "(" rem2 with
      | error x =>
        rw [hx] at hres
        obtain rfl := Option.some.inj hres
        exact XEr.back k k2
      | ok rem3 =>
        rw [hx] at hres
        dsimp only at hres
        intro H3 k3 hR3
        replace k3 := k2.trans k3
        walk_at "rd"
        refine ⟨Nat.zero_le _, fun p hp => ?_⟩
        have hpo := hR3.old hp
        have hpH := k3.fresh (l := p) (by simpa using hpo.1) hp
        have k4 : Kp [r] H (upd H3 p (.lst [])) := k3.trans (Kp.new hp)
        have hR4 := hR3.kp (Kp.new (o := .lst []) hp)
        have hp4 : (upd H3 p (.lst [])) p = some (.lst []) := upd_same
        generalize upd H3 p (.lst []) = H4 at k4 hR4 hp4
        have grow : ∀ (done : List Str) (xs : List V) (v : Str) (Hn : Hp), Hn p = some (.lst xs) → Kp [r] H Hn → DpAll K Hn xs (done.map .str) → Kp [r] H (upd Hn p (.lst (xs ++ [.str v]))) ∧ (upd Hn p (.lst (xs ++ [.str v]))) p = some (.lst (xs ++ [.str v])) ∧ DpAll K (upd Hn p (.lst (xs ++ [.str v]))) (xs ++ [.str v]) ((done ++ [v]).map .str) := fun done xs v Hn a1 a2 a3 => by
          have kk : Kp [p] Hn (upd Hn p (.lst (xs ++ [.str v]))) := Kp.put a1 nt_lst (by simp)
          refine ⟨a2.mine hpH, upd_same, ?_⟩
          rw [List.map_append]
          exact DpAll.snoc (Dp.kps kk _ _ (strs_nl done) a3) (.str _)
        obtain ⟨dx, l, n, h4⟩ := hR4.ins
        walk_at "rd"
        refine ⟨_, _, _, rfl, h4, rfl, ?_⟩
        walk_at "rd"
        unfold rdPs at hres
        refine ⟨r, ts, e, rem3, _, "sign", ")", rfl, hR4, by decide, by decide +kernel, by decide +kernel, fun h H5 k5 hR5 => ?_, fun h H5 k5 hR5 => ?_⟩
        · rw [acc_f h] at hres
          dsimp only at hres
          have hp5 := k5.keep _ _ (by simpa using hpo.1) hp4
          replace k5 := k4.trans k5
          obtain ⟨dx, l, n, h5⟩ := hR5.ins
          walk_at "rd"
          refine ⟨.inl ⟨rfl, _, SqL.of hp5⟩, ?_⟩
          walk_at "rd"
          refine ⟨_, _, _, rfl, h5, rfl, ?_⟩
          walk_at "rd"
          refine read_name hR5 ?_
          cases hv : rdName e rem3 with
          | error x =>
            rw [hv] at hres
            obtain rfl := Option.some.inj hres
            exact XEr.back k k5
          | ok z =>
            obtain ⟨v, rem4⟩ := z
            rw [hv] at hres
            dsimp only at hres
            intro H6 k6 hR6
            have hp6 := k6.keep _ _ (by simpa using hpo.1) hp5
            replace k6 := k5.trans k6
            refine ⟨_, _, _, rfl, rfl, hp6, szt (by decide), ?_⟩
            walk_at "rd"
            obtain ⟨g1, g2, g3⟩ := grow [] [] v H6 hp6 k6 .nil
            refine ⟨fun f' σ H' => ∃ (done : List Str) (xs : List V) (rem' : List Tk) (res' : Except Er (List Str × List Tk)), done.length + f' ≤ 90001 ∧ σ = [some (.ref r), some (.str name), some (.ref p)] ∧ Kp [r] H H' ∧ H' p = some (.lst xs) ∧ DpAll K H' xs (done.map .str) ∧ RAt K H' r ts e rem' 0 ∧ rdNms e f' rem' = some res' ∧ (match res' with
                | .error x => res = .error x
                | .ok (vs, rem3) => match expct e ")" rem3 with
                  | .error x => res = .error x
                  | .ok r3 => (match rdBlk e f 1 r3 0 with
                    | none => none
                    | some (.error x) => some (.error x)
                    | some (.ok (b, r4, k)) => some (.ok (⟨name, done ++ vs, b⟩, r4, k))) = some res), ⟨f, ?_⟩, ?_⟩
            · cases hm : rdNms e f rem4 with
              | none =>
                rw [hm] at hres
                cases hres
              | some res' =>
                rw [hm] at hres
                refine ⟨[v], [.str v], rem4, res', by show 1 + f ≤ 90001; omega, rfl, g1, g2, g3, hR6.mine hpo hp6 nt_lst, hm, ?_⟩
                cases res' with
                | error x => exact (Option.some.inj hres).symm
                | ok z =>
                  obtain ⟨vs, rem3⟩ := z
                  dsimp only at hres ⊢
                  cases hx : expct e ")" rem3 with
                  | error x =>
                    rw [hx] at hres
                    exact (Option.some.inj hres).symm
                  | ok r3 =>
                    rw [hx] at hres
                    exact hres
            clear hres
            rintro f' σ H' ⟨done, xs, rem', res', hfl, rfl, k7, hp7, hd7, hR7, hm, kr⟩
            obtain ⟨dx, l, n, h7⟩ := hR7.ins
            obtain ⟨f', rfl⟩ : ∃ m, f' = m + 1 := by
              cases f' with
              | zero => cases hm
              | succ m => exact ⟨m, rfl⟩
            unfold rdNms at hm
            walk_at "rd"
            refine ⟨_, _, _, rfl, h7, rfl, ?_⟩
            walk_at "rd"
            refine ⟨r, ts, e, rem', _, "sign", ",", rfl, hR7, by decide, by decide +kernel, by decide +kernel, fun h H8 k8 hR8 => ?_, fun h H8 k8 hR8 => ?_⟩
            · rw [acc_f h] at hm
              obtain rfl := Option.some.inj hm
              dsimp only at kr
              obtain ⟨dx, l, n, h8⟩ := hR8.ins
              have hp8 := k8.keep _ _ (by simpa using hpo.1) hp7
              have hd8 := Dp.kps k8 _ _ (strs_nl _) hd7
              replace k8 := k7.trans k8
              walk_at "rd"
              refine ⟨_, _, _, rfl, h8, rfl, ?_⟩
              walk_at "rd"
              refine ⟨r, ts, e, rem', _, ")", rfl, hR8, by decide +kernel, ?_⟩
              cases hx : expct e ")" rem' with
              | error x =>
                rw [hx] at kr
                subst kr
                exact XEr.back k k8
              | ok r3 =>
                rw [hx] at kr
                dsimp only at kr
                rw [List.append_nil] at kr
                intro H9 k9 hR9
                have hp9 := k9.keep _ _ (by simpa using hpo.1) hp8
                have hd9 := Dp.kps k9 _ _ (strs_nl _) hd8
                replace k9 := k8.trans k9
                have hres := kr
                obtain ⟨dx, l, n, hC⟩ := hR9.ins
                walk_at "rd"
                refine ⟨_, _, rfl, .inl ⟨SqL.of hp9, fun t ht => ?_⟩⟩
                have kt : Kp [] H9 (upd H9 t (.tup xs)) := Kp.new ht
                have hRt := hR9.kp kt
                have hdt : Dp K (upd H9 t (.tup xs)) (.ref t) (.tuple (done.map .str)) := Dp.new hd9 (strs_nl done) ht
                replace kt := k9.trans kt.nil
                generalize upd H9 t (.tup xs) = HT at kt hRt hdt
                walk_at "rd"
                cases hb : rdBlk e f 1 r3 0 with
                | none =>
                  rw [hb] at hres
                  cases hres
                | some rb =>
                  refine ⟨r, ts, e, r3, 0, 1, f, rb, rfl, hRt, rfl, hf, hb, ?_⟩
                  rw [hb] at hres
                  cases rb with
                  | error x =>
                    obtain rfl := Option.some.inj hres
                    exact XEr.back k kt
                  | ok z =>
                    obtain ⟨body, r4, num4⟩ := z
                    obtain rfl := Option.some.inj hres
                    intro u5 H5 k5 hR5 hd5
                    walk_at "rd"
                    refine ⟨szl (Nat.le_of_ble_eq_true rfl), fun t2 ht2 => ?_⟩
                    exact k _ _ ((kt.trans k5).trans (Kp.new ht2)) (hR5.kp (Kp.new ht2)) (Dp.new (.cons (.str _) (.cons (Dp.kp k5 (.tuple (done.map .str)) _ (strs_nl done) hdt) (.cons hd5 .nil))) (Fd.nl ⟨name, done, body⟩) ht2)
            · rw [acc_t h] at hm
              dsimp only at hm
              obtain ⟨dx, l, n, h8⟩ := hR8.ins
              have hp8 := k8.keep _ _ (by simpa using hpo.1) hp7
              have hd8 := Dp.kps k8 _ _ (strs_nl _) hd7
              replace k8 := k7.trans k8
              walk_at "rd"
              refine ⟨_, fun _ _ z => z, ?_⟩
              walk_at "rd"
              refine ⟨.inl ⟨rfl, _, SqL.of hp8⟩, ?_⟩
              walk_at "rd"
              refine ⟨_, _, _, rfl, h8, rfl, ?_⟩
              walk_at "rd"
              refine read_name hR8 ?_
              cases hv2 : rdName e rem'.tail with
              | error x =>
                rw [hv2] at hm
                obtain rfl := Option.some.inj hm
                dsimp only at kr
                subst kr
                exact XEr.back k k8
              | ok z =>
                obtain ⟨v2, rem3⟩ := z
                rw [hv2] at hm
                dsimp only at hm
                intro H9 k9 hR9
                have hp9 := k9.keep _ _ (by simpa using hpo.1) hp8
                have hd9 := Dp.kps k9 _ _ (strs_nl _) hd8
                replace k9 := k8.trans k9
                have hxl : xs.length = done.length := by rw [DpAll.length hd9, List.length_map]
                refine ⟨_, _, _, rfl, rfl, hp9, szt (by omega), ?_⟩
                walk_at "rd"
                obtain ⟨g1, g2, g3⟩ := grow done xs v2 H9 hp9 k9 hd9
                cases hm2 : rdNms e f' rem3 with
                | none =>
                  rw [hm2] at hm
                  cases hm
                | some res2 =>
                  rw [hm2] at hm
                  refine ⟨f', Nat.lt_succ_self _, done ++ [v2], xs ++ [.str v2], rem3, res2, by rw [List.length_append]; show done.length + 1 + f' ≤ 90001; omega, rfl, g1, g2, g3, hR9.mine hpo hp9 nt_lst, hm2, ?_⟩
                  cases res2 with
                  | error x =>
                    obtain rfl := Option.some.inj hm
                    exact kr
                  | ok z =>
                    obtain ⟨vs, rem4⟩ := z
                    obtain rfl := Option.some.inj hm
                    dsimp only at kr ⊢
                    rw [List.append_assoc]
                    exact kr
        · rw [acc_t h] at hres
          dsimp only at hres
          have hp5 := k5.keep _ _ (by simpa using hpo.1) hp4
          replace k5 := k4.trans k5
          have hd5 : DpAll K H5 [] (([] : List Str).map PyData.str) := .nil
          obtain ⟨dx, l, n, hC⟩ := hR5.ins
          walk_at "rd"
          refine ⟨_, _, rfl, .inl ⟨SqL.of hp5, fun t ht => ?_⟩⟩
          have kt : Kp [] H5 (upd H5 t (.tup [])) := Kp.new ht
          have hRt := hR5.kp kt
          have hdt : Dp K (upd H5 t (.tup [])) (.ref t) (.tuple (([] : List Str).map .str)) := Dp.new hd5 (strs_nl ([] : List Str)) ht
          replace kt := k5.trans kt.nil
          generalize upd H5 t (.tup []) = HT at kt hRt hdt
          walk_at "rd"
          cases hb : rdBlk e f 1 rem3.tail 0 with
          | none =>
            rw [hb] at hres
            cases hres
          | some rb =>
            refine ⟨r, ts, e, rem3.tail, 0, 1, f, rb, rfl, hRt, rfl, hf, hb, ?_⟩
            rw [hb] at hres
            cases rb with
            | error x =>
              obtain rfl := Option.some.inj hres
              exact XEr.back k kt
            | ok z =>
              obtain ⟨body, r4, num4⟩ := z
              obtain rfl := Option.some.inj hres
              intro u5 H5 k5 hR5 hd5
              walk_at "rd"
              refine ⟨szl (Nat.le_of_ble_eq_true rfl), fun t2 ht2 => ?_⟩
              exact k _ _ ((kt.trans k5).trans (Kp.new ht2)) (hR5.kp (Kp.new ht2)) (Dp.new (.cons (.str _) (.cons (Dp.kp k5 (.tuple (([] : List Str).map .str)) _ (strs_nl ([] : List Str)) hdt) (.cons hd5 .nil))) (Fd.nl ⟨name, [], body⟩) ht2)
def spWord : Sp := fun vs H Q E => ∃ r ts e rem num v, vs = [.ref r, .str v] ∧ RAt K H r ts e rem num ∧ PyData.strOk v = true ∧ match wrd e v rem with
  | .error x => XEr K [r] H E x
  | .ok rem' => ∀ H', Kp [r] H H' → RAt K H' r ts e rem' num → Q .non H'
theorem ok_expect_word (T : Tx P K mg) : OkF P w K mg base (L2.CX P w) 3 a_expect_word ["reader", "word"] (spWord (K := K)) := by
  have nd := sc_expect_word.nd
  have cl := T.c_Reader
  have F_Reader_accept := ok_accept (P := P) (w := w) (base := base) T
  have F_Reader_place := ok_place (P := P) (w := w) (base := base) T
  refine T.f_expect_word.ok (CX := L2.CX P w) sc_expect_word (fun vs H Q E h => ?_) (fun cdv A outer s H vs Q E hr h => ?_)
  · obtain ⟨_, _, _, _, _, _, rfl, _⟩ := h
    rfl
  · obtain ⟨r, ts, e, rem, num, v, rfl, hR, ok2, k⟩ := h
    obtain ⟨dx, l, n, h1⟩ := hR.ins
    refine ⟨_, (pss_one (ps_if (pt_not (pt_val (pe_meth (pv 0) T.c_Reader T.m_Reader_accept F_Reader_accept (hr.mono (by decide)) T.b_Reader_accept .nil pass0 (pa_cons pe_str (pa_cons (pv 1) pa_nil))) (fun _ => rfl))) (pss_one (ps_raiseSx rfl T.g_Malformed T.x_Malformed hr (by decide) strR_scal (takes_of rfl rfl rfl rfl) (by exact (pa_cons (pe_meth0 (pv 0) T.c_Reader T.m_Reader_place F_Reader_place (hr.mono (by decide)) T.b_Reader_place .nil pass0) pa_nil)))) pss_nil)), ?_⟩
    unfold wrd at k
    walk_at "rd"
    refine ⟨_, _, _, rfl, h1, rfl, ?_⟩
    walk_at "rd"
    refine ⟨r, ts, e, rem, num, "reserved", v, rfl, hR, by decide, by decide +kernel, ok2, fun h H1 k1 hR1 => ?_, fun h H1 k1 hR1 => ?_⟩
    · rw [acc_f h] at k
      obtain ⟨dx, l, n, h1⟩ := hR1.ins
      walk_at "rd"
      refine ⟨_, _, _, rfl, h1, rfl, r, ts, e, rem, num, rfl, hR1, ?_⟩
      walk_at "rd"
      exact ⟨soInt hR.plc_le, fun d hd => (XEr.back k k1).new hd⟩
    · rw [acc_t h] at k
      walk_at "rd"
      exact k _ k1 hR1
end
end K7


set_option Elab.async false
set_option linter.all false
set_option maxRecDepth 100000
set_option maxHeartbeats 4000000
namespace K7
open PySem PySem.Spec PyProof.Rows L2 He Hz Cm Lx Px
local macro_rules | `(tactic| walk_at "rd") => `(tactic| repeat (first | (refine ⟨_, rfl, ?_⟩) | (refine ⟨_, _, rfl, rfl, ?_⟩) | (refine ⟨rfl, ?_⟩) | (refine ⟨szl (by omega), ?_⟩) | (refine ⟨_, _, _, _, _, rfl, (by assumption), (by assumption), (by assumption), (by rfl), ?_⟩) | (refine ⟨_, _, rfl, Or.inl (by assumption), ?_⟩)))
local macro_rules | `(tactic| walk_at "dp") => `(tactic| (repeat' (first | exact DpAll.nil | apply DpAll.cons | exact Dp.str _ | exact Dp.int _ | exact Dp.non | exact Dp.bl _ | assumption)))
section
variable {P : Program} {w : World} {K : PySem.W.Frag} {mg : Str → Option Value} {base : Heap} {H H1 H' : Hp} {r : Addr} {ts : Addr × List Tk} {rem : List Tk} {e num : Nat} {Q : VK} {E : XK}
theorem Kp.own {p : Addr} (k0 : Kp [] H H1) (hp : H p = none) (k : Kp [p] H1 H') : Kp [] H H' := ⟨fun b o _ h => k.keep b o (by
  intro m
  obtain rfl := List.mem_singleton.mp m
  rw [hp] at h
  cases h) (k0.keep b o (by simp) h), fun b xs h => k.tup b xs (k0.tup b xs h)⟩
theorem Itm.nl : ∀ i : Itm, noL i.enc = true
  | .glo x => rfl
  | .fn f => by
    show (true && (noL f.enc && true)) = true
    rw [Fd.nl]
    rfl
theorem Itms.nl (l : List Itm) : noLs (l.map Itm.enc) = true := noLs_map (List.all_eq_true.mpr fun i _ => Itm.nl i)
def IOut (K : PySem.W.Frag) (H : Hp) (Q : VK) (E : XK) : Except Er (List Itm) → Prop
  | .error x => XEr K [] H E x
  | .ok its => LOut K H Q (its.map Itm.enc)
/-- what parse tells -/
def prs (f : Nat) (x : Str) : Pr (List Itm) := match lex x.cps.toList with
  | .error er => some (.error er)
  | .ok ts => rdItms x.length f ts
def spParse : Sp := fun vs H Q E => ∃ x f res, vs = [.str x] ∧ x.length ≤ 100000 ∧ f ≤ 90000 ∧ prs f x = some res ∧ IOut K H Q E res
theorem ok_parse (T : Tx P K mg) : OkF P w K mg base (L2.CX P w) 34 a_parse ["text"] (spParse (K := K)) := by
  have nd := sc_parse.nd
  have cl := T.c_Reader
  have F_Reader___init__ := ok_Reader_init (P := P) (w := w) (base := base) T
  have F_Reader_accept := ok_accept (P := P) (w := w) (base := base) T
  have F_Reader_at_end := ok_at_end (P := P) (w := w) (base := base) T
  have F_Reader_expect := ok_expect (P := P) (w := w) (base := base) T
  have F_Reader_read := ok_read (P := P) (w := w) (base := base) T
  have F_expect_word := ok_expect_word (P := P) (w := w) (base := base) T
  have F_read_function := ok_read_function (P := P) (w := w) (base := base) T
  refine T.f_parse.ok (CX := L2.CX P w) sc_parse (fun vs H Q E h => ?_) (fun cdv A outer s H vs Q E hr h => ?_)
  · obtain ⟨_, _, _, rfl, _⟩ := h
    rfl
  · obtain ⟨x, f, res, rfl, hx, hf, hres, k⟩ := h
    refine ⟨_, (pss_cons (ps_set (i := 1) nd rfl (Or.inl rfl) (pe_make T.mk_Reader F_Reader___init__ (hr.mono (by decide)) rfl T.g_Reader T.b_Reader___init__ .nil (passes_call (takes_of rfl rfl rfl rfl) fun _ _ _ _ h => h) (pa_cons (pv 0) pa_nil)))
      (pss_cons (ps_set (i := 2) nd rfl (Or.inl rfl) (pe_lst pa_nil))
      (pss_cons (ps_while (passes_of rfl) (pt_not (pt_val (pe_meth0 (pv 1) T.c_Reader T.m_Reader_at_end F_Reader_at_end (hr.mono (by decide)) T.b_Reader_at_end .nil pass0) (fun _ => rfl))) (pss_one (ps_if (pt_val (pe_meth (pv 1) T.c_Reader T.m_Reader_accept F_Reader_accept (hr.mono (by decide)) T.b_Reader_accept .nil pass0 (pa_cons pe_str (pa_cons pe_str pa_nil))) (fun _ => rfl)) (pss_cons (ps_expr (pe_bm PySem.F.plainAttrs_list PySem.F.slot_list_append PySem.F.type_list_append mt_append (pv 2) (pa_cons (pe_tup (pa_cons pe_str (pa_cons (pe_meth (pv 1) T.c_Reader T.m_Reader_read F_Reader_read (hr.mono (by decide)) T.b_Reader_read .nil (passes_call (takes_of rfl rfl rfl rfl) fun _ _ _ _ h => h) (pa_cons pe_str pa_nil)) pa_nil))) pa_nil)))
      (pss_one (ps_expr (pe_meth (pv 1) T.c_Reader T.m_Reader_expect F_Reader_expect (hr.mono (by decide)) T.b_Reader_expect .nil (passes_call (takes_of rfl rfl rfl rfl) fun _ _ _ _ h => h) (pa_cons pe_str pa_nil))))) (pss_cons (ps_expr (pe_call F_expect_word (hr.mono (by decide)) rfl T.g_expect_word T.k_expect_word T.b_expect_word .nil (passes_call (takes_of rfl rfl rfl rfl) fun _ _ _ _ h => h) (pa_cons (pv 1) (pa_cons pe_str pa_nil))))
      (pss_one (ps_expr (pe_bm PySem.F.plainAttrs_list PySem.F.slot_list_append PySem.F.type_list_append mt_append (pv 2) (pa_cons (pe_tup (pa_cons pe_str (pa_cons (pe_call F_read_function (hr.mono (by decide)) rfl T.g_read_function T.k_read_function T.b_read_function .nil (passes_call (takes_of rfl rfl rfl rfl) fun _ _ _ _ h => h) (pa_cons (pv 1) pa_nil)) pa_nil))) pa_nil))))))))
      (pss_one (ps_ret (pv 2)))))), ?_⟩
    unfold prs at hres
    walk_at "rd"
    intro r dx hr0 hd0 hne
    have k0 : Kp [] H (upd (upd H dx (.own r)) r (.ins (ga K "Reader") dx [])) := (Kp.new hd0).trans (Kp.new (by rw [upd_ne (Ne.symm hne)]; exact hr0))
    refine ⟨r, dx, x, rfl, upd_same, hx, ?_⟩
    generalize upd (upd H dx (.own r)) r (.ins (ga K "Reader") dx []) = H0 at k0
    cases hl : lex x.cps.toList with
    | error er =>
      rw [hl] at hres
      obtain rfl := Option.some.inj hres
      exact fun d H' kk hd => k d H' (Kp.own k0 hr0 kk) hd
    | ok tl =>
      rw [hl] at hres
      dsimp only at hres
      intro l H1 hl1 k1 hR1
      walk_at "rd"
      refine ⟨Nat.zero_le _, fun p hp => ?_⟩
      have hpo := hR1.old hp
      have kr0 := Kp.own k0 hr0 k1
      have hpH := kr0.fresh (l := p) (by simp) hp
      -- all that the reader does
      have kx : ∀ (Hn Hm : Hp), Kp [] H Hn → Kp [r] Hn Hm → Kp [] H Hm := fun Hn Hm a b => Kp.own a hr0 b
      have grow : ∀ (done : List Itm) (xs : List V) (v : Itm) (u : V) (Hn : Hp), Hn p = some (.lst xs) → Kp [] H Hn → DpAll K Hn xs (done.map Itm.enc) → Dp K Hn u v.enc → Kp [] H (upd Hn p (.lst (xs ++ [u]))) ∧ (upd Hn p (.lst (xs ++ [u]))) p = some (.lst (xs ++ [u])) ∧ DpAll K (upd Hn p (.lst (xs ++ [u]))) (xs ++ [u]) ((done ++ [v]).map Itm.enc) := fun done xs v u Hn a1 a2 a3 a4 => by
        have kk : Kp [p] Hn (upd Hn p (.lst (xs ++ [u]))) := Kp.put a1 nt_lst (by simp)
        refine ⟨a2.mine hpH, upd_same, ?_⟩
        rw [List.map_append]
        exact DpAll.snoc (Dp.kps kk _ _ (Itms.nl done) a3) (Dp.kp kk _ _ (Itm.nl v) a4)
      have xb : ∀ {er : Er} {Hn Hm : Hp}, XEr K [] H E er → Kp [] H Hn → XEr K [r] Hn E er := fun kk a d H' b hd => kk d H' (kx _ _ a b) hd
      refine ⟨fun f' σ H' => ∃ (done : List Itm) (xs : List V) (rem' : List Tk) (num' : Nat) (res' : Except Er (List Itm)), done.length + f' ≤ 90001 ∧ σ = [some (.str x), some (.ref r), some (.ref p)] ∧ Kp [] H H' ∧ H' p = some (.lst xs) ∧ DpAll K H' xs (done.map Itm.enc) ∧ RAt K H' r (l, tl) x.length rem' num' ∧ rdItms x.length f' rem' = some res' ∧ (match res' with
          | .error x => XEr K [] H E x
          | .ok its => LOut K H Q ((done ++ its).map Itm.enc)), ⟨f, [], [], tl, 0, res, by show 0 + f ≤ 90001; omega, rfl, kr0.trans (Kp.new hp), upd_same, .nil, hR1.kp (Kp.new hp), hres, ?_⟩, ?_⟩
      · cases res with
        | error x => exact k
        | ok z => exact k
      clear hres
      rintro f' σ H' ⟨done, xs, rem', num', res', hfl, rfl, k3, hp3, hd3, hR3, hm, kr⟩
      have hxl : xs.length = done.length := by rw [DpAll.length hd3, List.length_map]
      obtain ⟨dx, l', n, h3⟩ := hR3.ins
      obtain ⟨f', rfl⟩ : ∃ m, f' = m + 1 := by
        cases f' with
        | zero =>
          unfold rdItms at hm
          cases hm
        | succ m => exact ⟨m, rfl⟩
      unfold rdItms at hm
      walk_at "rd"
      refine ⟨_, _, _, rfl, h3, rfl, r, (l, tl), x.length, rem', num', rfl, hR3, ?_⟩
      walk_at "rd"
      by_cases hend : rem' = []
      · subst hend
        rw [if_pos rfl] at hm
        obtain rfl := Option.some.inj hm
        have e1 : decide (([] : List Tk) = []) = true := decide_eq_true rfl
        rw [e1]
        walk_at "rd"
        dsimp only at kr
        rw [List.append_nil] at kr
        exact kr p xs H' hpH k3 hp3 hd3
      · rw [if_neg hend] at hm
        rw [decide_eq_false hend]
        walk_at "rd"
        refine ⟨_, fun _ _ z => z, ?_⟩
        walk_at "rd"
        refine ⟨_, _, _, rfl, h3, rfl, ?_⟩
        walk_at "rd"
        refine ⟨r, (l, tl), x.length, rem', num', "reserved", "global", rfl, hR3, by decide, by decide +kernel, by decide +kernel, fun h H4 k4 hR4 => ?_, fun h H4 k4 hR4 => ?_⟩
        · -- a function
          rw [acc_f h] at hm
          dsimp only at hm
          have hp4 := k4.keep _ _ (by simpa using hpo.1) hp3
          have hd4 := Dp.kps k4 _ _ (Itms.nl _) hd3
          replace k4 := kx _ _ k3 k4
          walk_at "rd"
          refine ⟨r, (l, tl), x.length, rem', num', "fn", rfl, hR4, by decide +kernel, ?_⟩
          cases hw : wrd x.length "fn" rem' with
          | error er =>
            rw [hw] at hm
            obtain rfl := Option.some.inj hm
            exact xb (Hm := H) kr k4
          | ok rem2 =>
            rw [hw] at hm
            dsimp only at hm
            intro H5 k5 hR5
            have hp5 := k5.keep _ _ (by simpa using hpo.1) hp4
            have hd5 := Dp.kps k5 _ _ (Itms.nl _) hd4
            replace k5 := kx _ _ k4 k5
            walk_at "rd"
            refine ⟨.inl ⟨rfl, _, SqL.of hp5⟩, ?_⟩
            walk_at "rd"
            cases hfn : rdFn x.length f' rem2 with
            | none =>
              rw [hfn] at hm
              cases hm
            | some rf =>
              refine ⟨r, (l, tl), x.length, rem2, num', f', rf, rfl, hR5, by omega, hfn, ?_⟩
              rw [hfn] at hm
              cases rf with
              | error er =>
                obtain rfl := Option.some.inj hm
                exact xb (Hm := H) kr k5
              | ok z =>
                obtain ⟨g, rem3, num3⟩ := z
                dsimp only at hm
                intro u6 H6 k6 hR6 hd6
                have hp6 := k6.keep _ _ (by simpa using hpo.1) hp5
                have hd65 := Dp.kps k6 _ _ (Itms.nl _) hd5
                replace k6 := kx _ _ k5 k6
                walk_at "rd"
                refine ⟨szl (Nat.le_of_ble_eq_true rfl), fun q hq => ?_⟩
                have kq : Kp [] H6 (upd H6 q (.tup [.str "fn", u6])) := Kp.new hq
                have hdq : Dp K (upd H6 q (.tup [.str "fn", u6])) (.ref q) (Itm.fn g).enc := Dp.new (by walk_at "dp") (Itm.nl (.fn g)) hq
                have hpq := kq.keep _ _ (by simp) hp6
                have hdx := Dp.kps kq _ _ (Itms.nl _) hd65
                have hRq := hR6.kp kq
                replace kq := k6.trans kq
                generalize upd H6 q (.tup [.str "fn", u6]) = H7 at kq hdq hpq hdx hRq
                refine ⟨_, _, _, rfl, rfl, hpq, szt (by omega), ?_⟩
                walk_at "rd"
                obtain ⟨g1, g2, g3⟩ := grow done xs (.fn g) (.ref q) H7 hpq kq hdx hdq
                cases hm2 : rdItms x.length f' rem3 with
                | none =>
                  rw [hm2] at hm
                  cases hm
                | some res2 =>
                  rw [hm2] at hm
                  refine ⟨f', Nat.lt_succ_self _, done ++ [.fn g], xs ++ [.ref q], rem3, num3, res2, by rw [List.length_append]; show done.length + 1 + f' ≤ 90001; omega, rfl, g1, g2, g3, hRq.mine hpo hpq nt_lst, hm2, ?_⟩
                  cases res2 with
                  | error x =>
                    obtain rfl := Option.some.inj hm
                    exact kr
                  | ok its =>
                    obtain rfl := Option.some.inj hm
                    dsimp only at kr ⊢
                    rw [List.append_assoc]
                    exact kr
        · -- a global
          rw [acc_t h] at hm
          dsimp only at hm
          have hp4 := k4.keep _ _ (by simpa using hpo.1) hp3
          have hd4 := Dp.kps k4 _ _ (Itms.nl _) hd3
          replace k4 := kx _ _ k3 k4
          obtain ⟨dx, l', n, h4⟩ := hR4.ins
          walk_at "rd"
          refine ⟨.inl ⟨rfl, _, SqL.of hp4⟩, ?_⟩
          walk_at "rd"
          refine ⟨_, _, _, rfl, h4, rfl, ?_⟩
          walk_at "rd"
          refine read_name hR4 ?_
          cases hv : rdName x.length rem'.tail with
          | error er =>
            rw [hv] at hm
            obtain rfl := Option.some.inj hm
            exact xb (Hm := H) kr k4
          | ok z =>
            obtain ⟨g, rem3⟩ := z
            rw [hv] at hm
            dsimp only at hm
            intro H6 k6 hR6
            have hp6 := k6.keep _ _ (by simpa using hpo.1) hp4
            have hd65 := Dp.kps k6 _ _ (Itms.nl _) hd4
            replace k6 := kx _ _ k4 k6
            walk_at "rd"
            refine ⟨szl (Nat.le_of_ble_eq_true rfl), fun q hq => ?_⟩
            have kq : Kp [] H6 (upd H6 q (.tup [.str "global", .str g])) := Kp.new hq
            have hdq : Dp K (upd H6 q (.tup [.str "global", .str g])) (.ref q) (Itm.glo g).enc := Dp.new (by walk_at "dp") (Itm.nl (.glo g)) hq
            have hpq := kq.keep _ _ (by simp) hp6
            have hdx := Dp.kps kq _ _ (Itms.nl _) hd65
            have hRq := hR6.kp kq
            replace kq := k6.trans kq
            generalize upd H6 q (.tup [.str "global", .str g]) = H7 at kq hdq hpq hdx hRq
            refine ⟨_, _, _, rfl, rfl, hpq, szt (by omega), ?_⟩
            walk_at "rd"
            obtain ⟨g1, g2, g3⟩ := grow done xs (.glo g) (.ref q) H7 hpq kq hdx hdq
            have hR8 := hRq.mine (o := .lst (xs ++ [.ref q])) hpo hpq nt_lst
            obtain ⟨dx, l', n, h8⟩ := hR8.ins
            walk_at "rd"
            refine ⟨_, _, _, rfl, h8, rfl, ?_⟩
            walk_at "rd"
            refine ⟨r, (l, tl), x.length, rem3, _, ";", rfl, hR8, by decide +kernel, ?_⟩
            cases hx : expct x.length ";" rem3 with
            | error er =>
              rw [hx] at hm
              obtain rfl := Option.some.inj hm
              exact xb (Hm := H) kr g1
            | ok rem4 =>
              rw [hx] at hm
              dsimp only at hm
              intro H9 k9 hR9
              have hp9 := k9.keep _ _ (by simpa using hpo.1) g2
              have hd9 := Dp.kps k9 _ _ (Itms.nl _) g3
              replace k9 := kx _ _ g1 k9
              walk_at "rd"
              cases hm2 : rdItms x.length f' rem4 with
              | none =>
                rw [hm2] at hm
                cases hm
              | some res2 =>
                rw [hm2] at hm
                refine ⟨f', Nat.lt_succ_self _, done ++ [.glo g], xs ++ [.ref q], rem4, num', res2, by rw [List.length_append]; show done.length + 1 + f' ≤ 90001; omega, rfl, k9, hp9, hd9, hR9, hm2, ?_⟩
                cases res2 with
                | error x =>
                  obtain rfl := Option.some.inj hm
                  exact kr
                | ok its =>
                  obtain rfl := Option.some.inj hm
                  dsimp only at kr ⊢
                  rw [List.append_assoc]
                  exact kr
end
end K7


set_option Elab.async false
set_option linter.all false
set_option maxRecDepth 100000
set_option maxHeartbeats 4000000
/-! programs in plain Lean -/
namespace Gx
open PySem Lx Px
def plain : Sm → Bool
  | .ite _ _ _ _ => false
  | .whl _ _ _ => false
  | _ => true
def kind : Sm → Str
  | .new _ _ => "new"
  | .set _ _ _ => "set"
  | .load _ _ _ _ => "load"
  | .add _ _ _ _ => "add"
  | .call _ _ _ _ => "call"
  | .store _ _ _ _ => "store"
  | .out _ _ => "out"
  | .ret _ _ => "return"
  | .ite _ _ _ _ => "if"
  | .whl _ _ _ => "while"
def vn : Vl → List Str
  | .nm x => [x]
  | _ => []
def vns : List Vl → List Str
  | [] => []
  | v :: r => vn v ++ vns r
def uses : Sm → List Str
  | .new x _ => [x]
  | .set x v _ => x :: vn v
  | .load x y _ _ => [x, y]
  | .add x y _ _ => [x, y]
  | .call x _ vs _ => x :: vns vs
  | .store x _ v _ => x :: vn v
  | .out x _ => [x]
  | .ret v _ => vn v
  | _ => []
def asg : Sm → Option Str
  | .new x _ => some x
  | .set x _ _ => some x
  | .load x _ _ _ => some x
  | .add x _ _ _ => some x
  | .call x _ _ _ => some x
  | _ => none
def locF (gs ps : List Str) : List Str → List Sm → List Str
  | found, [] => found
  | found, s :: r => match asg s with
    | none => locF gs ps found r
    | some x => if x ∈ found ∨ x ∈ ps ∨ x ∈ gs then locF gs ps found r else locF gs ps (found ++ [x]) r
def locals (gs : List Str) (f : Fd) : List Str := locF gs f.ps [] f.body
def fnOf (fs : List Fd) (n : Str) : Option Fd := fs.find? fun f => decide (f.name = n)
def dup : List Str → List Str → Option Str
  | _, [] => none
  | seen, p :: r => if p ∈ seen then some p else dup (seen ++ [p]) r
def ckG (fs : List Fd) : Sm → Option Er
  | .call _ g _ _ => if (fnOf fs g).isNone then some (.unk g) else none
  | _ => none
def ckC (fs : List Fd) : Sm → Option Er
  | .call _ g vs _ => match fnOf fs g with
    | none => some (.unk g)
    | some f => if f.ps.length = vs.length then none else some (.mis "count")
  | _ => none
def ckU (known : List Str) : List Str → Option Er
  | [] => none
  | x :: r => if x ∈ known then ckU known r else some (.unk x)
def ckS (fs : List Fd) (known : List Str) (s : Sm) : Option Er := match ckG fs s with
  | some e => some e
  | none => match ckU known (uses s) with
    | some e => some e
    | none => ckC fs s
def ckB (fs : List Fd) (known : List Str) : List Sm → Option Er
  | [] => none
  | s :: r => match ckS fs known s with
    | some e => some e
    | none => ckB fs known r
def ckF (gs : List Str) (fs : List Fd) (f : Fd) : Option Er := match dup [] f.ps with
  | some x => some (.cla x)
  | none => ckB fs (f.ps ++ locals gs f ++ gs) f.body
def ckFs (gs : List Str) (fs : List Fd) : List Fd → Option Er
  | [] => none
  | f :: r => match ckF gs fs f with
    | some e => some e
    | none => ckFs gs fs r
def ckAll (gs : List Str) (fs : List Fd) : Option Er := match ckFs gs fs fs with
  | some e => some e
  | none => if (fnOf fs "main").isNone then some (.unk "main") else none
def addI : List Str → List Fd → List Itm → Except Er (List Str × List Fd)
  | gs, fs, [] => .ok (gs, fs)
  | gs, fs, .glo x :: r => if x ∈ gs then .error (.cla x) else addI (gs ++ [x]) fs r
  | gs, fs, .fn f :: r => if (fnOf fs f.name).isSome then .error (.cla f.name) else addI gs (fs ++ [f]) r
def build (its : List Itm) : Except Er (List Str × List Fd) := match addI [] [] its with
  | .error e => .error e
  | .ok (gs, fs) => match ckAll gs fs with
    | some e => .error e
    | none => .ok (gs, fs)
/-- bodies without blocks, all of them short -/
def plF (f : Fd) : Bool := f.body.all plain && (decide (f.body.length ≤ 9000) && (decide (f.ps.length ≤ 9000) && f.body.all fun s => decide ((uses s).length ≤ 9000)))
def plI : Itm → Bool
  | .glo _ => true
  | .fn f => plF f
theorem kind_enc (s : Sm) : ∃ d ds, s.enc = .tuple (.str (kind s) :: d :: ds) := by cases s <;> exact ⟨_, _, rfl⟩
theorem asg_enc {s : Sm} {x : Str} (h : asg s = some x) : ∃ ds, s.enc = .tuple (.str (kind s) :: .str x :: ds) := by
  cases s <;> first | (cases h; exact ⟨_, rfl⟩) | cases h
theorem asg_kind {s : Sm} : decide (kind s ∈ (["new", "set", "load", "add", "call"] : List Str)) = (asg s).isSome := by
  have h_new : decide (("new" : Str) ∈ (["new", "set", "load", "add", "call"] : List Str)) = true := by decide +kernel
  have h_set : decide (("set" : Str) ∈ (["new", "set", "load", "add", "call"] : List Str)) = true := by decide +kernel
  have h_load : decide (("load" : Str) ∈ (["new", "set", "load", "add", "call"] : List Str)) = true := by decide +kernel
  have h_add : decide (("add" : Str) ∈ (["new", "set", "load", "add", "call"] : List Str)) = true := by decide +kernel
  have h_call : decide (("call" : Str) ∈ (["new", "set", "load", "add", "call"] : List Str)) = true := by decide +kernel
  have h_store : decide (("store" : Str) ∈ (["new", "set", "load", "add", "call"] : List Str)) = false := by decide +kernel
  have h_out : decide (("out" : Str) ∈ (["new", "set", "load", "add", "call"] : List Str)) = false := by decide +kernel
  have h_return : decide (("return" : Str) ∈ (["new", "set", "load", "add", "call"] : List Str)) = false := by decide +kernel
  have h_if : decide (("if" : Str) ∈ (["new", "set", "load", "add", "call"] : List Str)) = false := by decide +kernel
  have h_while : decide (("while" : Str) ∈ (["new", "set", "load", "add", "call"] : List Str)) = false := by decide +kernel
  cases s <;> first | exact h_new | exact h_set | exact h_load | exact h_add | exact h_call | exact h_store | exact h_out | exact h_return | exact h_if | exact h_while
theorem plain_if {s : Sm} (h : plain s = true) : kind s ≠ "if" ∧ kind s ≠ "while" := by
  have h_new : ("new" : Str) ≠ "if" ∧ ("new" : Str) ≠ "while" := by decide +kernel
  have h_set : ("set" : Str) ≠ "if" ∧ ("set" : Str) ≠ "while" := by decide +kernel
  have h_load : ("load" : Str) ≠ "if" ∧ ("load" : Str) ≠ "while" := by decide +kernel
  have h_add : ("add" : Str) ≠ "if" ∧ ("add" : Str) ≠ "while" := by decide +kernel
  have h_call : ("call" : Str) ≠ "if" ∧ ("call" : Str) ≠ "while" := by decide +kernel
  have h_store : ("store" : Str) ≠ "if" ∧ ("store" : Str) ≠ "while" := by decide +kernel
  have h_out : ("out" : Str) ≠ "if" ∧ ("out" : Str) ≠ "while" := by decide +kernel
  have h_return : ("return" : Str) ≠ "if" ∧ ("return" : Str) ≠ "while" := by decide +kernel
  cases s <;> first | exact h_new | exact h_set | exact h_load | exact h_add | exact h_call | exact h_store | exact h_out | exact h_return | cases h
end Gx


set_option Elab.async false
set_option linter.all false
set_option maxRecDepth 100000
set_option maxHeartbeats 4000000
namespace K7
open PySem PySem.Spec PyProof.Rows L2 He Hz Cm Lx Px Gx
local macro_rules | `(tactic| walk_at "rd") => `(tactic| repeat (first | (refine ⟨_, rfl, ?_⟩) | (refine ⟨_, _, rfl, rfl, ?_⟩) | (refine ⟨rfl, ?_⟩) | (refine ⟨szl (by omega), ?_⟩) | (refine ⟨_, _, _, _, _, rfl, (by assumption), (by assumption), (by assumption), (by rfl), ?_⟩) | (refine ⟨_, _, rfl, Or.inl (by assumption), ?_⟩)))
local macro_rules | `(tactic| walk_at "dp") => `(tactic| (repeat' (first | exact DpAll.nil | apply DpAll.cons | exact Dp.str _ | exact Dp.int _ | exact Dp.non | exact Dp.bl _ | assumption)))
theorem hu1_of {A : Around} {k : Nat} (hr : Room k A) : A.units + 1 < cLine := by have := hr.un; omega
theorem pe_dgetR {X : Cx} {o i : Expr} {td ty : TE} {pos : Pos} {k : Nat} (ho : PE X o td) (hi : PE X i ty) (hs : NoSl i) (hr : Room k X.A) : PE X (.Subscript o i pos) (tDGet td ty) := pe_dget (hu1_of hr) ho hi hs
section
variable {P : Program} {w : World} {K : PySem.W.Frag} {mg : Str → Option Value} {base : Heap} {H H1 H' : Hp} {a : Addr} {gs : List Str} {fs : List Fd} {Q : VK} {E : XK}
/-! ### a program's object -/
structure PgR (K : PySem.W.Frag) (H : Hp) (a dx lg df : Addr) (kvs : List (Key × V)) (gs : List Str) (fs : List Fd) : Prop where
  obj : H a = some (.ins (ga K "Program") dx [("_globals", .ref lg), ("_functions", .ref df)])
  gl : H lg = some (.lst (gs.map V.str))
  fn : H df = some (.dK kvs)
  ks : kvs.map (·.1) = fs.map fun f => (Sum.inr f.name : Key)
  dp : DpAll K H (kvs.map (·.2)) (fs.map Fd.enc)
  n1 : lg ≠ a
  n2 : df ≠ a
  n3 : lg ≠ df
  sz : gs.length ≤ 50000
  sz2 : fs.length ≤ 50000
  nd : (fs.map (·.name)).Nodup
theorem nodup_inr : ∀ {fs : List Fd}, (fs.map (·.name)).Nodup → (fs.map fun f => (Sum.inr f.name : Key)).Nodup
  | [], _ => List.nodup_nil
  | f :: fs, h => by
    rw [List.map_cons, List.nodup_cons] at h ⊢
    refine ⟨fun m => h.1 ?_, nodup_inr h.2⟩
    obtain ⟨g, hg, e⟩ := List.mem_map.mp m
    exact List.mem_map.mpr ⟨g, hg, Sum.inr.inj e⟩
theorem val_at : ∀ {kvs : List (Key × V)} {i : Nat} {k : Key} {v : V}, (kvs.map (·.1)).Nodup → kvs[i]? = some (k, v) → valV kvs k = some v
  | [], i, k, v, _, h => by cases h
  | p :: kvs, 0, k, v, _, h => by
    obtain rfl := Option.some.inj h
    exact valV_pos rfl
  | p :: kvs, i + 1, k, v, nd, h => by
    rw [List.map_cons, List.nodup_cons] at nd
    rw [List.getElem?_cons_succ] at h
    have hm : k ∈ kvs.map (·.1) := List.mem_map.mpr ⟨_, List.mem_of_getElem? h, rfl⟩
    rw [valV_neg (fun z => nd.1 (by rw [z]; exact hm))]
    exact val_at nd.2 h
def PgAt (K : PySem.W.Frag) (H : Hp) (a : Addr) (gs : List Str) (fs : List Fd) : Prop := ∃ dx lg df kvs, PgR K H a dx lg df kvs gs fs
theorem fds_nl : ∀ l : List Fd, noLs (l.map Fd.enc) = true := fun l => noLs_map (List.all_eq_true.mpr fun f _ => Fd.nl f)
theorem PgR.kp {dx lg df : Addr} {kvs : List (Key × V)} (h : PgR K H a dx lg df kvs gs fs) (k : Kp [] H H') : PgR K H' a dx lg df kvs gs fs :=
  ⟨k.keep _ _ (by simp) h.obj, k.keep _ _ (by simp) h.gl, k.keep _ _ (by simp) h.fn, h.ks, Dp.kps k _ _ (fds_nl _) h.dp, h.n1, h.n2, h.n3, h.sz, h.sz2, h.nd⟩
theorem PgAt.kp (h : PgAt K H a gs fs) (k : Kp [] H H') : PgAt K H' a gs fs := by
  obtain ⟨dx, lg, df, kvs, h⟩ := h
  exact ⟨dx, lg, df, kvs, h.kp k⟩
theorem val_fn : ∀ (kvs : List (Key × V)) (fs : List Fd), kvs.map (·.1) = fs.map (fun f => (Sum.inr f.name : Key)) → DpAll K H (kvs.map (·.2)) (fs.map Fd.enc) → ∀ n : Str, match fnOf fs n with
    | none => valV kvs (.inr n) = none
    | some f => ∃ v, valV kvs (.inr n) = some v ∧ Dp K H v f.enc
  | [], [], _, _, n => rfl
  | [], f :: fs, h, _, n => by cases h
  | kv :: kvs, [], h, _, n => by cases h
  | kv :: kvs, f :: fs, h, hd, n => by
    rw [List.map_cons, List.map_cons] at h
    obtain ⟨e1, e2⟩ := List.cons.inj h
    cases hd with
    | cons d1 d2 =>
      by_cases hn : f.name = n
      · have e3 : fnOf (f :: fs) n = some f := by
          unfold fnOf
          rw [List.find?_cons, decide_eq_true hn]
        rw [e3]
        exact ⟨kv.2, valV_pos (by rw [e1, hn]), d1⟩
      · have e3 : fnOf (f :: fs) n = fnOf fs n := by
          unfold fnOf
          rw [List.find?_cons, decide_eq_false hn]
        have e4 : valV (kv :: kvs) (.inr n) = valV kvs (.inr n) := valV_neg (by rw [e1]; exact fun z => hn (Sum.inr.inj z))
        rw [e3, e4]
        exact val_fn kvs fs e2 d2 n
theorem PgR.val {dx lg df : Addr} {kvs : List (Key × V)} (h : PgR K H a dx lg df kvs gs fs) (n : Str) : match fnOf fs n with
    | none => valV kvs (.inr n) = none
    | some f => ∃ v, valV kvs (.inr n) = some v ∧ Dp K H v f.enc := val_fn kvs fs h.ks h.dp n
/-! ### methods that only read -/
def spHas : Sp := fun vs H Q _ => ∃ a gs fs n, vs = [.ref a, .str n] ∧ PgAt K H a gs fs ∧ Q (.bl (decide (n ∈ gs))) H
theorem ok_has_global (T : Tx P K mg) : OkF P w K mg base CX0 1 a_Program_has_global ["self", "name"] (spHas (K := K)) := by
  have nd := sc_Program_has_global.nd
  have cl := T.c_Program
  have na1 := T.na_Program_globals
  refine T.f_Program_has_global.ok (CX := CX0) sc_Program_has_global (fun vs H Q E h => ?_) (fun cdv A outer s H vs Q E hr h => ?_)
  · obtain ⟨_, _, _, _, rfl, _⟩ := h
    rfl
  · obtain ⟨a, gs, fs, n, rfl, ⟨dx, lg, df, kvs, R⟩, k⟩ := h
    have h1 := R.obj
    refine ⟨_, PSs.nox (pss_one (ps_ret (pe_cmpR op_in_seq (pv 1) (pe_fld (pv 0) rfl) (by with_unfolding_all rfl)))), ?_⟩
    walk_at "rd"
    refine ⟨_, _, rfl, .inl (SqL.of R.gl), rfl, ?_⟩
    refine ⟨flat_strs _, ?_⟩
    show Q (.bl (inV (.str n) (gs.map V.str))) H
    rw [inV_strs]
    exact k
def spGlist : Sp := fun vs H Q _ => ∃ a gs fs, vs = [.ref a] ∧ PgAt K H a gs fs ∧ LOut K H Q (gs.map .str)
theorem dp_strs : ∀ l : List Str, DpAll K H (l.map V.str) (l.map PyData.str)
  | [] => .nil
  | a :: l => .cons (.str _) (dp_strs l)
theorem ok_globals_list (T : Tx P K mg) : OkF P w K mg base CX0 1 a_Program_globals_list ["self"] (spGlist (K := K)) := by
  have nd := sc_Program_globals_list.nd
  have cl := T.c_Program
  have na1 := T.na_Program_globals
  refine T.f_Program_globals_list.ok (CX := CX0) sc_Program_globals_list (fun vs H Q E h => ?_) (fun cdv A outer s H vs Q E hr h => ?_)
  · obtain ⟨_, _, _, rfl, _⟩ := h
    rfl
  · obtain ⟨a, gs, fs, rfl, ⟨dx, lg, df, kvs, R⟩, k⟩ := h
    have h1 := R.obj
    refine ⟨_, PSs.nox (pss_one (ps_ret (pe_callTy call_list_of (by rfl) T.n_list (by decide +kernel) (pa_cons (pe_fld (pv 0) rfl) pa_nil)))), ?_⟩
    walk_at "rd"
    refine ⟨_, _, rfl, .inl (SqL.of R.gl), fun l hl => ?_⟩
    exact k l _ _ hl (Kp.new hl) upd_same (dp_strs gs)
def spFunction : Sp := fun vs H Q E => ∃ a gs fs n, vs = [.ref a, .str n] ∧ PgAt K H a gs fs ∧ match fnOf fs n with
  | none => XEr K [] H E (.unk n)
  | some f => ∀ v, Dp K H v f.enc → Q v H
theorem ok_function (T : Tx P K mg) : OkF P w K mg base (L2.CX P w) 2 a_Program_function ["self", "name"] (spFunction (K := K)) := by
  have nd := sc_Program_function.nd
  have cl := T.c_Program
  have na2 := T.na_Program_functions
  refine T.f_Program_function.ok (CX := L2.CX P w) sc_Program_function (fun vs H Q E h => ?_) (fun cdv A outer s H vs Q E hr h => ?_)
  · obtain ⟨_, _, _, _, rfl, _⟩ := h
    rfl
  · obtain ⟨a, gs, fs, n, rfl, ⟨dx, lg, df, kvs, R⟩, k⟩ := h
    have h1 := R.obj
    have hv := R.val n
    refine ⟨_, (pss_cons (ps_if (pt_cmp (pc_dnotin (hu1_of hr) (pv 1) (pe_fld (pv 0) rfl))) (pss_one (ps_raiseSx rfl T.g_Unknown T.x_Unknown hr (by decide) strR_scal (takes_of rfl rfl rfl rfl) (by exact (pa_cons (pv 1) pa_nil)))) pss_nil)
      (pss_one (ps_ret (pe_dgetR (pe_fld (pv 0) rfl) (pv 1) (fun _ _ => rfl) hr)))), ?_⟩
    walk_at "rd"
    refine ⟨_, _, rfl, DGet.k (k := .inr n) R.fn, ?_⟩
    cases hf : fnOf fs n with
    | none =>
      rw [hf] at k hv
      rw [hv]
      walk_at "rd"
      exact ⟨trivial, fun d hd => XEr.new k hd⟩
    | some f =>
      rw [hf] at k hv
      obtain ⟨v, e, d⟩ := hv
      rw [e]
      walk_at "rd"
      refine ⟨_, _, rfl, .inl ⟨_, .inr n, .inl R.fn, rfl, e.symm⟩, ?_⟩
      exact k v d
def spFns : Sp := fun vs H Q _ => ∃ a gs fs, vs = [.ref a] ∧ PgAt K H a gs fs ∧ LOut K H Q (fs.map Fd.enc)
theorem ok_functions (T : Tx P K mg) : OkF P w K mg base CX0 1 a_Program_functions ["self"] (spFns (K := K)) := by
  have nd := sc_Program_functions.nd
  have cl := T.c_Program
  have na2 := T.na_Program_functions
  refine T.f_Program_functions.ok (CX := CX0) sc_Program_functions (fun vs H Q E h => ?_) (fun cdv A outer s H vs Q E hr h => ?_)
  · obtain ⟨_, _, _, rfl, _⟩ := h
    rfl
  · obtain ⟨a, gs, fs, rfl, ⟨dx, lg, df, kvs, R⟩, k⟩ := h
    refine ⟨_, PSs.nox (pss_one (ps_ret (pe_lock (pe_lc (own := [("name", 1)]) (g := gName 1) (tt := tYes) rfl nd (pi_keys (pe_fld (pv 0) rfl)) (blkOk_by (N := (["self", "name"] : List Str)) (sc := defScope s_Program_functions) (by decide +kernel)) (fun _ _ _ _ _ => pg_name (i := 1) nd rfl (Or.inl rfl)) (fun _ _ _ _ _ => pts_nil) (fun _ _ _ _ _ => by exact (by refine pe_dgetR (td := tFld K (tVar 0) "_functions") (ty := tVar 1) ?_ ?_ (fun _ _ => rfl) hr; exact pe_fld (pv 0) rfl; exact pv 1)))))), ?_⟩
    refine ⟨df, _, R.fn, trivial, fun od => ?_⟩
    have h1 : upd H df (.frz od (.dK kvs)) a = some (.ins (ga K "Program") dx [("_globals", .ref lg), ("_functions", .ref df)]) := by
      rw [upd_ne R.n2.symm]
      exact R.obj
    have hdf : upd H df (.frz od (.dK kvs)) df = some (.frz od (.dK kvs)) := upd_same
    generalize hH1 : upd H df (.frz od (.dK kvs)) = H1 at h1 hdf
    walk_at "rd"
    refine ⟨_, _, rfl, .inl ⟨_, hdf, ?_⟩⟩
    intro D hD
    have nD : D ≠ df := fun z => by
      rw [z, hdf] at hD
      cases hD
    have nDa : D ≠ a := fun z => by
      rw [z, h1] at hD
      cases hD
    have hlen : kvs.length = fs.length := by
      have z := congrArg List.length R.ks
      rw [List.length_map, List.length_map] at z
      exact z
    have hsz2 := R.sz2
    have nodup : (kvs.map (·.1)).Nodup := by
      rw [R.ks]
      have z := R.nd
      exact nodup_inr z
    refine lc_it (walk_keys (kvs := kvs)) (fun i H' => H' D = some (.lst ((kvs.map (·.2)).take i)) ∧ ∀ b, b ≠ D → H' b = H1 b) ⟨upd_same, fun b hb => upd_ne hb⟩ (fun i H' _ h => by rw [h.2 df nD.symm]; exact hdf) ?_ ?_
    · rintro i x H' H'' hi ⟨a1, a2⟩ ⟨rfl, kk, v, hkv, rfl⟩
      refine ⟨rfl, ?_⟩
      have h1' : H'' a = some (.ins (ga K "Program") dx [("_globals", .ref lg), ("_functions", .ref df)]) := by
        rw [a2 a nDa.symm]
        exact h1
      have hdf' : H'' df = some (.frz od (.dK kvs)) := by
        rw [a2 df nD.symm]
        exact hdf
      walk_at "rd"
      refine ⟨_, _, rfl, .inl ⟨kvs, kk, .inr ⟨_, hdf'⟩, rfl, (val_at nodup hkv).symm⟩, ?_⟩
      refine ⟨_, a1, ?_, upd_same.trans ?_, fun b hb => (upd_ne hb).trans (a2 b hb)⟩
      · rw [List.length_take, List.length_map]
        exact szt (by omega)
      · rw [List.take_add_one, List.getElem?_map, hkv]
        rfl
    · rintro H' ⟨a1, a2⟩
      rw [← List.length_map (f := (·.2)) (as := kvs), List.take_length] at a1
      refine ⟨by rw [a2 df nD.symm]; exact hdf, ?_⟩
      have hDH : H D = none := by
        rw [← hH1, upd_ne nD] at hD
        exact hD
      have old : ∀ b o, H b = some o → (upd H' df (.dK kvs)) b = some o := fun b o hb => by
        by_cases hz : b = df
        · subst hz
          rw [upd_same, ← hb]
          exact R.fn.symm
        · rw [upd_ne hz, a2 b (ne_of_none hb hDH), ← hH1, upd_ne hz]
          exact hb
      have kk : Kp [] H (upd H' df (.dK kvs)) := ⟨fun b o _ hb => old b o hb, fun b xs r => by
        rcases r with r | ⟨q, r⟩
        · exact .inl (old _ _ r)
        · exact .inr ⟨q, old _ _ r⟩⟩
      exact k D _ _ hDH kk (by rw [upd_ne nD]; exact a1) (Dp.kps kk _ _ (fds_nl _) R.dp)
end
end K7


set_option Elab.async false
set_option linter.all false
set_option maxRecDepth 100000
set_option maxHeartbeats 4000000
namespace K7
open PySem PySem.Spec PyProof.Rows L2 He Hz Cm Lx Px Gx
local macro_rules | `(tactic| walk_at "rd") => `(tactic| repeat (first | (refine ⟨_, rfl, ?_⟩) | (refine ⟨_, _, rfl, rfl, ?_⟩) | (refine ⟨rfl, ?_⟩) | (refine ⟨szl (by omega), ?_⟩) | (refine ⟨_, _, _, _, _, rfl, (by assumption), (by assumption), (by assumption), (by rfl), ?_⟩) | (refine ⟨_, _, rfl, Or.inl (by assumption), ?_⟩)))
local macro_rules | `(tactic| walk_at "dp") => `(tactic| (repeat' (first | exact DpAll.nil | apply DpAll.cons | exact Dp.str _ | exact Dp.int _ | exact Dp.non | exact Dp.bl _ | assumption)))
section
variable {P : Program} {w : World} {K : PySem.W.Frag} {mg : Str → Option Value} {base : Heap} {H H1 H' : Hp} {a : Addr} {gs : List Str} {fs : List Fd} {Q : VK} {E : XK}
def spSts : Sp := fun vs H Q _ => ∃ b us ss, vs = [.ref b] ∧ SqT K H b us ∧ DpAll K H us (encs ss) ∧ ss.all plain = true ∧ ss.length ≤ 9000 ∧ ∀ p H', H p = none → Kp [] H H' → H' p = some (.lst us) → Q (.ref p) H'
theorem ok_statements (T : Tx P K mg) : OkF P w K mg base CX0 4 a_statements ["block"] (spSts (K := K)) := by
  have nd := sc_statements.nd
  have F_statements : OkF P w K mg base CX0 1 a_statements ["block"] spNo := T.f_statements.ok (CX := CX0) sc_statements (fun vs H Q E h => h.elim) (fun cdv A outer s H vs Q E hr h => h.elim)
  refine T.f_statements.ok (CX := CX0) sc_statements (fun vs H Q E h => ?_) (fun cdv A outer s H vs Q E hr h => ?_)
  · obtain ⟨_, _, _, rfl, _⟩ := h
    rfl
  · obtain ⟨b, us, ss, rfl, hb, hd, hpl, hsz, k⟩ := h
    refine ⟨_, PSs.nox (pss_cons (ps_set (i := 1) nd rfl (Or.inl rfl) (pe_lst pa_nil))
      (pss_cons (ps_for PassesOwn.never rfl (pi_tup (pv 0)) (pg_name (i := 2) nd rfl (Or.inl rfl)) (pss_cons (ps_expr (pe_bm PySem.F.plainAttrs_list PySem.F.slot_list_append PySem.F.type_list_append mt_append (pv 1) (pa_cons (pv 2) pa_nil)))
      (pss_one (ps_if (pt_cmpR op_eq (pe_ix ix_tup (pv 2) pe_int (fun _ _ => rfl)) pe_str (nomark _)) (pss_one (ps_set (i := 1) nd rfl (Or.inl rfl) (pe_op op_cat (pe_op op_cat (pv 1) (pe_call F_statements (hr.mono (by decide)) rfl T.g_statements T.k_statements T.b_statements .nil pass0 (pa_cons (pe_ix ix_tup (pv 2) pe_int (fun _ _ => rfl)) pa_nil))) (pe_call F_statements (hr.mono (by decide)) rfl T.g_statements T.k_statements T.b_statements .nil pass0 (pa_cons (pe_ix ix_tup (pv 2) pe_int (fun _ _ => rfl)) pa_nil))))) (pss_one (ps_if (pt_cmpR op_eq (pe_ix ix_tup (pv 2) pe_int (fun _ _ => rfl)) pe_str (nomark _)) (pss_one (ps_set (i := 1) nd rfl (Or.inl rfl) (pe_op op_cat (pv 1) (pe_call F_statements (hr.mono (by decide)) rfl T.g_statements T.k_statements T.b_statements .nil pass0 (pa_cons (pe_ix ix_tup (pv 2) pe_int (fun _ _ => rfl)) pa_nil))))) pss_nil))))))
      (pss_one (ps_ret (pv 1))))), ?_⟩
    have hlen : us.length = ss.length := by rw [DpAll.length hd, encs_map, List.length_map]
    walk_at "rd"
    refine ⟨Nat.zero_le _, fun p hp => ?_⟩
    walk_at "rd"
    have kb : ∀ {Hn : Hp}, Kp [] H Hn → SqT K Hn b us := fun kk => kk.sqt hb
    refine ⟨⟨_, kb (Kp.new hp)⟩, for_tup (xs := us) (fun i σ H' => ∃ z, σ = [some (.ref b), some (.ref p), z] ∧ Kp [] H H' ∧ H' p = some (.lst (us.take i))) ⟨_, rfl, Kp.new hp, upd_same⟩ ?_ ?_ ?_⟩
    · rintro i σ H' _ ⟨z, rfl, k1, h1⟩
      exact kb k1
    · rintro i x σ H' hx ⟨z, rfl, k1, h1⟩
      have hi : i < us.length := (List.getElem?_eq_some_iff.mp hx).1
      have hi2 : i < ss.length := by omega
      obtain ⟨x', hx', hdx⟩ := DpAll.get hd (i := i) (d := ss[i].enc) (by rw [encs_map, List.getElem?_map, List.getElem?_eq_getElem hi2]; rfl)
      rw [hx] at hx'
      obtain rfl := Option.some.inj hx'
      obtain ⟨d1, ds, henc⟩ := kind_enc ss[i]
      have hnl := Sm.nl ss[i]
      rw [henc] at hdx hnl
      obtain ⟨q, ws, rfl, hsq, hall⟩ := Dp.tupOf hdx
      obtain ⟨v0, hv0, hz0⟩ := DpAll.get hall (i := 0) (d := .str (kind ss[i])) rfl
      obtain rfl := Dp.strOf hz0
      obtain ⟨np1, np2⟩ := plain_if (List.all_eq_true.mp hpl ss[i] (List.getElem_mem hi2))
      walk_at "rd"
      refine ⟨.inl ⟨rfl, _, SqL.of h1⟩, ?_⟩
      walk_at "rd"
      refine ⟨_, _, _, rfl, rfl, h1, (by rw [List.length_take]; exact szt (by omega)), ?_⟩
      walk_at "rd"
      have k2 : Kp [] H (upd H' p (.lst (us.take i ++ [.ref q]))) := k1.mine hp
      refine ⟨_, _, _, _, rfl, rfl, k2.sqt hsq, atI_nat (j := 0) hv0, ?_⟩
      walk_at "rd"
      refine iteB (fun h => absurd (V.str.inj (of_decide_eq_true h)) np1) (fun _ => ?_)
      walk_at "rd"
      refine ⟨_, _, _, _, rfl, rfl, k2.sqt hsq, atI_nat (j := 0) hv0, ?_⟩
      walk_at "rd"
      refine iteB (fun h => absurd (V.str.inj (of_decide_eq_true h)) np2) (fun _ => ?_)
      refine ⟨_, rfl, k2, ?_⟩
      rw [upd_same, List.take_add_one, hx]
      rfl
    · rintro σ H' ⟨z, rfl, k1, h1⟩
      rw [List.take_length] at h1
      walk_at "rd"
      exact k p H' hp k1 h1
def spVN : Sp := fun vs H Q _ => ∃ u v, vs = [u] ∧ Dp K H u (Vl.enc v) ∧ ∀ p H', H p = none → Kp [] H H' → H' p = some (.lst ((vn v).map V.str)) → Q (.ref p) H'
theorem ok_value_names (T : Tx P K mg) : OkF P w K mg base CX0 1 a_value_names ["value"] (spVN (K := K)) := by
  have nd := sc_value_names.nd
  refine T.f_value_names.ok (CX := CX0) sc_value_names (fun vs H Q E h => ?_) (fun cdv A outer s H vs Q E hr h => ?_)
  · obtain ⟨_, _, rfl, _⟩ := h
    rfl
  · obtain ⟨u, v, rfl, hd, k⟩ := h
    refine ⟨_, PSs.nox (pss_cons (ps_if (pt_cmpR op_eq (pe_ix ix_tup (pv 0) pe_int (fun _ _ => rfl)) pe_str (nomark _)) (pss_one (ps_ret (pe_lst (pa_cons (pe_ix ix_tup (pv 0) pe_int (fun _ _ => rfl)) pa_nil)))) pss_nil)
      (pss_one (ps_ret (pe_lst pa_nil)))), ?_⟩
    cases v with
    | nm x =>
      obtain ⟨q, us, rfl, hsq, hall⟩ := Dp.tupOf hd
      obtain ⟨v0, hv0, hz0⟩ := DpAll.get hall (i := 0) (d := .str "name") rfl
      obtain ⟨v1, hv1, hz1⟩ := DpAll.get hall (i := 1) (d := .str x) rfl
      obtain rfl := Dp.strOf hz0
      obtain rfl := Dp.strOf hz1
      walk_at "rd"
      refine ⟨_, _, _, _, rfl, rfl, hsq, atI_nat (j := 0) hv0, ?_⟩
      walk_at "rd"
      walk_at "rd"
      refine ⟨_, _, _, _, rfl, rfl, hsq, atI_nat (j := 1) hv1, ?_⟩
      refine ⟨szl (Nat.le_of_ble_eq_true rfl), fun p hp => ?_⟩
      exact k p _ hp (Kp.new hp) upd_same
    | num n =>
      obtain ⟨q, us, rfl, hsq, hall⟩ := Dp.tupOf hd
      obtain ⟨v0, hv0, hz0⟩ := DpAll.get hall (i := 0) (d := .str "number") rfl
      obtain rfl := Dp.strOf hz0
      walk_at "rd"
      refine ⟨_, _, _, _, rfl, rfl, hsq, atI_nat (j := 0) hv0, ?_⟩
      walk_at "rd"
      walk_at "rd"
      refine ⟨Nat.zero_le _, fun p hp => ?_⟩
      exact k p _ hp (Kp.new hp) upd_same
    | nil =>
      obtain ⟨q, us, rfl, hsq, hall⟩ := Dp.tupOf hd
      obtain ⟨v0, hv0, hz0⟩ := DpAll.get hall (i := 0) (d := .str "nil") rfl
      obtain rfl := Dp.strOf hz0
      walk_at "rd"
      refine ⟨_, _, _, _, rfl, rfl, hsq, atI_nat (j := 0) hv0, ?_⟩
      walk_at "rd"
      walk_at "rd"
      refine ⟨Nat.zero_le _, fun p hp => ?_⟩
      exact k p _ hp (Kp.new hp) upd_same
theorem c_if_new : (if false = true then !inV (V.str "new") [V.str "if", V.str "while"] else inV (V.str "new") [V.str "if", V.str "while"]) = false := by decide +kernel
theorem c_la_new : (if false = true then !inV (V.str "new") [V.str "load", V.str "add"] else inV (V.str "new") [V.str "load", V.str "add"]) = false := by decide +kernel
theorem c_new_return : decide (V.str "new" = V.str "return") = false := by decide +kernel
theorem c_new_set : decide (V.str "new" = V.str "set") = false := by decide +kernel
theorem c_new_store : decide (V.str "new" = V.str "store") = false := by decide +kernel
theorem c_new_call : decide (V.str "new" = V.str "call") = false := by decide +kernel
theorem c_if_out : (if false = true then !inV (V.str "out") [V.str "if", V.str "while"] else inV (V.str "out") [V.str "if", V.str "while"]) = false := by decide +kernel
theorem c_la_out : (if false = true then !inV (V.str "out") [V.str "load", V.str "add"] else inV (V.str "out") [V.str "load", V.str "add"]) = false := by decide +kernel
theorem c_out_return : decide (V.str "out" = V.str "return") = false := by decide +kernel
theorem c_out_set : decide (V.str "out" = V.str "set") = false := by decide +kernel
theorem c_out_store : decide (V.str "out" = V.str "store") = false := by decide +kernel
theorem c_out_call : decide (V.str "out" = V.str "call") = false := by decide +kernel
theorem c_if_set : (if false = true then !inV (V.str "set") [V.str "if", V.str "while"] else inV (V.str "set") [V.str "if", V.str "while"]) = false := by decide +kernel
theorem c_la_set : (if false = true then !inV (V.str "set") [V.str "load", V.str "add"] else inV (V.str "set") [V.str "load", V.str "add"]) = false := by decide +kernel
theorem c_set_return : decide (V.str "set" = V.str "return") = false := by decide +kernel
theorem c_set_set : decide (V.str "set" = V.str "set") = true := by decide +kernel
theorem c_set_store : decide (V.str "set" = V.str "store") = false := by decide +kernel
theorem c_set_call : decide (V.str "set" = V.str "call") = false := by decide +kernel
theorem c_if_store : (if false = true then !inV (V.str "store") [V.str "if", V.str "while"] else inV (V.str "store") [V.str "if", V.str "while"]) = false := by decide +kernel
theorem c_la_store : (if false = true then !inV (V.str "store") [V.str "load", V.str "add"] else inV (V.str "store") [V.str "load", V.str "add"]) = false := by decide +kernel
theorem c_store_return : decide (V.str "store" = V.str "return") = false := by decide +kernel
theorem c_store_set : decide (V.str "store" = V.str "set") = false := by decide +kernel
theorem c_store_store : decide (V.str "store" = V.str "store") = true := by decide +kernel
theorem c_store_call : decide (V.str "store" = V.str "call") = false := by decide +kernel
theorem c_if_load : (if false = true then !inV (V.str "load") [V.str "if", V.str "while"] else inV (V.str "load") [V.str "if", V.str "while"]) = false := by decide +kernel
theorem c_la_load : (if false = true then !inV (V.str "load") [V.str "load", V.str "add"] else inV (V.str "load") [V.str "load", V.str "add"]) = true := by decide +kernel
theorem c_load_return : decide (V.str "load" = V.str "return") = false := by decide +kernel
theorem c_load_set : decide (V.str "load" = V.str "set") = false := by decide +kernel
theorem c_load_store : decide (V.str "load" = V.str "store") = false := by decide +kernel
theorem c_load_call : decide (V.str "load" = V.str "call") = false := by decide +kernel
theorem c_if_add : (if false = true then !inV (V.str "add") [V.str "if", V.str "while"] else inV (V.str "add") [V.str "if", V.str "while"]) = false := by decide +kernel
theorem c_la_add : (if false = true then !inV (V.str "add") [V.str "load", V.str "add"] else inV (V.str "add") [V.str "load", V.str "add"]) = true := by decide +kernel
theorem c_add_return : decide (V.str "add" = V.str "return") = false := by decide +kernel
theorem c_add_set : decide (V.str "add" = V.str "set") = false := by decide +kernel
theorem c_add_store : decide (V.str "add" = V.str "store") = false := by decide +kernel
theorem c_add_call : decide (V.str "add" = V.str "call") = false := by decide +kernel
theorem c_if_return : (if false = true then !inV (V.str "return") [V.str "if", V.str "while"] else inV (V.str "return") [V.str "if", V.str "while"]) = false := by decide +kernel
theorem c_la_return : (if false = true then !inV (V.str "return") [V.str "load", V.str "add"] else inV (V.str "return") [V.str "load", V.str "add"]) = false := by decide +kernel
theorem c_return_return : decide (V.str "return" = V.str "return") = true := by decide +kernel
theorem c_return_set : decide (V.str "return" = V.str "set") = false := by decide +kernel
theorem c_return_store : decide (V.str "return" = V.str "store") = false := by decide +kernel
theorem c_return_call : decide (V.str "return" = V.str "call") = false := by decide +kernel
theorem c_if_call : (if false = true then !inV (V.str "call") [V.str "if", V.str "while"] else inV (V.str "call") [V.str "if", V.str "while"]) = false := by decide +kernel
theorem c_la_call : (if false = true then !inV (V.str "call") [V.str "load", V.str "add"] else inV (V.str "call") [V.str "load", V.str "add"]) = false := by decide +kernel
theorem c_call_return : decide (V.str "call" = V.str "return") = false := by decide +kernel
theorem c_call_set : decide (V.str "call" = V.str "set") = false := by decide +kernel
theorem c_call_store : decide (V.str "call" = V.str "store") = false := by decide +kernel
theorem c_call_call : decide (V.str "call" = V.str "call") = true := by decide +kernel
theorem vns_app : ∀ a b : List Vl, vns (a ++ b) = vns a ++ vns b
  | [], b => rfl
  | v :: a, b => by
    show vn v ++ vns (a ++ b) = vn v ++ vns a ++ vns b
    rw [vns_app a b, List.append_assoc]
theorem vns_take_le (vs : List Vl) (i : Nat) : (vns (vs.take i)).length ≤ (vns vs).length := by
  have e : vns vs = vns (vs.take i) ++ vns (vs.drop i) := by rw [← vns_app, List.take_append_drop]
  rw [e, List.length_append]
  omega
theorem vn_len (v : Vl) : 1 + (vn v).length ≤ 100000 := by
  cases v <;> exact Nat.le_of_ble_eq_true rfl
def spUses : Sp := fun vs H Q _ => ∃ u s, vs = [u] ∧ Dp K H u (Sm.enc s) ∧ plain s = true ∧ (uses s).length ≤ 9000 ∧ ∀ p H', H p = none → Kp [] H H' → H' p = some (.lst ((uses s).map V.str)) → Q (.ref p) H'
theorem ok_used_names (T : Tx P K mg) : OkF P w K mg base CX0 3 a_used_names ["statement"] (spUses (K := K)) := by
  have nd := sc_used_names.nd
  have F_test_names : OkF P w K mg base CX0 1 a_test_names ["test"] spNo := T.f_test_names.ok (CX := CX0) sc_test_names (fun vs H Q E h => h.elim) (fun cdv A outer s H vs Q E hr h => h.elim)
  have F_value_names := ok_value_names (P := P) (w := w) (base := base) T
  refine T.f_used_names.ok (CX := CX0) sc_used_names (fun vs H Q E h => ?_) (fun cdv A outer s H vs Q E hr h => ?_)
  · obtain ⟨_, _, rfl, _⟩ := h
    rfl
  · obtain ⟨u, s, rfl, hd, hpl, hsz, k⟩ := h
    refine ⟨_, PSs.nox (pss_cons (ps_set (i := 1) nd rfl (Or.inl rfl) (pe_ix ix_tup (pv 0) pe_int (fun _ _ => rfl)))
      (pss_cons (ps_if (pt_cmpR op_in_seq (pv 1) (pe_tup (pa_cons pe_str (pa_cons pe_str pa_nil))) (by with_unfolding_all rfl)) (pss_one (ps_ret (pe_call F_test_names (hr.mono (by decide)) rfl T.g_test_names T.k_test_names T.b_test_names .nil pass0 (pa_cons (pe_ix ix_tup (pv 0) pe_int (fun _ _ => rfl)) pa_nil)))) pss_nil)
      (pss_cons (ps_if (pt_cmpR op_eq (pv 1) pe_str (nomark _)) (pss_one (ps_ret (pe_call F_value_names (hr.mono (by decide)) rfl T.g_value_names T.k_value_names T.b_value_names .nil pass0 (pa_cons (pe_ix ix_tup (pv 0) pe_int (fun _ _ => rfl)) pa_nil)))) pss_nil)
      (pss_cons (ps_if (pt_cmpR op_eq (pv 1) pe_str (nomark _)) (pss_one (ps_ret (pe_op op_cat (pe_lst (pa_cons (pe_ix ix_tup (pv 0) pe_int (fun _ _ => rfl)) pa_nil)) (pe_call F_value_names (hr.mono (by decide)) rfl T.g_value_names T.k_value_names T.b_value_names .nil pass0 (pa_cons (pe_ix ix_tup (pv 0) pe_int (fun _ _ => rfl)) pa_nil))))) pss_nil)
      (pss_cons (ps_if (pt_cmpR op_in_seq (pv 1) (pe_tup (pa_cons pe_str (pa_cons pe_str pa_nil))) (by with_unfolding_all rfl)) (pss_one (ps_ret (pe_lst (pa_cons (pe_ix ix_tup (pv 0) pe_int (fun _ _ => rfl)) (pa_cons (pe_ix ix_tup (pv 0) pe_int (fun _ _ => rfl)) pa_nil))))) pss_nil)
      (pss_cons (ps_if (pt_cmpR op_eq (pv 1) pe_str (nomark _)) (pss_one (ps_ret (pe_op op_cat (pe_lst (pa_cons (pe_ix ix_tup (pv 0) pe_int (fun _ _ => rfl)) pa_nil)) (pe_call F_value_names (hr.mono (by decide)) rfl T.g_value_names T.k_value_names T.b_value_names .nil pass0 (pa_cons (pe_ix ix_tup (pv 0) pe_int (fun _ _ => rfl)) pa_nil))))) pss_nil)
      (pss_cons (ps_if (pt_cmpR op_eq (pv 1) pe_str (nomark _)) (pss_cons (ps_set (i := 2) nd rfl (Or.inl rfl) (pe_lst (pa_cons (pe_ix ix_tup (pv 0) pe_int (fun _ _ => rfl)) pa_nil)))
      (pss_cons (ps_for PassesOwn.never rfl (pi_tup (pe_ix ix_tup (pv 0) pe_int (fun _ _ => rfl))) (pg_name (i := 3) nd rfl (Or.inl rfl)) (pss_one (ps_set (i := 2) nd rfl (Or.inl rfl) (pe_op op_cat (pv 2) (pe_call F_value_names (hr.mono (by decide)) rfl T.g_value_names T.k_value_names T.b_value_names .nil pass0 (pa_cons (pv 3) pa_nil))))))
      (pss_one (ps_ret (pv 2))))) pss_nil)
      (pss_one (ps_ret (pe_lst (pa_cons (pe_ix ix_tup (pv 0) pe_int (fun _ _ => rfl)) pa_nil))))))))))), ?_⟩
    cases s with
    | new x kk =>
      obtain ⟨q, us, rfl, hsq, hall⟩ := Dp.tupOf (ds := [.str "new", .str x, .int (kk : Nat)]) hd
      obtain ⟨v0, hv0, hz0⟩ := DpAll.get hall (i := 0) (d := .str "new") rfl
      obtain rfl := Dp.strOf hz0
      walk_at "rd"
      refine ⟨_, _, _, _, rfl, rfl, hsq, atI_nat (j := 0) hv0, ?_⟩
      walk_at "rd"
      refine ⟨szl (Nat.le_of_ble_eq_true rfl), fun p1 hp1 => ?_⟩
      have k1 : Kp [] H (upd H p1 (.tup [.str "if", .str "while"])) := Kp.new hp1
      have ht1 : (upd H p1 (.tup [.str "if", .str "while"])) p1 = some (.tup [.str "if", .str "while"]) := upd_same
      generalize upd H p1 (.tup [.str "if", .str "while"]) = H1 at k1 ht1
      walk_at "rd"
      refine ⟨_, _, rfl, .inr (SqT.of ht1), rfl, rfl, ?_⟩
      walk_at "rd"
      obtain ⟨v1, hv1, hz1⟩ := DpAll.get hall (i := 1) (d := .str x) rfl
      obtain rfl := Dp.strOf hz1
      refine ⟨szl (Nat.le_of_ble_eq_true rfl), fun p2 hp2 => ?_⟩
      have k2 : Kp [] H (upd H1 p2 (.tup [.str "load", .str "add"])) := k1.trans (Kp.new hp2)
      have ht2 : (upd H1 p2 (.tup [.str "load", .str "add"])) p2 = some (.tup [.str "load", .str "add"]) := upd_same
      generalize upd H1 p2 (.tup [.str "load", .str "add"]) = H2 at k2 ht2
      walk_at "rd"
      refine ⟨_, _, rfl, .inr (SqT.of ht2), rfl, rfl, ?_⟩
      walk_at "rd"
      refine ⟨_, _, _, _, rfl, rfl, k2.sqt hsq, atI_nat (j := 1) hv1, ?_⟩
      refine ⟨szl (Nat.le_of_ble_eq_true rfl), fun p hp => ?_⟩
      exact k _ _ (k2.fresh (by simp) hp) (k2.trans (Kp.new hp)) upd_same
    | out x kk =>
      obtain ⟨q, us, rfl, hsq, hall⟩ := Dp.tupOf (ds := [.str "out", .str x, .int (kk : Nat)]) hd
      obtain ⟨v0, hv0, hz0⟩ := DpAll.get hall (i := 0) (d := .str "out") rfl
      obtain rfl := Dp.strOf hz0
      walk_at "rd"
      refine ⟨_, _, _, _, rfl, rfl, hsq, atI_nat (j := 0) hv0, ?_⟩
      walk_at "rd"
      refine ⟨szl (Nat.le_of_ble_eq_true rfl), fun p1 hp1 => ?_⟩
      have k1 : Kp [] H (upd H p1 (.tup [.str "if", .str "while"])) := Kp.new hp1
      have ht1 : (upd H p1 (.tup [.str "if", .str "while"])) p1 = some (.tup [.str "if", .str "while"]) := upd_same
      generalize upd H p1 (.tup [.str "if", .str "while"]) = H1 at k1 ht1
      walk_at "rd"
      refine ⟨_, _, rfl, .inr (SqT.of ht1), rfl, rfl, ?_⟩
      walk_at "rd"
      obtain ⟨v1, hv1, hz1⟩ := DpAll.get hall (i := 1) (d := .str x) rfl
      obtain rfl := Dp.strOf hz1
      refine ⟨szl (Nat.le_of_ble_eq_true rfl), fun p2 hp2 => ?_⟩
      have k2 : Kp [] H (upd H1 p2 (.tup [.str "load", .str "add"])) := k1.trans (Kp.new hp2)
      have ht2 : (upd H1 p2 (.tup [.str "load", .str "add"])) p2 = some (.tup [.str "load", .str "add"]) := upd_same
      generalize upd H1 p2 (.tup [.str "load", .str "add"]) = H2 at k2 ht2
      walk_at "rd"
      refine ⟨_, _, rfl, .inr (SqT.of ht2), rfl, rfl, ?_⟩
      walk_at "rd"
      refine ⟨_, _, _, _, rfl, rfl, k2.sqt hsq, atI_nat (j := 1) hv1, ?_⟩
      refine ⟨szl (Nat.le_of_ble_eq_true rfl), fun p hp => ?_⟩
      exact k _ _ (k2.fresh (by simp) hp) (k2.trans (Kp.new hp)) upd_same
    | set x v kk =>
      obtain ⟨q, us, rfl, hsq, hall⟩ := Dp.tupOf (ds := [.str "set", .str x, v.enc, .int (kk : Nat)]) hd
      obtain ⟨v0, hv0, hz0⟩ := DpAll.get hall (i := 0) (d := .str "set") rfl
      obtain rfl := Dp.strOf hz0
      walk_at "rd"
      refine ⟨_, _, _, _, rfl, rfl, hsq, atI_nat (j := 0) hv0, ?_⟩
      walk_at "rd"
      refine ⟨szl (Nat.le_of_ble_eq_true rfl), fun p1 hp1 => ?_⟩
      have k1 : Kp [] H (upd H p1 (.tup [.str "if", .str "while"])) := Kp.new hp1
      have ht1 : (upd H p1 (.tup [.str "if", .str "while"])) p1 = some (.tup [.str "if", .str "while"]) := upd_same
      generalize upd H p1 (.tup [.str "if", .str "while"]) = H1 at k1 ht1
      walk_at "rd"
      refine ⟨_, _, rfl, .inr (SqT.of ht1), rfl, rfl, ?_⟩
      walk_at "rd"
      obtain ⟨v1, hv1, hz1⟩ := DpAll.get hall (i := 1) (d := .str x) rfl
      obtain rfl := Dp.strOf hz1
      obtain ⟨v2, hv2, hz2⟩ := DpAll.get hall (i := 2) (d := v.enc) rfl
      refine ⟨_, _, _, _, rfl, rfl, k1.sqt hsq, atI_nat (j := 1) hv1, ?_⟩
      refine ⟨szl (Nat.le_of_ble_eq_true rfl), fun p hp => ?_⟩
      have k5 : Kp [] H (upd H1 p (.lst [.str x])) := k1.trans (Kp.new hp)
      have h5 : (upd H1 p (.lst [.str x])) p = some (.lst [.str x]) := upd_same
      have hpH := k1.fresh (by simp) hp
      generalize upd H1 p (.lst [.str x]) = H5 at k5 h5
      walk_at "rd"
      refine ⟨_, _, _, _, rfl, rfl, k5.sqt hsq, atI_nat (j := 2) hv2, ?_⟩
      walk_at "rd"
      refine ⟨v2, v, rfl, Dp.kp k5 _ _ (Vl.nl v) hz2, fun p6 H6 hp6 k6 h6 => ?_⟩
      have h56 := k6.keep _ _ (by simp) h5
      refine ⟨_, _, _, _, rfl, rfl, h56, h6, szl (by rw [List.length_map, List.length_singleton]; exact vn_len v), fun p7 hp7 => ?_⟩
      exact k _ _ ((k5.trans k6).fresh (by simp) hp7) ((k5.trans k6).trans (Kp.new hp7)) upd_same
    | store x f v kk =>
      obtain ⟨q, us, rfl, hsq, hall⟩ := Dp.tupOf (ds := [.str "store", .str x, .str f, v.enc, .int (kk : Nat)]) hd
      obtain ⟨v0, hv0, hz0⟩ := DpAll.get hall (i := 0) (d := .str "store") rfl
      obtain rfl := Dp.strOf hz0
      walk_at "rd"
      refine ⟨_, _, _, _, rfl, rfl, hsq, atI_nat (j := 0) hv0, ?_⟩
      walk_at "rd"
      refine ⟨szl (Nat.le_of_ble_eq_true rfl), fun p1 hp1 => ?_⟩
      have k1 : Kp [] H (upd H p1 (.tup [.str "if", .str "while"])) := Kp.new hp1
      have ht1 : (upd H p1 (.tup [.str "if", .str "while"])) p1 = some (.tup [.str "if", .str "while"]) := upd_same
      generalize upd H p1 (.tup [.str "if", .str "while"]) = H1 at k1 ht1
      walk_at "rd"
      refine ⟨_, _, rfl, .inr (SqT.of ht1), rfl, rfl, ?_⟩
      walk_at "rd"
      obtain ⟨v1, hv1, hz1⟩ := DpAll.get hall (i := 1) (d := .str x) rfl
      obtain rfl := Dp.strOf hz1
      obtain ⟨v3, hv3, hz3⟩ := DpAll.get hall (i := 3) (d := v.enc) rfl
      refine ⟨szl (Nat.le_of_ble_eq_true rfl), fun p2 hp2 => ?_⟩
      have k2 : Kp [] H (upd H1 p2 (.tup [.str "load", .str "add"])) := k1.trans (Kp.new hp2)
      have ht2 : (upd H1 p2 (.tup [.str "load", .str "add"])) p2 = some (.tup [.str "load", .str "add"]) := upd_same
      generalize upd H1 p2 (.tup [.str "load", .str "add"]) = H2 at k2 ht2
      walk_at "rd"
      refine ⟨_, _, rfl, .inr (SqT.of ht2), rfl, rfl, ?_⟩
      walk_at "rd"
      refine ⟨_, _, _, _, rfl, rfl, k2.sqt hsq, atI_nat (j := 1) hv1, ?_⟩
      refine ⟨szl (Nat.le_of_ble_eq_true rfl), fun p hp => ?_⟩
      have k5 : Kp [] H (upd H2 p (.lst [.str x])) := k2.trans (Kp.new hp)
      have h5 : (upd H2 p (.lst [.str x])) p = some (.lst [.str x]) := upd_same
      have hpH := k2.fresh (by simp) hp
      generalize upd H2 p (.lst [.str x]) = H5 at k5 h5
      walk_at "rd"
      refine ⟨_, _, _, _, rfl, rfl, k5.sqt hsq, atI_nat (j := 3) hv3, ?_⟩
      walk_at "rd"
      refine ⟨v3, v, rfl, Dp.kp k5 _ _ (Vl.nl v) hz3, fun p6 H6 hp6 k6 h6 => ?_⟩
      have h56 := k6.keep _ _ (by simp) h5
      refine ⟨_, _, _, _, rfl, rfl, h56, h6, szl (by rw [List.length_map, List.length_singleton]; exact vn_len v), fun p7 hp7 => ?_⟩
      exact k _ _ ((k5.trans k6).fresh (by simp) hp7) ((k5.trans k6).trans (Kp.new hp7)) upd_same
    | load x y f kk =>
      obtain ⟨q, us, rfl, hsq, hall⟩ := Dp.tupOf (ds := [.str "load", .str x, .str y, .str f, .int (kk : Nat)]) hd
      obtain ⟨v0, hv0, hz0⟩ := DpAll.get hall (i := 0) (d := .str "load") rfl
      obtain rfl := Dp.strOf hz0
      walk_at "rd"
      refine ⟨_, _, _, _, rfl, rfl, hsq, atI_nat (j := 0) hv0, ?_⟩
      walk_at "rd"
      refine ⟨szl (Nat.le_of_ble_eq_true rfl), fun p1 hp1 => ?_⟩
      have k1 : Kp [] H (upd H p1 (.tup [.str "if", .str "while"])) := Kp.new hp1
      have ht1 : (upd H p1 (.tup [.str "if", .str "while"])) p1 = some (.tup [.str "if", .str "while"]) := upd_same
      generalize upd H p1 (.tup [.str "if", .str "while"]) = H1 at k1 ht1
      walk_at "rd"
      refine ⟨_, _, rfl, .inr (SqT.of ht1), rfl, rfl, ?_⟩
      walk_at "rd"
      obtain ⟨v1, hv1, hz1⟩ := DpAll.get hall (i := 1) (d := .str x) rfl
      obtain rfl := Dp.strOf hz1
      obtain ⟨v2, hv2, hz2⟩ := DpAll.get hall (i := 2) (d := .str y) rfl
      obtain rfl := Dp.strOf hz2
      refine ⟨szl (Nat.le_of_ble_eq_true rfl), fun p2 hp2 => ?_⟩
      have k2 : Kp [] H (upd H1 p2 (.tup [.str "load", .str "add"])) := k1.trans (Kp.new hp2)
      have ht2 : (upd H1 p2 (.tup [.str "load", .str "add"])) p2 = some (.tup [.str "load", .str "add"]) := upd_same
      generalize upd H1 p2 (.tup [.str "load", .str "add"]) = H2 at k2 ht2
      walk_at "rd"
      refine ⟨_, _, rfl, .inr (SqT.of ht2), rfl, rfl, ?_⟩
      walk_at "rd"
      refine ⟨_, _, _, _, rfl, rfl, k2.sqt hsq, atI_nat (j := 1) hv1, ?_⟩
      walk_at "rd"
      refine ⟨_, _, _, _, rfl, rfl, k2.sqt hsq, atI_nat (j := 2) hv2, ?_⟩
      refine ⟨szl (Nat.le_of_ble_eq_true rfl), fun p hp => ?_⟩
      exact k _ _ (k2.fresh (by simp) hp) (k2.trans (Kp.new hp)) upd_same
    | add x y n kk =>
      obtain ⟨q, us, rfl, hsq, hall⟩ := Dp.tupOf (ds := [.str "add", .str x, .str y, .int n, .int (kk : Nat)]) hd
      obtain ⟨v0, hv0, hz0⟩ := DpAll.get hall (i := 0) (d := .str "add") rfl
      obtain rfl := Dp.strOf hz0
      walk_at "rd"
      refine ⟨_, _, _, _, rfl, rfl, hsq, atI_nat (j := 0) hv0, ?_⟩
      walk_at "rd"
      refine ⟨szl (Nat.le_of_ble_eq_true rfl), fun p1 hp1 => ?_⟩
      have k1 : Kp [] H (upd H p1 (.tup [.str "if", .str "while"])) := Kp.new hp1
      have ht1 : (upd H p1 (.tup [.str "if", .str "while"])) p1 = some (.tup [.str "if", .str "while"]) := upd_same
      generalize upd H p1 (.tup [.str "if", .str "while"]) = H1 at k1 ht1
      walk_at "rd"
      refine ⟨_, _, rfl, .inr (SqT.of ht1), rfl, rfl, ?_⟩
      walk_at "rd"
      obtain ⟨v1, hv1, hz1⟩ := DpAll.get hall (i := 1) (d := .str x) rfl
      obtain rfl := Dp.strOf hz1
      obtain ⟨v2, hv2, hz2⟩ := DpAll.get hall (i := 2) (d := .str y) rfl
      obtain rfl := Dp.strOf hz2
      refine ⟨szl (Nat.le_of_ble_eq_true rfl), fun p2 hp2 => ?_⟩
      have k2 : Kp [] H (upd H1 p2 (.tup [.str "load", .str "add"])) := k1.trans (Kp.new hp2)
      have ht2 : (upd H1 p2 (.tup [.str "load", .str "add"])) p2 = some (.tup [.str "load", .str "add"]) := upd_same
      generalize upd H1 p2 (.tup [.str "load", .str "add"]) = H2 at k2 ht2
      walk_at "rd"
      refine ⟨_, _, rfl, .inr (SqT.of ht2), rfl, rfl, ?_⟩
      walk_at "rd"
      refine ⟨_, _, _, _, rfl, rfl, k2.sqt hsq, atI_nat (j := 1) hv1, ?_⟩
      walk_at "rd"
      refine ⟨_, _, _, _, rfl, rfl, k2.sqt hsq, atI_nat (j := 2) hv2, ?_⟩
      refine ⟨szl (Nat.le_of_ble_eq_true rfl), fun p hp => ?_⟩
      exact k _ _ (k2.fresh (by simp) hp) (k2.trans (Kp.new hp)) upd_same
    | ret v kk =>
      obtain ⟨q, us, rfl, hsq, hall⟩ := Dp.tupOf (ds := [.str "return", v.enc, .int (kk : Nat)]) hd
      obtain ⟨v0, hv0, hz0⟩ := DpAll.get hall (i := 0) (d := .str "return") rfl
      obtain rfl := Dp.strOf hz0
      walk_at "rd"
      refine ⟨_, _, _, _, rfl, rfl, hsq, atI_nat (j := 0) hv0, ?_⟩
      walk_at "rd"
      refine ⟨szl (Nat.le_of_ble_eq_true rfl), fun p1 hp1 => ?_⟩
      have k1 : Kp [] H (upd H p1 (.tup [.str "if", .str "while"])) := Kp.new hp1
      have ht1 : (upd H p1 (.tup [.str "if", .str "while"])) p1 = some (.tup [.str "if", .str "while"]) := upd_same
      generalize upd H p1 (.tup [.str "if", .str "while"]) = H1 at k1 ht1
      walk_at "rd"
      refine ⟨_, _, rfl, .inr (SqT.of ht1), rfl, rfl, ?_⟩
      walk_at "rd"
      obtain ⟨v1, hv1, hz1⟩ := DpAll.get hall (i := 1) (d := v.enc) rfl
      refine ⟨_, _, _, _, rfl, rfl, k1.sqt hsq, atI_nat (j := 1) hv1, ?_⟩
      walk_at "rd"
      refine ⟨v1, v, rfl, Dp.kp k1 _ _ (Vl.nl v) hz1, fun p6 H6 hp6 k6 h6 => ?_⟩
      exact k _ _ (k1.fresh (by simp) hp6) (k1.trans k6) h6
    | call x g vs kk =>
      obtain ⟨q, us, rfl, hsq, hall⟩ := Dp.tupOf (ds := [.str "call", .str x, .str g, .tuple (vs.map Vl.enc), .int (kk : Nat)]) hd
      obtain ⟨v0, hv0, hz0⟩ := DpAll.get hall (i := 0) (d := .str "call") rfl
      obtain rfl := Dp.strOf hz0
      walk_at "rd"
      refine ⟨_, _, _, _, rfl, rfl, hsq, atI_nat (j := 0) hv0, ?_⟩
      walk_at "rd"
      refine ⟨szl (Nat.le_of_ble_eq_true rfl), fun p1 hp1 => ?_⟩
      have k1 : Kp [] H (upd H p1 (.tup [.str "if", .str "while"])) := Kp.new hp1
      have ht1 : (upd H p1 (.tup [.str "if", .str "while"])) p1 = some (.tup [.str "if", .str "while"]) := upd_same
      generalize upd H p1 (.tup [.str "if", .str "while"]) = H1 at k1 ht1
      walk_at "rd"
      refine ⟨_, _, rfl, .inr (SqT.of ht1), rfl, rfl, ?_⟩
      walk_at "rd"
      obtain ⟨v1, hv1, hz1⟩ := DpAll.get hall (i := 1) (d := .str x) rfl
      obtain rfl := Dp.strOf hz1
      obtain ⟨v3, hv3, hz3⟩ := DpAll.get hall (i := 3) (d := .tuple (vs.map Vl.enc)) rfl
      obtain ⟨q3, ws, rfl, hsq3, hall3⟩ := Dp.tupOf hz3
      have hwl : ws.length = vs.length := by rw [DpAll.length hall3, List.length_map]
      refine ⟨szl (Nat.le_of_ble_eq_true rfl), fun p2 hp2 => ?_⟩
      have k2 : Kp [] H (upd H1 p2 (.tup [.str "load", .str "add"])) := k1.trans (Kp.new hp2)
      have ht2 : (upd H1 p2 (.tup [.str "load", .str "add"])) p2 = some (.tup [.str "load", .str "add"]) := upd_same
      generalize upd H1 p2 (.tup [.str "load", .str "add"]) = H2 at k2 ht2
      walk_at "rd"
      refine ⟨_, _, rfl, .inr (SqT.of ht2), rfl, rfl, ?_⟩
      walk_at "rd"
      refine ⟨_, _, _, _, rfl, rfl, k2.sqt hsq, atI_nat (j := 1) hv1, ?_⟩
      refine ⟨szl (Nat.le_of_ble_eq_true rfl), fun p hp => ?_⟩
      have k5 : Kp [] H (upd H2 p (.lst [.str x])) := k2.trans (Kp.new hp)
      have h5 : (upd H2 p (.lst [.str x])) p = some (.lst [.str x]) := upd_same
      have hpH := k2.fresh (by simp) hp
      generalize upd H2 p (.lst [.str x]) = H5 at k5 h5
      walk_at "rd"
      refine ⟨_, _, _, _, rfl, rfl, k5.sqt hsq, atI_nat (j := 3) hv3, ?_⟩
      walk_at "rd"
      have ku : (1 + (vns vs).length) ≤ 9000 := by
        have z : (uses (.call x g vs kk)).length = (vns vs).length + 1 := rfl
        omega
      refine ⟨⟨_, k5.sqt hsq3⟩, for_tup (xs := ws) (fun i σ H' => ∃ pc z, σ = [some (.ref q), some (.str "call"), some (.ref pc), z] ∧ Kp [] H H' ∧ H pc = none ∧ H' pc = some (.lst ((x :: vns (vs.take i)).map V.str))) ⟨p, _, rfl, k5, hpH, h5⟩ ?_ ?_ ?_⟩
      · rintro i σ H' _ ⟨pc, z, rfl, k6, h6⟩
        exact k6.sqt hsq3
      · rintro i u σ H' hx ⟨pc, z, rfl, k6, n6, h6⟩
        have hi : i < ws.length := (List.getElem?_eq_some_iff.mp hx).1
        have hi2 : i < vs.length := by omega
        obtain ⟨u', hu', hdu⟩ := DpAll.get hall3 (i := i) (d := vs[i].enc) (by rw [List.getElem?_map, List.getElem?_eq_getElem hi2]; rfl)
        rw [hx] at hu'
        obtain rfl := Option.some.inj hu'
        walk_at "rd"
        refine ⟨u, vs[i], rfl, Dp.kp k6 _ _ (Vl.nl _) hdu, fun p7 H7 hp7 k7 h7 => ?_⟩
        have h67 := k7.keep _ _ (by simp) h6
        have hvl := vns_take_le vs (i + 1)
        have ev : vns (vs.take (i + 1)) = vns (vs.take i) ++ vn vs[i] := by
          rw [List.take_add_one, List.getElem?_eq_getElem hi2, vns_app]
          simp [vns]
        refine ⟨_, _, _, _, rfl, rfl, h67, h7, szl ?_, fun p8 hp8 => ?_⟩
        · rw [List.length_map, List.length_map, List.length_cons]
          rw [ev, List.length_append] at hvl
          omega
        refine ⟨p8, _, rfl, (k6.trans k7).trans (Kp.new hp8), (k6.trans k7).fresh (by simp) hp8, ?_⟩
        rw [upd_same, ev]
        simp
      · rintro σ H' ⟨pc, z, rfl, k6, n6, h6⟩
        rw [hwl, List.take_length] at h6
        walk_at "rd"
        exact k _ _ n6 k6 h6
    | ite t a b kk => cases hpl
    | whl t a kk => cases hpl
end
end K7


set_option Elab.async false
set_option linter.all false
set_option maxRecDepth 100000
set_option maxHeartbeats 4000000
namespace K7
open PySem PySem.Spec PyProof.Rows L2 He Hz Cm Lx Px Gx
local macro_rules | `(tactic| walk_at "rd") => `(tactic| repeat (first | (refine ⟨_, rfl, ?_⟩) | (refine ⟨_, _, rfl, rfl, ?_⟩) | (refine ⟨rfl, ?_⟩) | (refine ⟨szl (by omega), ?_⟩) | (refine ⟨_, _, _, _, _, rfl, (by assumption), (by assumption), (by assumption), (by rfl), ?_⟩) | (refine ⟨_, _, rfl, Or.inl (by assumption), ?_⟩)))
local macro_rules | `(tactic| walk_at "dp") => `(tactic| (repeat' (first | exact DpAll.nil | apply DpAll.cons | exact Dp.str _ | exact Dp.int _ | exact Dp.non | exact Dp.bl _ | assumption)))
section
variable {P : Program} {w : World} {K : PySem.W.Frag} {mg : Str → Option Value} {base : Heap} {H H1 H' : Hp} {a : Addr} {gs : List Str} {fs : List Fd} {Q : VK} {E : XK}
theorem dp_strs_of : ∀ {us : List V} {l : List Str}, DpAll K H us (l.map PyData.str) → us = l.map V.str
  | _, [], h => by cases h; rfl
  | _, x :: l, h => by
    cases h with
    | cons h1 h2 =>
      obtain rfl := Dp.strOf h1
      rw [dp_strs_of h2]
      rfl
theorem in_of {y : Str} {l : List Str} (h : inV (.str y) (l.map V.str) = true) : y ∈ l := by
  rw [inV_strs] at h
  exact of_decide_eq_true h
theorem notin_of {y : Str} {l : List Str} (h : inV (.str y) (l.map V.str) = false) : ¬ y ∈ l := by
  rw [inV_strs] at h
  exact of_decide_eq_false h
theorem fd_parts {u : V} {f : Fd} (h : Dp K H u f.enc) : ∃ q us q1 q2 ws, u = .ref q ∧ SqT K H q us ∧ us[0]? = some (.str f.name) ∧ us[1]? = some (.ref q1) ∧ SqT K H q1 (f.ps.map V.str) ∧ us[2]? = some (.ref q2) ∧ SqT K H q2 ws ∧ DpAll K H ws (encs f.body) := by
  obtain ⟨q, us, rfl, hsq, hall⟩ := Dp.tupOf (ds := [.str f.name, .tuple (f.ps.map .str), .tuple (encs f.body)]) h
  obtain ⟨v0, hv0, hz0⟩ := DpAll.get hall (i := 0) (d := .str f.name) rfl
  obtain ⟨v1, hv1, hz1⟩ := DpAll.get hall (i := 1) (d := .tuple (f.ps.map .str)) rfl
  obtain ⟨v2, hv2, hz2⟩ := DpAll.get hall (i := 2) (d := .tuple (encs f.body)) rfl
  obtain rfl := Dp.strOf hz0
  obtain ⟨q1, us1, rfl, hsq1, hall1⟩ := Dp.tupOf hz1
  obtain ⟨q2, us2, rfl, hsq2, hall2⟩ := Dp.tupOf hz2
  obtain rfl := dp_strs_of hall1
  exact ⟨q, us, q1, q2, us2, rfl, hsq, hv0, hv1, hsq1, hv2, hsq2, hall2⟩
theorem plF_parts {f : Fd} (h : plF f = true) : f.body.all plain = true ∧ f.body.length ≤ 9000 ∧ f.ps.length ≤ 9000 ∧ ∀ s ∈ f.body, (uses s).length ≤ 9000 := by
  unfold plF at h
  simp only [Bool.and_eq_true, decide_eq_true_eq] at h
  exact ⟨h.1, h.2.1, h.2.2.1, fun s m => of_decide_eq_true (List.all_eq_true.mp h.2.2.2 s m)⟩
def spLocals : Sp := fun vs H Q _ => ∃ a gs fs u f, vs = [.ref a, u] ∧ PgAt K H a gs fs ∧ Dp K H u (Fd.enc f) ∧ plF f = true ∧ ∀ p H', H p = none → Kp [] H H' → H' p = some (.lst ((locals gs f).map V.str)) → Q (.ref p) H'
theorem ok_locals_of (T : Tx P K mg) : OkF P w K mg base CX0 5 a_locals_of ["program", "function"] (spLocals (K := K)) := by
  have nd := sc_locals_of.nd
  have cl := T.c_Program
  have F_statements := ok_statements (P := P) (w := w) (base := base) T
  have F_Program_has_global := ok_has_global (P := P) (w := w) (base := base) T
  refine T.f_locals_of.ok (CX := CX0) sc_locals_of (fun vs H Q E h => ?_) (fun cdv A outer s H vs Q E hr h => ?_)
  · obtain ⟨_, _, _, _, _, rfl, _⟩ := h
    rfl
  · obtain ⟨a, gs, fs, u, f, rfl, hP, hd, hpl, k⟩ := h
    obtain ⟨q, us, q1, q2, ws, rfl, hsq, hu0, hu1, hq1, hu2, hq2, hws⟩ := fd_parts hd
    obtain ⟨pl1, pl2, pl3, pl4⟩ := plF_parts hpl
    refine ⟨_, PSs.nox (pss_cons (ps_set (i := 2) nd rfl (Or.inl rfl) (pe_lst pa_nil))
      (pss_cons (ps_for PassesOwn.never rfl (pi_list (pe_call F_statements (hr.mono (by decide)) rfl T.g_statements T.k_statements T.b_statements .nil pass0 (pa_cons (pe_ix ix_tup (pv 1) pe_int (fun _ _ => rfl)) pa_nil))) (pg_name (i := 3) nd rfl (Or.inl rfl)) (pss_cons (ps_set (i := 4) nd rfl (Or.inl rfl) (pe_ix ix_tup (pv 3) pe_int (fun _ _ => rfl)))
      (pss_cons (ps_if (PW.pt (pw_or (pt_cmpR op_notIn_seq (pe_ix ix_tup (pv 3) pe_int (fun _ _ => rfl)) (pe_gref T.g_ASSIGNING) (by with_unfolding_all rfl)) (pw_or (pt_cmpR op_in_seq (pv 4) (pv 2) (by with_unfolding_all rfl)) (pw_or1 (pt_cmpR op_in_seq (pv 4) (pe_ix ix_tup (pv 1) pe_int (fun _ _ => rfl)) (by with_unfolding_all rfl)))))) (pss_one ps_continue) pss_nil)
      (pss_one (ps_if (pt_not (pt_val (pe_meth (pv 0) T.c_Program T.m_Program_has_global F_Program_has_global (hr.mono (by decide)) T.b_Program_has_global .nil pass0 (pa_cons (pv 4) pa_nil)) (fun _ => rfl))) (pss_one (ps_expr (pe_bm PySem.F.plainAttrs_list PySem.F.slot_list_append PySem.F.type_list_append mt_append (pv 2) (pa_cons (pv 4) pa_nil)))) pss_nil)))))
      (pss_one (ps_ret (pv 2))))), ?_⟩
    walk_at "rd"
    refine ⟨Nat.zero_le _, fun p hp => ?_⟩
    have k1 : Kp [] H (upd H p (.lst [])) := Kp.new hp
    have h1 : (upd H p (.lst [])) p = some (.lst []) := upd_same
    generalize upd H p (.lst []) = H1 at k1 h1
    walk_at "rd"
    refine ⟨_, _, _, _, rfl, rfl, k1.sqt hsq, atI_nat (j := 2) hu2, ?_⟩
    walk_at "rd"
    refine ⟨q2, ws, f.body, rfl, k1.sqt hq2, Dp.kps k1 _ _ (Sms.nl _) hws, pl1, pl2, fun l Hs hl ks hls => ?_⟩
    have hlp : l ≠ p := fun z => by
      subst z
      rw [h1] at hl
      cases hl
    have hps := ks.keep _ _ (by simp) h1
    replace ks := k1.trans ks
    walk_at "rd"
    have hwl : ws.length = f.body.length := by rw [DpAll.length hws, encs_map, List.length_map]
    refine ⟨⟨_, SqL.of hls⟩, for_list (xs := ws) (fun i σ H' => ∃ found z1 z2, σ = [some (.ref a), some (.ref q), some (.ref p), z1, z2] ∧ Kp [p] Hs H' ∧ H' p = some (.lst ((found : List Str).map V.str)) ∧ locF gs f.ps found (f.body.drop i) = locals gs f ∧ found.length ≤ i) ⟨[], _, _, rfl, Kp.refl, hps, rfl, Nat.le_refl _⟩ ?_ ?_ ?_⟩
    · rintro i σ H' _ ⟨found, z1, z2, rfl, k2, h2, h3, h4⟩
      exact SqL.of (k2.keep _ _ (by simpa using hlp) hls)
    · rintro i x σ H' hx ⟨found, z1, z2, rfl, k2, h2, h3, h4⟩
      have hi : i < ws.length := (List.getElem?_eq_some_iff.mp hx).1
      have hi2 : i < f.body.length := by omega
      have kH : Kp [] H H' := Kp.own ks hp k2
      rw [List.drop_eq_getElem_cons hi2] at h3
      obtain ⟨x', hx', hdx⟩ := DpAll.get hws (i := i) (d := f.body[i].enc) (by rw [encs_map, List.getElem?_map, List.getElem?_eq_getElem hi2]; rfl)
      rw [hx] at hx'
      obtain rfl := Option.some.inj hx'
      obtain ⟨d1, ds, henc⟩ := kind_enc f.body[i]
      have hdx0 := hdx
      rw [henc] at hdx
      obtain ⟨qs, vs, rfl, hsqs, hall⟩ := Dp.tupOf hdx
      obtain ⟨v0, hv0, hz0⟩ := DpAll.get hall (i := 0) (d := .str (kind f.body[i])) rfl
      obtain ⟨v1, hv1, hz1⟩ := DpAll.get hall (i := 1) (d := d1) rfl
      obtain rfl := Dp.strOf hz0
      walk_at "rd"
      refine ⟨_, _, _, _, rfl, rfl, kH.sqt hsqs, atI_nat (j := 1) hv1, ?_⟩
      walk_at "rd"
      refine ⟨_, _, _, _, rfl, rfl, kH.sqt hsqs, atI_nat (j := 0) hv0, ?_⟩
      walk_at "rd"
      refine ⟨_, _, rfl, .inr (T.t_ASSIGNING _), rfl, ?_⟩
      have e1 : tl_ASSIGNING.map (He.Dv.v K) = (["new", "set", "load", "add", "call"] : List Str).map V.str := rfl
      rw [e1]
      refine ⟨flat_strs _, _, rfl, ?_⟩
      rw [inV_strs, asg_kind]
      cases hs : asg f.body[i] with
      | none =>
        walk_at "rd"
        have e2 : locF gs f.ps found (f.body[i] :: f.body.drop (i + 1)) = locF gs f.ps found (f.body.drop (i + 1)) := by
          rw [locF, hs]
        rw [e2] at h3
        exact ⟨found, _, _, rfl, k2, h2, h3, by omega⟩
      | some y =>
        obtain ⟨ds2, he2⟩ := asg_enc hs
        rw [henc] at he2
        injection he2 with he2
        injection he2 with _ he2
        injection he2 with he2 _
        subst he2
        obtain rfl := Dp.strOf hz1
        have e2 : locF gs f.ps found (f.body[i] :: f.body.drop (i + 1)) = if y ∈ found ∨ y ∈ f.ps ∨ y ∈ gs then locF gs f.ps found (f.body.drop (i + 1)) else locF gs f.ps (found ++ [y]) (f.body.drop (i + 1)) := by
          rw [locF, hs]
        rw [e2] at h3
        have skip : (y ∈ found ∨ y ∈ f.ps ∨ y ∈ gs) → locF gs f.ps found (f.body.drop (i + 1)) = locals gs f := fun z => by
          rw [if_pos z] at h3
          exact h3
        walk_at "rd"
        refine ⟨_, _, rfl, .inl (SqL.of h2), rfl, flat_strs _, ?_⟩
        walk_at "rd"
        refine iteB (fun h => ?_) (fun h => ?_)
        · walk_at "rd"
          exact ⟨found, _, _, rfl, k2, h2, skip (.inl (in_of h)), by omega⟩
        have n1 := notin_of (y := y) (l := found) h
        walk_at "rd"
        refine ⟨_, _, _, _, rfl, rfl, kH.sqt hsq, atI_nat (j := 1) hu1, ?_⟩
        refine ⟨_, _, rfl, .inr (kH.sqt hq1), rfl, flat_strs _, ?_⟩
        walk_at "rd"
        refine iteB (fun h => ?_) (fun h => ?_)
        · walk_at "rd"
          exact ⟨found, _, _, rfl, k2, h2, skip (.inr (.inl (in_of h))), by omega⟩
        have n2 := notin_of (y := y) (l := f.ps) h
        have hPH := hP.kp kH
        obtain ⟨dx, lg, df, kvs, R⟩ := hPH
        walk_at "rd"
        refine ⟨_, _, _, rfl, R.obj, rfl, ?_⟩
        walk_at "rd"
        refine ⟨a, gs, fs, y, rfl, ⟨dx, lg, df, kvs, R⟩, ?_⟩
        walk_at "rd"
        by_cases hy : y ∈ gs
        · rw [decide_eq_true hy]
          walk_at "rd"
          exact ⟨found, _, _, rfl, k2, h2, skip (.inr (.inr hy)), by omega⟩
        · rw [decide_eq_false hy]
          walk_at "rd"
          refine ⟨.inl ⟨rfl, _, SqL.of h2⟩, ?_⟩
          walk_at "rd"
          refine ⟨_, _, _, rfl, rfl, h2, (by rw [List.length_map]; exact szt (by omega)), ?_⟩
          rw [if_neg (fun z => z.elim n1 (fun z => z.elim n2 hy))] at h3
          refine ⟨found ++ [y], _, _, rfl, k2.trans (Kp.put h2 nt_lst (by simp)), ?_, h3, by rw [List.length_append]; show found.length + 1 ≤ i + 1; omega⟩
          rw [upd_same, List.map_append]
          rfl
    · rintro σ H' ⟨found, z1, z2, rfl, k2, h2, h3, h4⟩
      rw [hwl, List.drop_length] at h3
      walk_at "rd"
      refine k p _ hp (Kp.own ks hp k2) ?_
      rw [← h3]
      exact h2
end
end K7


set_option Elab.async false
set_option linter.all false
set_option maxRecDepth 100000
set_option maxHeartbeats 4000000
namespace K7
open PySem PySem.Spec PyProof.Rows L2 He Hz Cm Lx Px Gx
local macro_rules | `(tactic| walk_at "rd") => `(tactic| repeat (first | (refine ⟨_, rfl, ?_⟩) | (refine ⟨_, _, rfl, rfl, ?_⟩) | (refine ⟨rfl, ?_⟩) | (refine ⟨szl (by omega), ?_⟩) | (refine ⟨_, _, _, _, _, rfl, (by assumption), (by assumption), (by assumption), (by rfl), ?_⟩) | (refine ⟨_, _, rfl, Or.inl (by assumption), ?_⟩)))
local macro_rules | `(tactic| walk_at "dp") => `(tactic| (repeat' (first | exact DpAll.nil | apply DpAll.cons | exact Dp.str _ | exact Dp.int _ | exact Dp.non | exact Dp.bl _ | assumption)))
section
variable {P : Program} {w : World} {K : PySem.W.Frag} {mg : Str → Option Value} {base : Heap} {H H1 H' : Hp} {a : Addr} {gs : List Str} {fs : List Fd} {Q : VK} {E : XK}
def spCkC : Sp := fun vs H Q E => ∃ a gs fs u x g us kk, vs = [.ref a, u] ∧ PgAt K H a gs fs ∧ Dp K H u (Sm.enc (.call x g us kk)) ∧ (∀ f ∈ fs, plF f = true) ∧ match ckC fs (.call x g us kk) with
  | some e => XEr K [] H E e
  | none => Q .non H
theorem ok_check_call (T : Tx P K mg) : OkF P w K mg base (L2.CX P w) 3 a_check_call ["program", "statement"] (spCkC (K := K)) := by
  have nd := sc_check_call.nd
  have cl := T.c_Program
  have F_Program_function := ok_function (P := P) (w := w) (base := base) T
  refine T.f_check_call.ok (CX := L2.CX P w) sc_check_call (fun vs H Q E h => ?_) (fun cdv A outer s H vs Q E hr h => ?_)
  · obtain ⟨_, _, _, _, _, _, _, _, rfl, _⟩ := h
    rfl
  · obtain ⟨a, gs, fs, u, x, g, us, kk, rfl, hP, hd, hpl, k⟩ := h
    obtain ⟨q, vs, rfl, hsq, hall⟩ := Dp.tupOf (ds := [.str "call", .str x, .str g, .tuple (us.map Vl.enc), .int (kk : Nat)]) hd
    obtain ⟨v2, hv2, hz2⟩ := DpAll.get hall (i := 2) (d := .str g) rfl
    obtain ⟨v3, hv3, hz3⟩ := DpAll.get hall (i := 3) (d := .tuple (us.map Vl.enc)) rfl
    obtain rfl := Dp.strOf hz2
    obtain ⟨q3, ws, rfl, hsq3, hall3⟩ := Dp.tupOf hz3
    have hwl : ws.length = us.length := by rw [DpAll.length hall3, List.length_map]
    obtain ⟨dx, lg, df, kvs, R⟩ := hP
    refine ⟨_, (pss_cons (ps_set (i := 2) nd rfl (Or.inl rfl) (pe_meth (pv 0) T.c_Program T.m_Program_function F_Program_function (hr.mono (by decide)) T.b_Program_function .nil (passes_call (takes_of rfl rfl rfl rfl) fun _ _ _ _ h => h) (pa_cons (pe_ix ix_tup (pv 1) pe_int (fun _ _ => rfl)) pa_nil)))
      (pss_one (ps_if (pt_cmpR op_ne (pe_callB call_len_seq (by rfl) T.n_len PySem.boot_len (pa_cons (pe_ix ix_tup (pv 2) pe_int (fun _ _ => rfl)) pa_nil)) (pe_callB call_len_seq (by rfl) T.n_len PySem.boot_len (pa_cons (pe_ix ix_tup (pv 1) pe_int (fun _ _ => rfl)) pa_nil)) (nomark _)) (pss_one (ps_raiseSx rfl T.g_Misused T.x_Misused hr (by decide) strR_scal (takes_of rfl rfl rfl rfl) (by exact (pa_cons pe_str pa_nil)))) pss_nil))), ?_⟩
    unfold ckC at k
    dsimp only at k
    walk_at "rd"
    refine ⟨_, _, _, rfl, R.obj, rfl, ?_⟩
    walk_at "rd"
    refine ⟨_, _, _, _, rfl, rfl, hsq, atI_nat (j := 2) hv2, ?_⟩
    walk_at "rd"
    refine ⟨a, gs, fs, g, rfl, ⟨dx, lg, df, kvs, R⟩, ?_⟩
    cases hf : fnOf fs g with
    | none =>
      rw [hf] at k
      exact k
    | some f =>
      rw [hf] at k
      dsimp only at k
      intro v hdv
      obtain ⟨qf, uf, q1, q2, wf, rfl, hsqf, hu0, hu1, hq1, hu2, hq2, hwf⟩ := fd_parts hdv
      have hpf := (plF_parts (hpl f (List.mem_of_find?_eq_some hf))).2.2.1
      walk_at "rd"
      refine ⟨_, _, _, _, rfl, rfl, hsqf, atI_nat (j := 1) hu1, ?_⟩
      refine ⟨_, _, rfl, .inr hq1, ?_⟩
      walk_at "rd"
      refine ⟨_, _, _, _, rfl, rfl, hsq, atI_nat (j := 3) hv3, ?_⟩
      refine ⟨_, _, rfl, .inr hsq3, ?_⟩
      walk_at "rd"
      rw [List.length_map, hwl]
      by_cases hl : f.ps.length = us.length
      · rw [if_pos hl] at k
        refine iteB (fun h => ?_) (fun h => ?_)
        · rw [hl] at h
          simp at h
        · exact k
      · rw [if_neg hl] at k
        refine iteB (fun h => ?_) (fun h => ?_)
        · walk_at "rd"
          exact ⟨trivial, fun d hd => XEr.new k hd⟩
        · refine absurd ?_ hl
          have z : decide (V.int (f.ps.length : Nat) = V.int (us.length : Nat)) = true := by
            cases hq : decide (V.int (f.ps.length : Nat) = V.int (us.length : Nat)) with
            | true => rfl
            | false =>
              exfalso
              have z2 : (!decide (V.int (f.ps.length : Nat) = V.int (us.length : Nat))) = false := h
              rw [hq] at z2
              cases z2
          have z2 := V.int.inj (of_decide_eq_true z)
          omega
def spCkF : Sp := fun vs H Q E => ∃ a gs fs u f, vs = [.ref a, u] ∧ PgAt K H a gs fs ∧ Dp K H u (Fd.enc f) ∧ plF f = true ∧ (∀ f ∈ fs, plF f = true) ∧ match ckF gs fs f with
  | some e => XEr K [] H E e
  | none => ∀ H', Kp [] H H' → Q .non H'
theorem iteM {c : Bool} {A B : Prop} (h : c = true → B → A) (b : B) : if c = true then A else B := by
  cases c with
  | true => exact iteT (h rfl b)
  | false => exact iteF b
theorem call_of_kind {s : Sm} (h : kind s = "call") : ∃ x g us kk, s = .call x g us kk := by
  cases s <;> first | exact ⟨_, _, _, _, rfl⟩ | exact absurd h (by simp only [kind]; decide +kernel)
theorem call_of_G {s : Sm} {er : Er} (h : ckG fs s = some er) : ∃ x g us kk, s = .call x g us kk := by
  cases s <;> first | exact ⟨_, _, _, _, rfl⟩ | cases h
theorem noC_of {s : Sm} (h : kind s ≠ "call") : ckC fs s = none := by
  cases s <;> first | rfl | exact absurd rfl h
theorem rng_lo (n : Nat) : -(2 ^ 62 : Int) ≤ (n : Int) := Int.le_trans (by decide) (Int.natCast_nonneg n)
theorem rng_hi {n : Nat} (h : n ≤ 100000) : (n : Int) < 2 ^ 62 := Int.lt_of_le_of_lt (show (n : Int) ≤ 100000 by omega) (by decide)
theorem cut_pre {xs : List V} {i : Nat} (h : i ≤ xs.length) : HT.sIx xs.length xs.length (some (i : Int)) = i ∧ cutV xs none (some (i : Int)) = xs.take i := by
  have e : HT.sIx xs.length xs.length (some (i : Int)) = i := by rw [HT.sIx_nat]; omega
  refine ⟨e, ?_⟩
  unfold cutV
  rw [e]
  rfl
theorem dup_step {ps : List Str} {i : Nat} (h : i < ps.length) : dup (ps.take i) (ps.drop i) = if ps[i] ∈ ps.take i then some ps[i] else dup (ps.take (i + 1)) (ps.drop (i + 1)) := by
  rw [List.drop_eq_getElem_cons h, dup, List.take_add_one, List.getElem?_eq_getElem h]
  rfl
theorem locF_le (gs ps : List Str) : ∀ (ss : List Sm) (found : List Str), (locF gs ps found ss).length ≤ found.length + ss.length
  | [], found => Nat.le_refl _
  | s :: ss, found => by
    rw [locF, List.length_cons]
    cases asg s with
    | none =>
      have z := locF_le gs ps ss found
      dsimp only
      omega
    | some x =>
      dsimp only
      split
      · have z := locF_le gs ps ss found
        omega
      · have z := locF_le gs ps ss (found ++ [x])
        rw [List.length_append] at z
        have e : [x].length = 1 := rfl
        omega
theorem ok_check_function (T : Tx P K mg) : OkF P w K mg base (L2.CX P w) 6 a_check_function ["program", "function"] (spCkF (K := K)) := by
  have nd := sc_check_function.nd
  have cl := T.c_Program
  have F_statements := ok_statements (P := P) (w := w) (base := base) T
  have F_locals_of := ok_locals_of (P := P) (w := w) (base := base) T
  have F_used_names := ok_used_names (P := P) (w := w) (base := base) T
  have F_check_call := ok_check_call (P := P) (w := w) (base := base) T
  have F_Program_function := ok_function (P := P) (w := w) (base := base) T
  have F_Program_globals_list := ok_globals_list (P := P) (w := w) (base := base) T
  refine T.f_check_function.ok (CX := L2.CX P w) sc_check_function (fun vs H Q E h => ?_) (fun cdv A outer s H vs Q E hr h => ?_)
  · obtain ⟨_, _, _, _, _, rfl, _⟩ := h
    rfl
  · obtain ⟨a, gs, fs, u, f, rfl, hP, hd, hpl, hpls, k⟩ := h
    obtain ⟨q, us, q1, q2, ws, rfl, hsq, hu0, hu1, hq1, hu2, hq2, hws⟩ := fd_parts hd
    obtain ⟨pl1, pl2, pl3, pl4⟩ := plF_parts hpl
    refine ⟨_, (pss_cons (ps_set (i := 2) nd rfl (Or.inl rfl) (pe_ix ix_tup (pv 1) pe_int (fun _ _ => rfl)))
      (pss_cons (ps_for (passes_of rfl) rfl (pi_range1 rfl T.n_range (pa_cons (pe_callB call_len_seq (by rfl) T.n_len PySem.boot_len (pa_cons (pv 2) pa_nil)) pa_nil)) (pg_name (i := 3) nd rfl (Or.inl rfl)) (pss_one (ps_if (pt_cmpR op_in_seq (pe_ix ix_tup (pv 2) (pv 3) (fun _ _ => rfl)) (pe_slice sl_tupA (pv 2) po_none (po_some (pv 3))) (by with_unfolding_all rfl)) (pss_one (ps_raiseSx rfl T.g_Clashing T.x_Clashing hr (by decide) strR_scal (takes_of rfl rfl rfl rfl) (by exact (pa_cons (pe_ix ix_tup (pv 2) (pv 3) (fun _ _ => rfl)) pa_nil)))) pss_nil)))
      (pss_cons (ps_set (i := 4) nd rfl (Or.inl rfl) (pe_op op_cat (pe_op op_cat (pe_callTy call_list_of (by rfl) T.n_list (by decide +kernel) (pa_cons (pv 2) pa_nil)) (pe_call F_locals_of (hr.mono (by decide)) rfl T.g_locals_of T.k_locals_of T.b_locals_of .nil pass0 (pa_cons (pv 0) (pa_cons (pv 1) pa_nil)))) (pe_meth0 (pv 0) T.c_Program T.m_Program_globals_list F_Program_globals_list (hr.mono (by decide)) T.b_Program_globals_list .nil pass0)))
      (pss_one (ps_for (passes_of rfl) rfl (pi_list (pe_call F_statements (hr.mono (by decide)) rfl T.g_statements T.k_statements T.b_statements .nil pass0 (pa_cons (pe_ix ix_tup (pv 1) pe_int (fun _ _ => rfl)) pa_nil))) (pg_name (i := 5) nd rfl (Or.inl rfl)) (pss_cons (ps_if (pt_cmpR op_eq (pe_ix ix_tup (pv 5) pe_int (fun _ _ => rfl)) pe_str (nomark _)) (pss_one (ps_expr (pe_meth (pv 0) T.c_Program T.m_Program_function F_Program_function (hr.mono (by decide)) T.b_Program_function .nil (passes_call (takes_of rfl rfl rfl rfl) fun _ _ _ _ h => h) (pa_cons (pe_ix ix_tup (pv 5) pe_int (fun _ _ => rfl)) pa_nil)))) pss_nil)
      (pss_cons (ps_for (passes_of rfl) rfl (pi_list (pe_call F_used_names (hr.mono (by decide)) rfl T.g_used_names T.k_used_names T.b_used_names .nil pass0 (pa_cons (pv 5) pa_nil))) (pg_name (i := 6) nd rfl (Or.inl rfl)) (pss_one (ps_if (pt_cmpR op_notIn_seq (pv 6) (pv 4) (by with_unfolding_all rfl)) (pss_one (ps_raiseSx rfl T.g_Unknown T.x_Unknown hr (by decide) strR_scal (takes_of rfl rfl rfl rfl) (by exact (pa_cons (pv 6) pa_nil)))) pss_nil)))
      (pss_one (ps_if (pt_cmpR op_eq (pe_ix ix_tup (pv 5) pe_int (fun _ _ => rfl)) pe_str (nomark _)) (pss_one (ps_expr (pe_call F_check_call (hr.mono (by decide)) rfl T.g_check_call T.k_check_call T.b_check_call .nil (passes_call (takes_of rfl rfl rfl rfl) fun _ _ _ _ h => h) (pa_cons (pv 0) (pa_cons (pv 5) pa_nil))))) pss_nil))))))))), ?_⟩
    unfold ckF at k
    walk_at "rd"
    refine ⟨_, _, _, _, rfl, rfl, hsq, atI_nat (j := 1) hu1, ?_⟩
    walk_at "rd"
    refine ⟨_, _, rfl, .inr hq1, ?_⟩
    walk_at "rd"
    rw [List.length_map]
    refine ⟨rng_lo _, rng_hi (by omega), for_range (n := f.ps.length) (lo := 0) (fun i σ H' => ∃ z1 z2 z3 z4, σ = [some (.ref a), some (.ref q), some (.ref q1), z1, z2, z3, z4] ∧ Kp [] H H' ∧ dup (f.ps.take i) (f.ps.drop i) = dup [] f.ps) ⟨_, _, _, _, rfl, Kp.refl, rfl⟩ ?_ ?_⟩
    · rintro i σ H' hi ⟨z1, z2, z3, z4, rfl, k1, hdup⟩
      have hxi : (f.ps.map V.str)[i]? = some (.str f.ps[i]) := by rw [List.getElem?_map, List.getElem?_eq_getElem hi]; rfl
      rw [dup_step hi] at hdup
      have e0 : (0 : Int) + (i : Nat) = (i : Nat) := Int.zero_add _
      rw [e0]
      walk_at "rd"
      refine ⟨_, _, _, _, rfl, rfl, k1.sqt hq1, atI_nat hxi, ?_⟩
      walk_at "rd"
      obtain ⟨c1, c2⟩ := cut_pre (xs := f.ps.map V.str) (i := i) (by rw [List.length_map]; omega)
      refine ⟨_, _, rfl, k1.sqt hq1, fun z => absurd z.2 (by rw [c1, List.length_map]; omega), fun _ p hp => ?_⟩
      rw [c2, ← List.map_take]
      have k2 : Kp [] H (upd H' p (.tup ((f.ps.take i).map V.str))) := k1.trans (Kp.new hp)
      refine ⟨_, _, rfl, .inr (SqT.of upd_same), rfl, flat_strs _, ?_⟩
      walk_at "rd"
      refine iteB (fun h => ?_) (fun h => ?_)
      · rw [if_pos (in_of h)] at hdup
        rw [← hdup] at k
        dsimp only at k
        walk_at "rd"
        refine ⟨_, _, _, _, rfl, rfl, k2.sqt hq1, atI_nat hxi, ?_⟩
        walk_at "rd"
        exact ⟨trivial, fun d hd => (XEr.back k k2).new hd⟩
      · rw [if_neg (notin_of h)] at hdup
        walk_at "rd"
        exact ⟨_, _, _, _, rfl, k2, hdup⟩
    · rintro σ H1 ⟨z1, z2, z3, z4, rfl, k1, hdup⟩
      rw [List.take_length, List.drop_length] at hdup
      rw [← hdup, show dup f.ps [] = none from rfl] at k
      dsimp only at k
      walk_at "rd"
      refine ⟨_, _, rfl, .inr (k1.sqt hq1), fun l1 hl1 => ?_⟩
      have k2 : Kp [] H (upd H1 l1 (.lst (f.ps.map V.str))) := k1.trans (Kp.new hl1)
      have h2 : (upd H1 l1 (.lst (f.ps.map V.str))) l1 = some (.lst (f.ps.map V.str)) := upd_same
      generalize upd H1 l1 (.lst (f.ps.map V.str)) = H2 at k2 h2
      walk_at "rd"
      refine ⟨a, gs, fs, _, f, rfl, hP.kp k2, Dp.kp k2 _ _ (Fd.nl f) hd, hpl, fun l3 H3 hl3 k3 h3 => ?_⟩
      have h23 := k3.keep _ _ (by simp) h2
      replace k3 := k2.trans k3
      have hll : (locals gs f).length ≤ 9000 := Nat.le_trans (locF_le gs f.ps f.body []) (by show 0 + f.body.length ≤ 9000; omega)
      have hgs : gs.length ≤ 50000 := by
        obtain ⟨_, _, _, _, R⟩ := hP
        exact R.sz
      walk_at "rd"
      refine ⟨_, _, _, _, rfl, rfl, h23, h3, szl (by rw [List.length_map, List.length_map]; omega), fun l4 hl4 => ?_⟩
      have k4 : Kp [] H (upd H3 l4 (.lst (f.ps.map V.str ++ (locals gs f).map V.str))) := k3.trans (Kp.new hl4)
      have h4 : (upd H3 l4 (.lst (f.ps.map V.str ++ (locals gs f).map V.str))) l4 = some (.lst (f.ps.map V.str ++ (locals gs f).map V.str)) := upd_same
      generalize upd H3 l4 (.lst (f.ps.map V.str ++ (locals gs f).map V.str)) = H4 at k4 h4
      have hP4 := hP.kp k4
      obtain ⟨dx, lg, df, kvs, R4⟩ := hP4
      walk_at "rd"
      refine ⟨_, _, _, rfl, R4.obj, rfl, ?_⟩
      refine ⟨a, gs, fs, rfl, ⟨dx, lg, df, kvs, R4⟩, fun l5 xs5 H5 hl5 k5 h5 hd5 => ?_⟩
      obtain rfl := dp_strs_of hd5
      have h45 := k5.keep _ _ (by simp) h4
      replace k5 := k4.trans k5
      refine ⟨_, _, _, _, rfl, rfl, h45, h5, szl (by rw [List.length_append, List.length_map, List.length_map, List.length_map]; omega), fun l6 hl6 => ?_⟩
      have k6 : Kp [] H (upd H5 l6 (.lst ((f.ps.map V.str ++ (locals gs f).map V.str) ++ gs.map V.str))) := k5.trans (Kp.new hl6)
      have h6 : (upd H5 l6 (.lst ((f.ps.map V.str ++ (locals gs f).map V.str) ++ gs.map V.str))) l6 = some (.lst ((f.ps ++ locals gs f ++ gs).map V.str)) := by
        rw [upd_same, List.map_append, List.map_append]
      generalize upd H5 l6 (.lst ((f.ps.map V.str ++ (locals gs f).map V.str) ++ gs.map V.str)) = H6 at k6 h6
      generalize f.ps ++ locals gs f ++ gs = known at k h6
      walk_at "rd"
      refine ⟨_, _, _, _, rfl, rfl, k6.sqt hsq, atI_nat (j := 2) hu2, ?_⟩
      walk_at "rd"
      refine ⟨q2, ws, f.body, rfl, k6.sqt hq2, Dp.kps k6 _ _ (Sms.nl _) hws, pl1, pl2, fun l Hs hl ks hls => ?_⟩
      have h6s := ks.keep _ _ (by simp) h6
      replace ks := k6.trans ks
      walk_at "rd"
      have hwl : ws.length = f.body.length := by rw [DpAll.length hws, encs_map, List.length_map]
      refine ⟨⟨_, SqL.of hls⟩, for_list (xs := ws) (fun i σ H' => ∃ z1 z2 z3, σ = [some (.ref a), some (.ref q), some (.ref q1), z1, some (.ref l6), z2, z3] ∧ Kp [] Hs H' ∧ ckB fs known (f.body.drop i) = ckB fs known f.body) ⟨_, _, _, rfl, Kp.refl, rfl⟩ ?_ ?_ ?_⟩
      · rintro i σ H' _ ⟨z1, z2, z3, rfl, k7, hck⟩
        exact SqL.of (k7.keep _ _ (by simp) hls)
      · rintro i x σ H' hx ⟨z1, z2, z3, rfl, k7, hck⟩
        have hi : i < ws.length := (List.getElem?_eq_some_iff.mp hx).1
        have hi2 : i < f.body.length := by omega
        have h67 := k7.keep _ _ (by simp) h6s
        have k7s := k7
        replace k7 := ks.trans k7
        rw [List.drop_eq_getElem_cons hi2] at hck
        have hmem : f.body[i] ∈ f.body := List.getElem_mem hi2
        obtain ⟨x', hx', hdx⟩ := DpAll.get hws (i := i) (d := f.body[i].enc) (by rw [encs_map, List.getElem?_map, List.getElem?_eq_getElem hi2]; rfl)
        rw [hx] at hx'
        obtain rfl := Option.some.inj hx'
        have hpl1 := List.all_eq_true.mp pl1 _ hmem
        have hus := pl4 _ hmem
        generalize f.body[i] = st at hck hdx hpl1 hus
        rw [ckB] at hck
        unfold ckS at hck
        obtain ⟨d1, ds, henc⟩ := kind_enc st
        have hdx0 := hdx
        rw [henc] at hdx0
        obtain ⟨qs, vs, rfl, hsqs, hall⟩ := Dp.tupOf hdx0
        obtain ⟨v0, hv0, hz0⟩ := DpAll.get hall (i := 0) (d := .str (kind st)) rfl
        obtain rfl := Dp.strOf hz0
        walk_at "rd"
        refine ⟨_, _, _, _, rfl, rfl, k7.sqt hsqs, atI_nat (j := 0) hv0, ?_⟩
        walk_at "rd"
        have hPH := hP.kp k7
        obtain ⟨dx, lg, df, kvs, R⟩ := hPH
        -- program.function(statement[2])
        cases hG : ckG fs st with
        | some er =>
          rw [hG] at hck
          dsimp only at hck
          rw [← hck] at k
          obtain ⟨y, g, us2, kk, rfl⟩ := call_of_G hG
          refine iteB (fun h => ?_) (fun h => absurd rfl (of_decide_eq_false h))
          obtain ⟨qs', vs', e1, hsqs', hall'⟩ := Dp.tupOf (ds := [.str "call", .str y, .str g, .tuple (us2.map Vl.enc), .int (kk : Nat)]) hdx
          cases e1
          obtain ⟨v2, hv2, hz2⟩ := DpAll.get hall' (i := 2) (d := .str g) rfl
          obtain rfl := Dp.strOf hz2
          walk_at "rd"
          refine ⟨_, _, _, rfl, R.obj, rfl, ?_⟩
          walk_at "rd"
          refine ⟨_, _, _, _, rfl, rfl, k7.sqt hsqs', atI_nat (j := 2) hv2, ?_⟩
          walk_at "rd"
          refine ⟨a, gs, fs, g, rfl, ⟨dx, lg, df, kvs, R⟩, ?_⟩
          unfold ckG at hG
          dsimp only at hG
          cases hf : fnOf fs g with
          | some f2 =>
            rw [hf] at hG
            cases hG
          | none =>
            rw [hf] at hG
            obtain rfl := Option.some.inj hG
            exact XEr.back k k7
        | none =>
          rw [hG] at hck
          dsimp only at hck
          refine iteM (fun h rest => ?_) ?_
          · obtain ⟨y, g, us2, kk, rfl⟩ := call_of_kind (V.str.inj (of_decide_eq_true h))
            obtain ⟨qs', vs', e1, hsqs', hall'⟩ := Dp.tupOf (ds := [.str "call", .str y, .str g, .tuple (us2.map Vl.enc), .int (kk : Nat)]) hdx
            cases e1
            obtain ⟨v2, hv2, hz2⟩ := DpAll.get hall' (i := 2) (d := .str g) rfl
            obtain rfl := Dp.strOf hz2
            walk_at "rd"
            refine ⟨_, _, _, rfl, R.obj, rfl, ?_⟩
            walk_at "rd"
            refine ⟨_, _, _, _, rfl, rfl, k7.sqt hsqs', atI_nat (j := 2) hv2, ?_⟩
            walk_at "rd"
            refine ⟨a, gs, fs, g, rfl, ⟨dx, lg, df, kvs, R⟩, ?_⟩
            unfold ckG at hG
            dsimp only at hG
            cases hf : fnOf fs g with
            | none =>
              rw [hf] at hG
              cases hG
            | some f2 => exact fun v hv => rest
          · walk_at "rd"
            refine ⟨_, st, rfl, Dp.kp k7 _ _ (Sm.nl st) hdx, hpl1, hus, fun l8 H8 hl8 k8 h8 => ?_⟩
            have ks9 := k7s.trans k8
            have h68 := k8.keep _ _ (by simp) h67
            replace k8 := k7.trans k8
            walk_at "rd"
            refine ⟨⟨_, SqL.of h8⟩, for_list (xs := (uses st).map V.str) (fun j σ H' => ∃ z3, σ = [some (.ref a), some (.ref q), some (.ref q1), z1, some (.ref l6), some (.ref qs), z3] ∧ H' = H8 ∧ ckU known ((uses st).drop j) = ckU known (uses st)) ⟨_, rfl, rfl, rfl⟩ ?_ ?_ ?_⟩
            · rintro j σ H9 _ ⟨z3, rfl, rfl, hu⟩
              exact SqL.of h8
            · rintro j x σ H9 hx9 ⟨z3, rfl, rfl, hu⟩
              have hj : j < (uses st).length := by
                have z := (List.getElem?_eq_some_iff.mp hx9).1
                rw [List.length_map] at z
                exact z
              rw [List.getElem?_map, List.getElem?_eq_getElem hj] at hx9
              obtain rfl := Option.some.inj hx9
              rw [List.drop_eq_getElem_cons hj, ckU] at hu
              walk_at "rd"
              refine ⟨_, _, rfl, .inl (SqL.of h68), rfl, flat_strs _, ?_⟩
              walk_at "rd"
              refine iteB (fun h => ?_) (fun h => ?_)
              · have hn : ¬ (uses st)[j] ∈ known := notin_of (by
                  have z : (!inV (.str (uses st)[j]) (known.map V.str)) = true := h
                  simpa using z)
                rw [if_neg hn] at hu
                rw [← hu] at hck
                dsimp only at hck
                rw [← hck] at k
                walk_at "rd"
                exact ⟨trivial, fun d hd => (XEr.back k k8).new hd⟩
              · have hn : (uses st)[j] ∈ known := in_of (by
                  have z : (!inV (.str (uses st)[j]) (known.map V.str)) = false := h
                  simpa using z)
                rw [if_pos hn] at hu
                exact ⟨_, rfl, rfl, hu⟩
            · rintro σ H9 ⟨z3, rfl, rfl, hu⟩
              rw [List.length_map, List.drop_length] at hu
              rw [← hu, show ckU known [] = none from rfl] at hck
              dsimp only at hck
              walk_at "rd"
              refine ⟨_, _, _, _, rfl, rfl, k8.sqt hsqs, atI_nat (j := 0) hv0, ?_⟩
              walk_at "rd"
              refine iteB (fun h => ?_) (fun h => ?_)
              · obtain ⟨y, g, us2, kk, rfl⟩ := call_of_kind (V.str.inj (of_decide_eq_true h))
                walk_at "rd"
                refine ⟨a, gs, fs, _, y, g, us2, kk, rfl, hP.kp k8, Dp.kp k8 _ _ (Sm.nl (.call y g us2 kk)) hdx, hpls, ?_⟩
                cases hC : ckC fs (.call y g us2 kk) with
                | some er =>
                  rw [hC] at hck
                  rw [← hck] at k
                  exact XEr.back k k8
                | none =>
                  rw [hC] at hck
                  walk_at "rd"
                  exact ⟨_, _, _, rfl, ks9, hck⟩
              · have hC : ckC fs st = none := noC_of (fun z => absurd (congrArg V.str z) (of_decide_eq_false h))
                rw [hC] at hck
                exact ⟨_, _, _, rfl, ks9, hck⟩
      · rintro σ H9 ⟨z1, z2, z3, rfl, k7, hck⟩
        rw [hwl, List.drop_length] at hck
        rw [← hck] at k
        exact k _ (ks.trans k7)
end
end K7


set_option Elab.async false
set_option linter.all false
set_option maxRecDepth 100000
set_option maxHeartbeats 4000000
namespace K7
open PySem PySem.Spec PyProof.Rows L2 He Hz Cm Lx Px Gx
local macro_rules | `(tactic| walk_at "rd") => `(tactic| repeat (first | (refine ⟨_, rfl, ?_⟩) | (refine ⟨_, _, rfl, rfl, ?_⟩) | (refine ⟨rfl, ?_⟩) | (refine ⟨szl (by omega), ?_⟩) | (refine ⟨_, _, _, _, _, rfl, (by assumption), (by assumption), (by assumption), (by rfl), ?_⟩) | (refine ⟨_, _, rfl, Or.inl (by assumption), ?_⟩)))
local macro_rules | `(tactic| walk_at "dp") => `(tactic| (repeat' (first | exact DpAll.nil | apply DpAll.cons | exact Dp.str _ | exact Dp.int _ | exact Dp.non | exact Dp.bl _ | assumption)))
section
variable {P : Program} {w : World} {K : PySem.W.Frag} {mg : Str → Option Value} {base : Heap} {H H1 H' : Hp} {a dx lg df : Addr} {kvs : List (Key × V)} {gs : List Str} {fs : List Fd} {Q : VK} {E : XK}
def spCheck : Sp := fun vs H Q E => ∃ a gs fs, vs = [.ref a] ∧ PgAt K H a gs fs ∧ (∀ f ∈ fs, plF f = true) ∧ match ckAll gs fs with
  | some e => XEr K [] H E e
  | none => ∀ H', Kp [] H H' → Q .non H'
theorem ok_check (T : Tx P K mg) : OkF P w K mg base (L2.CX P w) 7 a_Program_check ["self"] (spCheck (K := K)) := by
  have nd := sc_Program_check.nd
  have cl := T.c_Program
  have F_check_function := ok_check_function (P := P) (w := w) (base := base) T
  have F_Program_function := ok_function (P := P) (w := w) (base := base) T
  have F_Program_functions := ok_functions (P := P) (w := w) (base := base) T
  refine T.f_Program_check.ok (CX := L2.CX P w) sc_Program_check (fun vs H Q E h => ?_) (fun cdv A outer s H vs Q E hr h => ?_)
  · obtain ⟨_, _, _, rfl, _⟩ := h
    rfl
  · obtain ⟨a, gs, fs, rfl, hP, hpl, k⟩ := h
    refine ⟨_, (pss_cons (ps_for (passes_of rfl) rfl (pi_list (pe_meth0 (pv 0) T.c_Program T.m_Program_functions F_Program_functions (hr.mono (by decide)) T.b_Program_functions .nil pass0)) (pg_name (i := 1) nd rfl (Or.inl rfl)) (pss_one (ps_expr (pe_call F_check_function (hr.mono (by decide)) rfl T.g_check_function T.k_check_function T.b_check_function .nil (passes_call (takes_of rfl rfl rfl rfl) fun _ _ _ _ h => h) (pa_cons (pv 0) (pa_cons (pv 1) pa_nil))))))
      (pss_one (ps_expr (pe_meth (pv 0) T.c_Program T.m_Program_function F_Program_function (hr.mono (by decide)) T.b_Program_function .nil (passes_call (takes_of rfl rfl rfl rfl) fun _ _ _ _ h => h) (pa_cons pe_str pa_nil))))), ?_⟩
    obtain ⟨dx, lg, df, kvs, R⟩ := hP
    unfold ckAll at k
    walk_at "rd"
    refine ⟨_, _, _, rfl, R.obj, rfl, ?_⟩
    refine ⟨a, gs, fs, rfl, ⟨dx, lg, df, kvs, R⟩, fun l xs H1 hl k1 h1 hd1 => ?_⟩
    walk_at "rd"
    have hxl : xs.length = fs.length := by rw [DpAll.length hd1, List.length_map]
    refine ⟨⟨_, SqL.of h1⟩, for_list (xs := xs) (fun i σ H' => ∃ z1, σ = [some (.ref a), z1] ∧ Kp [] H1 H' ∧ ckFs gs fs (fs.drop i) = ckFs gs fs fs) ⟨_, rfl, Kp.refl, rfl⟩ ?_ ?_ ?_⟩
    · rintro i σ H' _ ⟨z1, rfl, k2, hck⟩
      exact SqL.of (k2.keep _ _ (by simp) h1)
    · rintro i x σ H' hx ⟨z1, rfl, k2, hck⟩
      have hi : i < xs.length := (List.getElem?_eq_some_iff.mp hx).1
      have hi2 : i < fs.length := by omega
      obtain ⟨x', hx', hdx⟩ := DpAll.get hd1 (i := i) (d := fs[i].enc) (by rw [List.getElem?_map, List.getElem?_eq_getElem hi2]; rfl)
      rw [hx] at hx'
      obtain rfl := Option.some.inj hx'
      rw [List.drop_eq_getElem_cons hi2, ckFs] at hck
      walk_at "rd"
      refine ⟨a, gs, fs, x, fs[i], rfl, ⟨dx, lg, df, kvs, R.kp (k1.trans k2)⟩, Dp.kp k2 _ _ (Fd.nl _) hdx, hpl _ (List.getElem_mem hi2), hpl, ?_⟩
      cases hF : ckF gs fs fs[i] with
      | some er =>
        rw [hF] at hck
        rw [← hck] at k
        exact XEr.back k (k1.trans k2)
      | none =>
        rw [hF] at hck
        intro H2 k3
        exact ⟨_, rfl, k2.trans k3, hck⟩
    · rintro σ H' ⟨z1, rfl, k2, hck⟩
      rw [hxl, List.drop_length] at hck
      rw [← hck, show ckFs gs fs [] = none from rfl] at k
      dsimp only at k
      have R2 := R.kp (k1.trans k2)
      walk_at "rd"
      refine ⟨_, _, _, rfl, R2.obj, rfl, ?_⟩
      walk_at "rd"
      refine ⟨a, gs, fs, "main", rfl, ⟨dx, lg, df, kvs, R2⟩, ?_⟩
      cases hm : fnOf fs "main" with
      | none =>
        rw [hm] at k
        exact XEr.back k (k1.trans k2)
      | some f =>
        rw [hm] at k
        intro v hv
        walk_at "rd"
        exact k _ (k1.trans k2)
theorem Kp.ownM {M : List Addr} (k0 : Kp [] H H1) (hp : ∀ b ∈ M, H b = none) (k : Kp M H1 H') : Kp [] H H' := ⟨fun b o _ h => k.keep b o (by
  intro m
  rw [hp b m] at h
  cases h) (k0.keep b o (by simp) h), fun b xs h => k.tup b xs (k0.tup b xs h)⟩
def spAddG : Sp := fun vs H Q E => ∃ a dx lg df kvs gs fs x, vs = [.ref a, .str x] ∧ PgR K H a dx lg df kvs gs fs ∧ gs.length < 50000 ∧ if x ∈ gs then XEr K [] H E (.cla x) else
  ∀ H', Kp [lg, df] H H' → PgR K H' a dx lg df kvs (gs ++ [x]) fs → Q .non H'
theorem ok_add_global (T : Tx P K mg) : OkF P w K mg base (L2.CX P w) 2 a_Program_add_global ["self", "name"] (spAddG (K := K)) := by
  have nd := sc_Program_add_global.nd
  have cl := T.c_Program
  have na1 := T.na_Program_globals
  refine T.f_Program_add_global.ok (CX := L2.CX P w) sc_Program_add_global (fun vs H Q E h => ?_) (fun cdv A outer s H vs Q E hr h => ?_)
  · obtain ⟨_, _, _, _, _, _, _, _, rfl, _⟩ := h
    rfl
  · obtain ⟨a, dx, lg, df, kvs, gs, fs, x, rfl, R, hsz, k⟩ := h
    refine ⟨_, (pss_cons (ps_if (pt_cmpR op_in_seq (pv 1) (pe_fld (pv 0) rfl) (by with_unfolding_all rfl)) (pss_one (ps_raiseSx rfl T.g_Clashing T.x_Clashing hr (by decide) strR_scal (takes_of rfl rfl rfl rfl) (by exact (pa_cons (pv 1) pa_nil)))) pss_nil)
      (pss_one (ps_expr (pe_bm PySem.F.plainAttrs_list PySem.F.slot_list_append PySem.F.type_list_append mt_append (pe_fld (pv 0) rfl) (pa_cons (pv 1) pa_nil))))), ?_⟩
    have h1 := R.obj
    walk_at "rd"
    refine ⟨_, _, rfl, .inl (SqL.of R.gl), rfl, flat_strs _, ?_⟩
    walk_at "rd"
    refine iteB (fun h => ?_) (fun h => ?_)
    · rw [if_pos (in_of h)] at k
      walk_at "rd"
      exact ⟨trivial, fun d hd => XEr.new k hd⟩
    · rw [if_neg (notin_of h)] at k
      walk_at "rd"
      refine ⟨.inl ⟨rfl, _, SqL.of R.gl⟩, ?_⟩
      walk_at "rd"
      refine ⟨_, _, _, rfl, rfl, R.gl, (by rw [List.length_map]; exact szt (by omega)), ?_⟩
      walk_at "rd"
      have kk : Kp [lg, df] H (upd H lg (.lst (gs.map V.str ++ [.str x]))) := Kp.put R.gl nt_lst (by simp)
      refine k _ kk ⟨(upd_ne R.n1.symm).trans R.obj, by rw [upd_same, List.map_append]; rfl, (upd_ne R.n3.symm).trans R.fn, R.ks, Dp.kps kk _ _ (fds_nl _) R.dp, R.n1, R.n2, R.n3, by rw [List.length_append]; show gs.length + 1 ≤ 50000; omega, R.sz2, R.nd⟩
def spAddF : Sp := fun vs H Q E => ∃ a dx lg df kvs gs fs u f, vs = [.ref a, u] ∧ PgR K H a dx lg df kvs gs fs ∧ Dp K H u (Fd.enc f) ∧ fs.length < 50000 ∧ if (fnOf fs f.name).isSome then XEr K [] H E (.cla f.name) else
  ∀ kvs' H', Kp [lg, df] H H' → PgR K H' a dx lg df kvs' gs (fs ++ [f]) → Q .non H'
theorem fn_none {n : Str} : ∀ {fs : List Fd}, fnOf fs n = none → n ∉ fs.map (·.name)
  | [], _ => List.not_mem_nil
  | f :: fs, h => by
    unfold fnOf at h
    rw [List.find?_cons] at h
    intro m
    rcases List.mem_cons.mp m with m | m
    · rw [decide_eq_true m.symm] at h
      cases h
    · by_cases z : f.name = n
      · rw [decide_eq_true z] at h
        cases h
      · rw [decide_eq_false z] at h
        exact fn_none (fs := fs) h m
theorem ok_add_function (T : Tx P K mg) : OkF P w K mg base (L2.CX P w) 2 a_Program_add_function ["self", "function"] (spAddF (K := K)) := by
  have nd := sc_Program_add_function.nd
  have cl := T.c_Program
  have na2 := T.na_Program_functions
  refine T.f_Program_add_function.ok (CX := L2.CX P w) sc_Program_add_function (fun vs H Q E h => ?_) (fun cdv A outer s H vs Q E hr h => ?_)
  · obtain ⟨_, _, _, _, _, _, _, _, _, rfl, _⟩ := h
    rfl
  · obtain ⟨a, dx, lg, df, kvs, gs, fs, u, f, rfl, R, hd, hsz, k⟩ := h
    obtain ⟨q, us, q1, q2, ws, rfl, hsq, hu0, hu1, hq1, hu2, hq2, hws⟩ := fd_parts hd
    refine ⟨_, (pss_cons (ps_if (pt_cmp (pc_din (hu1_of hr) (pe_ix ix_tup (pv 1) pe_int (fun _ _ => rfl)) (pe_fld (pv 0) rfl))) (pss_one (ps_raiseSx rfl T.g_Clashing T.x_Clashing hr (by decide) strR_scal (takes_of rfl rfl rfl rfl) (by exact (pa_cons (pe_ix ix_tup (pv 1) pe_int (fun _ _ => rfl)) pa_nil)))) pss_nil)
      (pss_one (ps_dput (hu1_of hr) (pe_fld (pv 0) rfl) (pe_ix ix_tup (pv 1) pe_int (fun _ _ => rfl)) (pv 1) rfl))), ?_⟩
    have h1 := R.obj
    have hv := R.val f.name
    walk_at "rd"
    refine ⟨_, _, _, _, rfl, rfl, hsq, atI_nat (j := 0) hu0, ?_⟩
    walk_at "rd"
    refine ⟨_, _, rfl, DGet.k (k := .inr f.name) R.fn, ?_⟩
    cases hf : fnOf fs f.name with
    | some f2 =>
      rw [hf] at k hv
      obtain ⟨v, e, d⟩ := hv
      rw [e]
      rw [if_pos (show (some f2).isSome = true from rfl)] at k
      walk_at "rd"
      refine ⟨_, _, _, _, rfl, rfl, hsq, atI_nat (j := 0) hu0, ?_⟩
      walk_at "rd"
      exact ⟨trivial, fun d hd => XEr.new k hd⟩
    | none =>
      rw [hf] at k hv
      rw [if_neg (show ¬ ((none : Option Fd).isSome = true) by decide)] at k
      dsimp only at hv
      rw [hv]
      walk_at "rd"
      refine ⟨_, _, _, _, rfl, rfl, hsq, atI_nat (j := 0) hu0, ?_⟩
      have hlen : kvs.length = fs.length := by
        have z := congrArg List.length R.ks
        rw [List.length_map, List.length_map] at z
        exact z
      refine ⟨_, _, rfl, DPut.k (k := .inr f.name) R.fn (szt (by omega)), ?_⟩
      have e1 : putK kvs (.inr f.name) (.ref q) = kvs ++ [(.inr f.name, .ref q)] := by
        unfold putK
        rw [valV_any, hv]
        rfl
      rw [e1]
      have kk : Kp [lg, df] H (upd H df (.dK (kvs ++ [(.inr f.name, .ref q)]))) := Kp.put R.fn nt_dK (by simp)
      have nn := fn_none hf
      refine k _ _ kk ⟨(upd_ne R.n2.symm).trans R.obj, (upd_ne R.n3).trans R.gl, upd_same, ?_, ?_, R.n1, R.n2, R.n3, R.sz, by rw [List.length_append]; show fs.length + 1 ≤ 50000; omega, ?_⟩
      · rw [List.map_append, List.map_append, R.ks]
        rfl
      · rw [List.map_append, List.map_append]
        exact DpAll.snoc (Dp.kps kk _ _ (fds_nl _) R.dp) (Dp.kp kk _ _ (Fd.nl f) hd)
      · rw [List.map_append, List.nodup_append]
        refine ⟨R.nd, by simp, fun x hx y hy => ?_⟩
        rw [List.map_singleton, List.mem_singleton] at hy
        subst hy
        exact fun z => nn (by rw [← z]; exact hx)
def spPgInit : Sp := fun vs H Q _ => ∃ p dx, vs = [.ref p] ∧ H p = some (.ins (ga K "Program") dx []) ∧ ∀ lg df H', H lg = none → H df = none → Kp [p] H H' → PgR K H' p dx lg df [] [] [] → Q .non H'
theorem ok_Program_init (T : Tx P K mg) : OkF P w K mg base CX0 1 a_Program___init__ ["self"] (spPgInit (K := K)) := by
  have nd := sc_Program___init__.nd
  have cl := T.c_Program
  have na1 := T.na_Program_globals
  have na2 := T.na_Program_functions
  refine T.f_Program___init__.ok (CX := CX0) sc_Program___init__ (fun vs H Q E h => ?_) (fun cdv A outer s H vs Q E hr h => ?_)
  · obtain ⟨_, _, rfl, _⟩ := h
    rfl
  · obtain ⟨p, dx, rfl, hp, k⟩ := h
    refine ⟨_, PSs.nox (pss_cons (ps_fld (pv 0) (pe_lst pa_nil) rfl)
      (pss_one (ps_fld (pv 0) pe_dnewK rfl))), ?_⟩
    walk_at "rd"
    refine ⟨Nat.zero_le _, fun lg hlg => ?_⟩
    have nlg : lg ≠ p := fun z => by rw [z, hp] at hlg; cases hlg
    walk_at "rd"
    have h1 : (upd H lg (.lst [])) p = some (.ins (ga K "Program") dx []) := (upd_ne nlg.symm).trans hp
    refine ⟨_, _, dx, _, rfl, h1, cl, na1, (by show 0 < 1000; decide), ?_⟩
    intro df hdf
    have ndf : df ≠ p := fun z => by
      rw [z, upd_same] at hdf
      cases hdf
    rw [upd_ne ndf] at hdf
    have ndl : df ≠ lg := fun z => by
      rw [z, upd_same] at hdf
      cases hdf
    have hdfH : H df = none := by
      rw [upd_ne ndl] at hdf
      exact hdf
    walk_at "rd"
    refine ⟨_, _, dx, _, rfl, (upd_ne ndf.symm).trans upd_same, cl, na2, (by show 1 < 1000; decide), ?_⟩
    have k1 : Kp [p] H (upd H lg (.lst [])) := Kp.new hlg
    have k2 := k1.trans (Kp.put (M := [p]) (o := .ins (ga K "Program") dx (putF "_globals" (.ref lg) [])) h1 nt_ins (by simp))
    have hdf2 : (upd (upd H lg (.lst [])) p (.ins (ga K "Program") dx (putF "_globals" (.ref lg) []))) df = none := by
      rw [upd_ne ndf]
      exact hdf
    have k3 := k2.trans (Kp.new (M := [p]) (o := .dK []) hdf2)
    have k4 := k3.trans (Kp.put (M := [p]) (o := .ins (ga K "Program") dx (putF "_functions" (.ref df) (putF "_globals" (.ref lg) []))) ((upd_ne ndf.symm).trans upd_same) nt_ins (by simp))
    refine k lg df _ hlg hdfH k4 ⟨?_, ?_, ?_, rfl, .nil, nlg, ndf, ndl.symm, Nat.zero_le _, Nat.zero_le _, List.nodup_nil⟩
    · rw [upd_same]
      rw [show putF "_functions" (.ref df) (putF "_globals" (.ref lg) []) = ([("_globals", .ref lg), ("_functions", .ref df)] : List (Str × V)) by
        simp only [putF, if_neg (show ¬ (("_globals" : Str) = "_functions") by decide +kernel)]]
    · rw [upd_ne nlg, upd_ne ndl.symm, upd_ne nlg, upd_same]
      rfl
    · rw [upd_ne ndf, upd_same]
end
end K7


set_option Elab.async false
set_option linter.all false
set_option maxRecDepth 100000
set_option maxHeartbeats 4000000
namespace K7
open PySem PySem.Spec PyProof.Rows L2 He Hz Cm Lx Px Gx
local macro_rules | `(tactic| walk_at "rd") => `(tactic| repeat (first | (refine ⟨_, rfl, ?_⟩) | (refine ⟨_, _, rfl, rfl, ?_⟩) | (refine ⟨rfl, ?_⟩) | (refine ⟨szl (by omega), ?_⟩) | (refine ⟨_, _, _, _, _, rfl, (by assumption), (by assumption), (by assumption), (by rfl), ?_⟩) | (refine ⟨_, _, rfl, Or.inl (by assumption), ?_⟩)))
local macro_rules | `(tactic| walk_at "dp") => `(tactic| (repeat' (first | exact DpAll.nil | apply DpAll.cons | exact Dp.str _ | exact Dp.int _ | exact Dp.non | exact Dp.bl _ | assumption)))
section
variable {P : Program} {w : World} {K : PySem.W.Frag} {mg : Str → Option Value} {base : Heap} {H H1 H' : Hp} {a dx lg df : Addr} {kvs : List (Key × V)} {gs : List Str} {fs : List Fd} {Q : VK} {E : XK}
def POut (K : PySem.W.Frag) (H : Hp) (Q : VK) (E : XK) : Except Er (List Itm) → Prop
  | .error e => XEr K [] H E e
  | .ok its => its.all plI = true ∧ its.length ≤ 40000 ∧ match build its with
    | .error e => XEr K [] H E e
    | .ok (gs, fs) => ∀ p H', Kp [] H H' → PgAt K H' p gs fs → Q (.ref p) H'
def spProg : Sp := fun vs H Q E => ∃ x f res, vs = [.str x] ∧ x.length ≤ 100000 ∧ f ≤ 90000 ∧ prs f x = some res ∧ POut K H Q E res
theorem ok_program_of (T : Tx P K mg) : OkF P w K mg base (L2.CX P w) 35 a_program_of ["text"] (spProg (K := K)) := by
  have nd := sc_program_of.nd
  have cl := T.c_Program
  have F_Program___init__ := ok_Program_init (P := P) (w := w) (base := base) T
  have F_Program_add_global := ok_add_global (P := P) (w := w) (base := base) T
  have F_Program_add_function := ok_add_function (P := P) (w := w) (base := base) T
  have F_Program_check := ok_check (P := P) (w := w) (base := base) T
  have F_parse := ok_parse (P := P) (w := w) (base := base) T
  refine T.f_program_of.ok (CX := L2.CX P w) sc_program_of (fun vs H Q E h => ?_) (fun cdv A outer s H vs Q E hr h => ?_)
  · obtain ⟨_, _, _, rfl, _⟩ := h
    rfl
  · obtain ⟨x, f, res, rfl, hx, hf, hres, k⟩ := h
    refine ⟨_, (pss_cons (ps_set (i := 1) nd rfl (Or.inl rfl) (pe_make0 T.mk_Program F_Program___init__ (hr.mono (by decide)) rfl T.g_Program T.b_Program___init__ .nil pass0))
      (pss_cons (ps_for (passes_of rfl) rfl (pi_list (pe_call F_parse (hr.mono (by decide)) rfl T.g_parse T.k_parse T.b_parse .nil (passes_call (takes_of rfl rfl rfl rfl) fun _ _ _ _ h => h) (pa_cons (pv 0) pa_nil))) (pg_name (i := 2) nd rfl (Or.inl rfl)) (pss_one (ps_if (pt_cmpR op_eq (pe_ix ix_tup (pv 2) pe_int (fun _ _ => rfl)) pe_str (nomark _)) (pss_one (ps_expr (pe_meth (pv 1) T.c_Program T.m_Program_add_global F_Program_add_global (hr.mono (by decide)) T.b_Program_add_global .nil (passes_call (takes_of rfl rfl rfl rfl) fun _ _ _ _ h => h) (pa_cons (pe_ix ix_tup (pv 2) pe_int (fun _ _ => rfl)) pa_nil)))) (pss_one (ps_expr (pe_meth (pv 1) T.c_Program T.m_Program_add_function F_Program_add_function (hr.mono (by decide)) T.b_Program_add_function .nil (passes_call (takes_of rfl rfl rfl rfl) fun _ _ _ _ h => h) (pa_cons (pe_ix ix_tup (pv 2) pe_int (fun _ _ => rfl)) pa_nil)))))))
      (pss_cons (ps_expr (pe_meth0 (pv 1) T.c_Program T.m_Program_check F_Program_check (hr.mono (by decide)) T.b_Program_check .nil (passes_call (takes_of rfl rfl rfl rfl) fun _ _ _ _ h => h)))
      (pss_one (ps_ret (pv 1)))))), ?_⟩
    walk_at "rd"
    intro r dx hr0 hd0 hne
    have k0 : Kp [] H (upd (upd H dx (.own r)) r (.ins (ga K "Program") dx [])) := (Kp.new hd0).trans (Kp.new (by rw [upd_ne (Ne.symm hne)]; exact hr0))
    refine ⟨r, dx, rfl, upd_same, ?_⟩
    generalize upd (upd H dx (.own r)) r (.ins (ga K "Program") dx []) = H0 at k0
    intro lg df H1 hlg hdf k1 R
    have hlgH := k0.fresh (by simp) hlg
    have hdfH := k0.fresh (by simp) hdf
    replace k1 : Kp [] H H1 := Kp.own k0 hr0 k1
    have own : ∀ b ∈ [lg, df], H b = none := fun b m => by
      rcases List.mem_cons.mp m with rfl | m
      · exact hlgH
      · obtain rfl := List.mem_singleton.mp m
        exact hdfH
    walk_at "rd"
    refine ⟨x, f, res, rfl, hx, hf, hres, ?_⟩
    cases res with
    | error er => exact XEr.back k k1
    | ok its =>
      obtain ⟨hpl, hil, k⟩ := k
      intro l xs H2 hl k2 hls hd2
      have nlg : l ≠ lg := fun z => by
        rw [z, R.gl] at hl
        cases hl
      have ndf : l ≠ df := fun z => by
        rw [z, R.fn] at hl
        cases hl
      have R2 := R.kp k2
      replace k2 := k1.trans k2
      have hxl : xs.length = its.length := by rw [DpAll.length hd2, List.length_map]
      unfold build at k
      walk_at "rd"
      refine ⟨⟨_, SqL.of hls⟩, for_list (xs := xs) (fun i σ H' => ∃ z gs fs kvs, σ = [some (.str x), some (.ref r), z] ∧ Kp [lg, df] H2 H' ∧ PgR K H' r dx lg df kvs gs fs ∧ addI gs fs (its.drop i) = addI [] [] its ∧ gs.length + fs.length ≤ i ∧ ∀ f ∈ fs, plF f = true) ⟨_, [], [], [], rfl, Kp.refl, R2, rfl, Nat.zero_le _, fun f m => absurd m List.not_mem_nil⟩ ?_ ?_ ?_⟩
      · rintro i σ H' _ ⟨z, gs, fs, kvs, rfl, k3, R3, ha, hsz, hpf⟩
        exact SqL.of (k3.keep _ _ (by simp [nlg, ndf]) hls)
      · rintro i v σ H' hv ⟨z, gs, fs, kvs, rfl, k3, R3, ha, hsz, hpf⟩
        have hi : i < xs.length := (List.getElem?_eq_some_iff.mp hv).1
        have hi2 : i < its.length := by omega
        obtain ⟨v', hv', hdv⟩ := DpAll.get hd2 (i := i) (d := its[i].enc) (by rw [List.getElem?_map, List.getElem?_eq_getElem hi2]; rfl)
        rw [hv] at hv'
        obtain rfl := Option.some.inj hv'
        have hpi := List.all_eq_true.mp hpl _ (List.getElem_mem hi2)
        rw [List.drop_eq_getElem_cons hi2] at ha
        have kH : Kp [] H H' := Kp.ownM k2 own k3
        generalize its[i] = it at hdv hpi ha
        cases it with
        | glo g =>
          rw [addI] at ha
          obtain ⟨qi, ui, rfl, hsqi, halli⟩ := Dp.tupOf (ds := [.str "global", .str g]) hdv
          obtain ⟨v0, hv0, hz0⟩ := DpAll.get halli (i := 0) (d := .str "global") rfl
          obtain ⟨v1, hv1, hz1⟩ := DpAll.get halli (i := 1) (d := .str g) rfl
          obtain rfl := Dp.strOf hz0
          obtain rfl := Dp.strOf hz1
          walk_at "rd"
          refine ⟨_, _, _, _, rfl, rfl, k3.sqt hsqi, atI_nat (j := 0) hv0, ?_⟩
          walk_at "rd"
          refine ⟨_, _, _, rfl, R3.obj, rfl, ?_⟩
          walk_at "rd"
          refine ⟨_, _, _, _, rfl, rfl, k3.sqt hsqi, atI_nat (j := 1) hv1, ?_⟩
          walk_at "rd"
          refine ⟨r, dx, lg, df, kvs, gs, fs, g, rfl, R3, by omega, ?_⟩
          by_cases hg : g ∈ gs
          · rw [if_pos hg] at ha ⊢
            rw [← ha] at k
            exact XEr.back k kH
          · rw [if_neg hg] at ha ⊢
            intro H4 k4 R4
            exact ⟨_, _, _, _, rfl, k3.trans k4, R4, ha, by rw [List.length_append]; show gs.length + 1 + fs.length ≤ i + 1; omega, hpf⟩
        | fn fd =>
          rw [addI] at ha
          obtain ⟨qi, ui, rfl, hsqi, halli⟩ := Dp.tupOf (ds := [.str "fn", fd.enc]) hdv
          obtain ⟨v0, hv0, hz0⟩ := DpAll.get halli (i := 0) (d := .str "fn") rfl
          obtain ⟨v1, hv1, hz1⟩ := DpAll.get halli (i := 1) (d := fd.enc) rfl
          obtain rfl := Dp.strOf hz0
          walk_at "rd"
          refine ⟨_, _, _, _, rfl, rfl, k3.sqt hsqi, atI_nat (j := 0) hv0, ?_⟩
          walk_at "rd"
          refine ⟨_, _, _, rfl, R3.obj, rfl, ?_⟩
          walk_at "rd"
          refine ⟨_, _, _, _, rfl, rfl, k3.sqt hsqi, atI_nat (j := 1) hv1, ?_⟩
          walk_at "rd"
          refine ⟨r, dx, lg, df, kvs, gs, fs, v1, fd, rfl, R3, Dp.kp k3 _ _ (Fd.nl fd) hz1, by omega, ?_⟩
          by_cases hg : (fnOf fs fd.name).isSome = true
          · rw [if_pos hg] at ha ⊢
            rw [← ha] at k
            exact XEr.back k kH
          · rw [if_neg hg] at ha ⊢
            intro kvs' H4 k4 R4
            refine ⟨_, _, _, _, rfl, k3.trans k4, R4, ha, by rw [List.length_append]; show gs.length + (fs.length + 1) ≤ i + 1; omega, fun f m => ?_⟩
            rcases List.mem_append.mp m with m | m
            · exact hpf f m
            · obtain rfl := List.mem_singleton.mp m
              exact hpi
      · rintro σ H' ⟨z, gs, fs, kvs, rfl, k3, R3, ha, hsz, hpf⟩
        rw [hxl, List.drop_length] at ha
        rw [← ha, show addI gs fs [] = .ok (gs, fs) from rfl] at k
        dsimp only at k
        have kH : Kp [] H H' := Kp.ownM k2 own k3
        walk_at "rd"
        refine ⟨_, _, _, rfl, R3.obj, rfl, ?_⟩
        refine ⟨r, gs, fs, rfl, ⟨dx, lg, df, kvs, R3⟩, hpf, ?_⟩
        cases hc : ckAll gs fs with
        | some er =>
          rw [hc] at k
          exact XEr.back k kH
        | none =>
          rw [hc] at k
          intro H4 k4
          walk_at "rd"
          exact k r _ (kH.trans k4) ⟨dx, lg, df, kvs, R3.kp k4⟩
end
end K7


set_option Elab.async false
set_option linter.all false
set_option maxRecDepth 100000
set_option maxHeartbeats 4000000
/-! the law's texts in plain Lean -/
namespace Wx
open PySem Lx Px Gx
def nmOf : Vl → Str
  | .nm x => x
  | _ => ""
def jc (l : List Str) : Str := Txt.join " , " l
def sText : Sm → Str
  | .new x _ => x ++ " = new ;"
  | .set x v _ => x ++ " = " ++ nmOf v ++ " ;"
  | .out v _ => "out " ++ v ++ " ;"
  | .ret v _ => "return " ++ nmOf v ++ " ;"
  | .call x g us _ => x ++ " = " ++ g ++ " ( " ++ jc (us.map nmOf) ++ " ) ;"
  | _ => ""
def A2 : List Str := ["x", "y"]
def A7 : List Str := ["p", "x", "y", "g", "z", "p", "x"]
def A5 : List Str := ["p", "x", "g", "w", "x"]
def A6 : List Str := ["p", "q", "r", "g", "x", "p"]
def A3 : List Str := ["g", "h", "f"]
def AH : List Str := ["main", "f", "k"]
inductive OkS (hs : List (Str × Nat)) (k : Nat) : Sm → Prop
  | new (x : Str) (hx : x ∈ A2) : OkS hs k (.new x k)
  | set (x v : Str) (hx : x ∈ A2) (hv : v ∈ A7) : OkS hs k (.set x (.nm v) k)
  | out (v : Str) (hv : v ∈ A7) : OkS hs k (.out v k)
  | ret (v : Str) (hv : v ∈ A7) : OkS hs k (.ret (.nm v) k)
  | call (x g : Str) (c : Nat) (us : List Str) (hx : x ∈ A2) (hg : (g, c) ∈ hs) (hu : ∀ u ∈ us, u ∈ A5) (hl : us.length = c ∨ us.length = c + 1) : OkS hs k (.call x g (us.map .nm) k)
def OkHs (hs : List (Str × Nat)) : Prop := hs.length = 3 ∧ ∀ h ∈ hs, h.1 ∈ AH ∧ h.2 ≤ 3
structure OkFd (hs : List (Str × Nat)) (f : Fd) : Prop where
  nm : ∃ c, (f.name, c) ∈ hs ∧ f.ps.length = c
  ps : ∀ p ∈ f.ps, p ∈ A6
  len : f.body.length ≤ 4
  st : ∀ (i : Nat) (h : i < f.body.length), OkS hs i f.body[i]
def fText (f : Fd) : Str := "fn " ++ f.name ++ " ( " ++ jc f.ps ++ " ) { " ++ Txt.join " " (f.body.map sText) ++ " }"
inductive OkI (hs : List (Str × Nat)) : Itm → Prop
  | glo (x : Str) (hx : x ∈ A3) : OkI hs (.glo x)
  | fn (f : Fd) (hf : OkFd hs f) : OkI hs (.fn f)
def iText : Itm → Str
  | .glo x => "global " ++ x ++ " ;"
  | .fn f => fText f
theorem short (L : List Str) (h : L.all (fun x => decide (x.length ≤ 4)) = true) {x : Str} (m : x ∈ L) : x.length ≤ 4 := of_decide_eq_true (List.all_eq_true.mp h x m)
theorem s2 {x : Str} (m : x ∈ A2) : x.length ≤ 4 := short A2 (by decide +kernel) m
theorem s7 {x : Str} (m : x ∈ A7) : x.length ≤ 4 := short A7 (by decide +kernel) m
theorem s5 {x : Str} (m : x ∈ A5) : x.length ≤ 4 := short A5 (by decide +kernel) m
theorem s6 {x : Str} (m : x ∈ A6) : x.length ≤ 4 := short A6 (by decide +kernel) m
theorem s3 {x : Str} (m : x ∈ A3) : x.length ≤ 4 := short A3 (by decide +kernel) m
theorem sH {x : Str} (m : x ∈ AH) : x.length ≤ 4 := short AH (by decide +kernel) m
theorem jlen {y : Str} {B : Nat} : ∀ (ps : List Str), (∀ p ∈ ps, p.length ≤ B) → (Txt.join y ps).length ≤ ps.length * (B + y.length) := by
  intro ps h
  rw [TL.join_eq]
  induction ps with
  | nil => exact Nat.zero_le _
  | cons p r ih =>
    cases r with
    | nil =>
      have := h p List.mem_cons_self
      show p.length ≤ 1 * _
      omega
    | cons q r =>
      have h1 := h p List.mem_cons_self
      have h2 := ih fun z m => h z (List.mem_cons_of_mem _ m)
      show (p ++ y ++ Str.join y (q :: r)).length ≤ _
      rw [Str.length_append, Str.length_append, List.length_cons, Nat.succ_mul]
      omega
theorem jsum {y : Str} {B : Nat} : ∀ (ps : List Str), (∀ p ∈ ps, p.length ≤ B) → (ps.map (·.length)).sum ≤ ps.length * B
  | [], _ => Nat.zero_le _
  | p :: r, h => by
    have h1 := h p List.mem_cons_self
    have h2 := jsum (y := y) r fun z m => h z (List.mem_cons_of_mem _ m)
    rw [List.map_cons, List.sum_cons, List.length_cons, Nat.succ_mul]
    omega
theorem jok {y : Str} {B : Nat} (ps : List Str) (h : ∀ p ∈ ps, p.length ≤ B) (hB : B ≤ 1000) (hy : y.length ≤ 10) (hp : ps.length ≤ 1000) : (ps.map (·.length)).sum + ps.length * y.length ≤ 16777216 := by
  have z := jsum (y := y) ps h
  have h1 : ps.length * B ≤ 1000 * 1000 := Nat.mul_le_mul hp hB
  have h2 : ps.length * y.length ≤ 1000 * 10 := Nat.mul_le_mul hp hy
  omega
theorem map_nm (us : List Str) : (us.map Vl.nm).map nmOf = us := by
  rw [List.map_map]
  exact (List.map_congr_left fun _ _ => rfl).trans (List.map_id _)
theorem pick_at (L : List Str) {t : Nat} (h : t < L.length) : ∃ x, L[t]? = some x ∧ x ∈ L := ⟨L[t], List.getElem?_eq_getElem h, List.getElem_mem h⟩
theorem sText_le {hs : List (Str × Nat)} {k : Nat} {s : Sm} (hh : OkHs hs) (h : OkS hs k s) : (sText s).length ≤ 200 := by
  cases h with
  | new x hx =>
    have := s2 hx
    show (x ++ " = new ;").length ≤ 200
    rw [Str.length_append]
    have e : (" = new ;" : Str).length = 8 := by decide +kernel
    omega
  | set x v hx hv =>
    have := s2 hx
    have := s7 hv
    show (x ++ " = " ++ v ++ " ;").length ≤ 200
    rw [Str.length_append, Str.length_append, Str.length_append]
    have e : (" = " : Str).length = 3 := by decide +kernel
    have e2 : (" ;" : Str).length = 2 := by decide +kernel
    omega
  | out v hv =>
    have := s7 hv
    show ("out " ++ v ++ " ;").length ≤ 200
    rw [Str.length_append, Str.length_append]
    have e : ("out " : Str).length = 4 := by decide +kernel
    have e2 : (" ;" : Str).length = 2 := by decide +kernel
    omega
  | ret v hv =>
    have := s7 hv
    show ("return " ++ v ++ " ;").length ≤ 200
    rw [Str.length_append, Str.length_append]
    have e : ("return " : Str).length = 7 := by decide +kernel
    have e2 : (" ;" : Str).length = 2 := by decide +kernel
    omega
  | call x g c us hx hg hu hl =>
    have := s2 hx
    have hgc := hh.2 _ hg
    have hgl : g.length ≤ 4 := sH hgc.1
    have hc : us.length ≤ 4 := by
      have := hgc.2
      dsimp only at this
      omega
    show (x ++ " = " ++ g ++ " ( " ++ jc ((us.map Vl.nm).map nmOf) ++ " ) ;").length ≤ 200
    rw [map_nm, Str.length_append, Str.length_append, Str.length_append, Str.length_append, Str.length_append]
    have e : (" = " : Str).length = 3 := by decide +kernel
    have e2 : (" ( " : Str).length = 3 := by decide +kernel
    have e3 : (" ) ;" : Str).length = 4 := by decide +kernel
    have e4 : (" , " : Str).length = 3 := by decide +kernel
    have z := jlen (y := " , ") us fun u m => s5 (hu u m)
    rw [e4] at z
    have z2 : us.length * (4 + 3) ≤ 4 * 7 := Nat.mul_le_mul hc (by omega)
    unfold jc
    omega
theorem fText_le {hs : List (Str × Nat)} {f : Fd} (hh : OkHs hs) (h : OkFd hs f) : (fText f).length ≤ 1000 := by
  obtain ⟨c, hc, hcl⟩ := h.nm
  have hn := hh.2 _ hc
  have h1 := sH hn.1
  have hc3 : f.ps.length ≤ 3 := by rw [hcl]; exact hn.2
  have z := jlen (y := " , ") f.ps fun u m => s6 (h.ps u m)
  have z2 := jlen (y := " ") (B := 200) (f.body.map sText) fun u m => by
    obtain ⟨s, hs, rfl⟩ := List.mem_map.mp m
    obtain ⟨i, hi, rfl⟩ := List.getElem_of_mem hs
    exact sText_le hh (h.st i hi)
  unfold fText
  rw [Str.length_append, Str.length_append, Str.length_append, Str.length_append, Str.length_append, Str.length_append]
  have e1 : ("fn " : Str).length = 3 := by decide +kernel
  have e2 : (" ( " : Str).length = 3 := by decide +kernel
  have e3 : (" ) { " : Str).length = 5 := by decide +kernel
  have e4 : (" , " : Str).length = 3 := by decide +kernel
  have e5 : (" }" : Str).length = 2 := by decide +kernel
  have e6 : (" " : Str).length = 1 := by decide +kernel
  rw [e4] at z
  rw [e6, List.length_map] at z2
  have z3 : f.ps.length * (4 + 3) ≤ 3 * 7 := Nat.mul_le_mul hc3 (by omega)
  have z4 : f.body.length * (200 + 1) ≤ 4 * 201 := Nat.mul_le_mul h.len (by omega)
  have h1' : f.name.length ≤ 4 := h1
  unfold jc
  omega
/-! ### the law's own check -/
def encE : Er → PyData
  | .mal n => .tuple [.str "malformed", .int (n : Nat)]
  | .big s => .str s
  | .unk s => .tuple [.str "unknown", .str s]
  | .cla s => .tuple [.str "clashing", .str s]
  | .mis s => .tuple [.str "misused", .str s]
def encO : Option Er → PyData
  | none => .none
  | some e => encE e
def usd : Sm → List Str
  | .set _ v _ => [nmOf v]
  | .out v _ => [v]
  | .ret v _ => [nmOf v]
  | .call _ _ us _ => us.map nmOf
  | _ => []
def asg3 : Sm → Option Str
  | .new x _ => some x
  | .set x _ _ => some x
  | .call x _ _ _ => some x
  | _ => none
def lckS (fs : List Fd) (known : List Str) (s : Sm) : Option Er := match ckG fs s with
  | some e => some e
  | none => match ckU known (usd s) with
    | some e => some e
    | none => ckC fs s
def lckB (fs : List Fd) (known : List Str) : List Sm → Option Er
  | [] => none
  | s :: r => match lckS fs known s with
    | some e => some e
    | none => lckB fs known r
def lkn (gs : List Str) (f : Fd) : List Str := f.ps ++ gs ++ f.body.filterMap asg3
def lckF (gs : List Str) (fs : List Fd) (f : Fd) : Option Er := match dup [] f.ps with
  | some x => some (.cla x)
  | none => lckB fs (lkn gs f) f.body
def lckFs (gs : List Str) (fs : List Fd) : List Fd → Option Er
  | [] => none
  | f :: r => match lckF gs fs f with
    | some e => some e
    | none => lckFs gs fs r
def lckAll (gs : List Str) (fs : List Fd) : Option Er := match lckFs gs fs fs with
  | some e => some e
  | none => if (fnOf fs "main").isNone then some (.unk "main") else none
def lf (its : List Itm) : Option Er := match addI [] [] its with
  | .error e => some e
  | .ok (gs, fs) => lckAll gs fs
/-- rows as the law makes them -/
def OkR (s : Sm) : Prop := (∃ x k, s = .new x k) ∨ (∃ x v k, s = .set x (.nm v) k) ∨ (∃ v k, s = .out v k) ∨ (∃ v k, s = .ret (.nm v) k) ∨ (∃ (x g : Str) (us : List Str) (k : Nat), s = .call x g (us.map Vl.nm) k ∧ us.length ≤ 4)
theorem OkS.row {hs : List (Str × Nat)} {k : Nat} {s : Sm} (hh : OkHs hs) (h : OkS hs k s) : OkR s := by
  cases h with
  | new x hx => exact .inl ⟨_, _, rfl⟩
  | set x v hx hv => exact .inr (.inl ⟨_, _, _, rfl⟩)
  | out v hv => exact .inr (.inr (.inl ⟨_, _, rfl⟩))
  | ret v hv => exact .inr (.inr (.inr (.inl ⟨_, _, rfl⟩)))
  | call x g c us hx hg hu hl =>
    have := (hh.2 _ hg).2
    dsimp only at this
    exact .inr (.inr (.inr (.inr ⟨_, _, us, _, rfl, by omega⟩)))
structure OkG (f : Fd) : Prop where
  ps : f.ps.length ≤ 3
  len : f.body.length ≤ 4
  st : ∀ s ∈ f.body, OkR s
theorem OkFd.ok {hs : List (Str × Nat)} {f : Fd} (hh : OkHs hs) (h : OkFd hs f) : OkG f := by
  obtain ⟨c, hc, hcl⟩ := h.nm
  refine ⟨by rw [hcl]; exact (hh.2 _ hc).2, h.len, fun s m => ?_⟩
  obtain ⟨i, hi, rfl⟩ := List.getElem_of_mem m
  exact (h.st i hi).row hh
end Wx


set_option Elab.async false
set_option linter.all false
set_option maxRecDepth 100000
set_option maxHeartbeats 4000000
namespace K7
open PySem PySem.Spec PyProof.Rows L2 He Hz Cm Lx Px Gx
local macro_rules | `(tactic| walk_at "rd") => `(tactic| repeat (first | (refine ⟨_, rfl, ?_⟩) | (refine ⟨_, _, rfl, rfl, ?_⟩) | (refine ⟨rfl, ?_⟩) | (refine ⟨szl (by omega), ?_⟩) | (refine ⟨_, _, _, _, _, rfl, (by assumption), (by assumption), (by assumption), (by rfl), ?_⟩) | (refine ⟨_, _, rfl, Or.inl (by assumption), ?_⟩)))
local macro_rules | `(tactic| walk_at "dp") => `(tactic| (repeat' (first | exact DpAll.nil | apply DpAll.cons | exact Dp.str _ | exact Dp.int _ | exact Dp.non | exact Dp.bl _ | assumption)))
section
variable {P : Program} {w : World} {K : PySem.W.Frag} {mg : Str → Option Value} {base : Heap} {H H1 H' : Hp} {Q : VK} {E : XK}
local macro_rules | `(tactic| walk_at "dr") => `(tactic| repeat (first | (refine ⟨_, rfl, ?_⟩) | (refine ⟨_, _, rfl, rfl, ?_⟩) | (refine ⟨rfl, ?_⟩) | (refine .inl ⟨_, rfl, ?_⟩) | (refine ⟨.inr ⟨by decide, by decide⟩, ?_⟩) | (refine ⟨(by decide : (0 : Int) < 2147483647), ?_⟩) | (refine ⟨(by decide : (0 : Int) < 2147483629), ?_⟩) | (refine ⟨(by decide : (0 : Int) < 1000003), ?_⟩) |
  (refine ⟨_, _, _, _, rfl, rfl, SqL.of (by assumption), atI_nat (j := 0) rfl, ?_⟩) | (refine ⟨_, _, _, _, rfl, rfl, SqL.of (by assumption), atI_nat (j := 1) rfl, ?_⟩) | (refine ⟨_, _, _, _, rfl, rfl, SqL.of (by assumption), atI_nat (j := 2) rfl, ?_⟩) | (refine ⟨_, _, _, _, rfl, rfl, SqL.of (by assumption), atI_nat (j := 3) rfl, ?_⟩)))
/-! ### the law's draws: any number may come -/
def StAt (K : PySem.W.Frag) (H : Hp) (st sc : Addr) : Prop := ∃ (ns : List Int) (a b c : Int), H st = some (.lst [.ref sc, .int a, .int b, .int c]) ∧ (∀ H', Kp [st] H H' → SqL K H' sc (ns.map V.int)) ∧ True ∧ 0 ≤ a
theorem StAt.old {st sc D : Addr} (h : StAt K H st sc) (n : H D = none) : D ≠ st := fun z => by
  obtain ⟨ns, a, b, c, h1, _⟩ := h
  rw [z, h1] at n
  cases n
/-- what was new at H is written -/
theorem StAt.mine {st sc D : Addr} {o : HO} (hH : StAt K H st sc) (n : H D = none) (k : Kp [st] H H') (h : StAt K H' st sc) : StAt K (upd H' D o) st sc := by
  have nd := hH.old n
  obtain ⟨ns, _, _, _, _, h2, h3, _⟩ := hH
  obtain ⟨_, a, b, c, h1, _, _, h4⟩ := h
  exact ⟨ns, a, b, c, (upd_ne nd.symm).trans h1, fun H2 k2 => h2 _ ((k.mine n).trans k2), h3, h4⟩
theorem StAt.kp {st sc : Addr} (h : StAt K H st sc) (k : Kp [] H H') : StAt K H' st sc := by
  obtain ⟨ns, a, b, c, h1, h2, h3, h4⟩ := h
  exact ⟨ns, a, b, c, k.keep _ _ (by simp) h1, fun H2 k2 => h2 _ (k.nil.trans k2), h3, h4⟩
def spDraw : Sp := fun vs H Q _ => ∃ st sc m, vs = [.ref st, .int (m : Nat)] ∧ 1 ≤ m ∧ m ≤ 100000 ∧ StAt K H st sc ∧ ∀ t, t < m → ∀ H', Kp [st] H H' → StAt K H' st sc → Q (.int (t : Nat)) H'
theorem ok_law_draw (T : Tx P K mg) : OkF P w K mg base CX0 1 a__law_draw ["state", "many"] (spDraw (K := K)) := by
  have nd := sc__law_draw.nd
  refine T.f__law_draw.ok (CX := CX0) sc__law_draw (fun vs H Q E h => ?_) (fun cdv A outer s H vs Q E hr h => ?_)
  · obtain ⟨_, _, _, rfl, _⟩ := h
    rfl
  · obtain ⟨st, sc, m, rfl, hm, hm2, ⟨ns, a, b, c, hS0, h2, h3, h4⟩, k⟩ := h
    have kS0 : Kp [st] H H := Kp.refl
    refine ⟨_, PSs.nox (pss_cons (ps_if (pt_cmpR op_le (pe_ix ix_list (pv 0) pe_int (fun _ _ => rfl)) pe_int (nomark _)) (pss_cons (ps_set (i := 2) nd rfl (Or.inl rfl) (pe_ix ix_list (pv 0) pe_int (fun _ _ => rfl)))
      (pss_cons (ps_asg (pe_op op_add (pv 2) pe_int) (pg_sub (pv 0) pe_int set_list))
      (pss_cons (ps_set (i := 3) nd rfl (Or.inl rfl) (pe_op op_add (pe_op op_mul (pv 2) pe_int) pe_int))
      (pss_cons (ps_if (pt_cmpR op_lt (pv 2) (pe_callB call_len_seq (by rfl) T.n_len PySem.boot_len (pa_cons (pe_ix ix_list (pv 0) pe_int (fun _ _ => rfl)) pa_nil)) (nomark _)) (pss_one (ps_set (i := 3) nd rfl (Or.inl rfl) (pe_ix ix_list (pe_ix ix_list (pv 0) pe_int (fun _ _ => rfl)) (pv 2) (fun _ _ => rfl)))) pss_nil)
      (pss_cons (ps_if (pt_chain op_le op_lt pe_int (pv 3) pe_int) (pss_cons (ps_set (i := 4) nd rfl (Or.inl rfl) (pe_op op_mod (pe_callTy call_int1 (by rfl) T.n_int (by decide +kernel) (pa_cons (pe_op op_add (pe_op op_add (pe_op op_mul (pv 3) pe_int) (pe_op op_mul (pv 2) pe_int)) (pe_ix ix_list (pv 0) pe_int (fun _ _ => rfl))) pa_nil)) pe_int))
      (pss_cons (ps_set (i := 5) nd rfl (Or.inl rfl) (pe_op op_mod (pe_callTy call_int1 (by rfl) T.n_int (by decide +kernel) (pa_cons (pe_op op_add (pe_op op_add (pe_op op_mul (pv 4) pe_int) (pv 3)) pe_int) pa_nil)) pe_int))
      (pss_one (ps_asg (pe_op op_add (pe_op op_mul (pv 4) pe_int) (pv 5)) (pg_sub (pv 0) pe_int set_list))))) (pss_one (ps_asg (pe_callB call_abs (by rfl) T.n_abs (by decide +kernel) (pa_cons (pv 3) pa_nil)) (pg_sub (pv 0) pe_int set_list))))
      (pss_one (ps_asg (pe_op op_mod (pe_callTy call_int1 (by rfl) T.n_int (by decide +kernel) (pa_cons (pe_op op_add (pe_op op_mul (pe_ix ix_list (pv 0) pe_int (fun _ _ => rfl)) pe_int) (pv 3)) pa_nil)) pe_int) (pg_sub (pv 0) pe_int set_list)))))))) pss_nil)
      (pss_cons (ps_set (i := 6) nd rfl (Or.inl rfl) (pe_op op_mod (pe_callTy call_int1 (by rfl) T.n_int (by decide +kernel) (pa_cons (pe_ix ix_list (pv 0) pe_int (fun _ _ => rfl)) pa_nil)) (pv 1)))
      (pss_cons (ps_asg (pe_op op_fdiv (pe_callTy call_int1 (by rfl) T.n_int (by decide +kernel) (pa_cons (pe_ix ix_list (pv 0) pe_int (fun _ _ => rfl)) pa_nil)) (pv 1)) (pg_sub (pv 0) pe_int set_list))
      (pss_one (ps_ret (pv 6)))))), ?_⟩
    walk_at "dr"
    refine iteB (fun h => ?_) (fun h => ?_)
    · walk_at "dr"
      refine ⟨_, _, _, 1, rfl, rfl, hS0, rfl, ?_⟩
      have kS1 : Kp [st] H (upd H st (.lst [.ref sc, .int (a + 1), .int b, .int c])) := kS0.trans (Kp.put hS0 nt_lst (by simp))
      have hS1 : (upd H st (.lst [.ref sc, .int (a + 1), .int b, .int c])) st = some (.lst [.ref sc, .int (a + 1), .int b, .int c]) := upd_same
      clear hS0
      walk_at "dr"
      refine ⟨_, _, rfl, .inl (h2 _ kS1), ?_⟩
      walk_at "dr"
      rw [List.length_map]
      refine iteB (fun hlt => ?_) (fun hlt => ?_)
      · walk_at "dr"
        obtain ⟨an, ha⟩ : ∃ n : Nat, a = n := ⟨a.toNat, (Int.toNat_of_nonneg h4).symm⟩
        have hal : an < ns.length := by
          have := of_decide_eq_true hlt
          omega
        have hcell : atI (ns.map V.int) a = some (.int ns[an]) := by
          rw [ha]
          exact atI_nat (by rw [List.getElem?_map, List.getElem?_eq_getElem hal]; rfl)
        refine ⟨_, _, _, _, rfl, rfl, h2 _ kS1, hcell, ?_⟩
        generalize ns[an] = cell
        walk_at "dr"
        refine iteB (fun hc => ?_) (fun hc => ?_)
        · walk_at "dr"
          refine iteB (fun hc => ?_) (fun hc => ?_)
          · walk_at "dr"
            refine ⟨_, _, _, 2, rfl, rfl, hS1, rfl, ?_⟩
            have kS2 : Kp [st] H (upd (upd H st (.lst [.ref sc, .int (a + 1), .int b, .int c])) st (.lst [.ref sc, .int (a + 1), .int (((cell * 48271 + a * 69621 + c) % 2147483647) * 2147483629 + ((((cell * 48271 + a * 69621 + c) % 2147483647) * 16807 + cell + 11) % 2147483629)), .int c])) := kS1.trans (Kp.put hS1 nt_lst (by simp))
            have hS2 : (upd (upd H st (.lst [.ref sc, .int (a + 1), .int b, .int c])) st (.lst [.ref sc, .int (a + 1), .int (((cell * 48271 + a * 69621 + c) % 2147483647) * 2147483629 + ((((cell * 48271 + a * 69621 + c) % 2147483647) * 16807 + cell + 11) % 2147483629)), .int c])) st = some (.lst [.ref sc, .int (a + 1), .int (((cell * 48271 + a * 69621 + c) % 2147483647) * 2147483629 + ((((cell * 48271 + a * 69621 + c) % 2147483647) * 16807 + cell + 11) % 2147483629)), .int c]) := upd_same
            clear hS1
            walk_at "dr"
            refine ⟨_, _, _, 3, rfl, rfl, hS2, rfl, ?_⟩
            have kS3 : Kp [st] H (upd (upd (upd H st (.lst [.ref sc, .int (a + 1), .int b, .int c])) st (.lst [.ref sc, .int (a + 1), .int (((cell * 48271 + a * 69621 + c) % 2147483647) * 2147483629 + ((((cell * 48271 + a * 69621 + c) % 2147483647) * 16807 + cell + 11) % 2147483629)), .int c])) st (.lst [.ref sc, .int (a + 1), .int (((cell * 48271 + a * 69621 + c) % 2147483647) * 2147483629 + ((((cell * 48271 + a * 69621 + c) % 2147483647) * 16807 + cell + 11) % 2147483629)), .int ((c * 31 + cell) % 1000003)])) := kS2.trans (Kp.put hS2 nt_lst (by simp))
            have hS3 : (upd (upd (upd H st (.lst [.ref sc, .int (a + 1), .int b, .int c])) st (.lst [.ref sc, .int (a + 1), .int (((cell * 48271 + a * 69621 + c) % 2147483647) * 2147483629 + ((((cell * 48271 + a * 69621 + c) % 2147483647) * 16807 + cell + 11) % 2147483629)), .int c])) st (.lst [.ref sc, .int (a + 1), .int (((cell * 48271 + a * 69621 + c) % 2147483647) * 2147483629 + ((((cell * 48271 + a * 69621 + c) % 2147483647) * 16807 + cell + 11) % 2147483629)), .int ((c * 31 + cell) % 1000003)])) st = some (.lst [.ref sc, .int (a + 1), .int (((cell * 48271 + a * 69621 + c) % 2147483647) * 2147483629 + ((((cell * 48271 + a * 69621 + c) % 2147483647) * 16807 + cell + 11) % 2147483629)), .int ((c * 31 + cell) % 1000003)]) := upd_same
            clear hS2
            walk_at "dr"
            refine ⟨show (0 : Int) < (m : Nat) by omega, ?_⟩
            walk_at "dr"
            refine ⟨show CDiv _ (m : Nat) from ⟨by omega, by omega⟩, ?_⟩
            walk_at "dr"
            refine ⟨_, _, _, 2, rfl, rfl, hS3, rfl, ?_⟩
            walk_at "dr"
            have e1 : ((((cell * 48271 + a * 69621 + c) % 2147483647) * 2147483629 + ((((cell * 48271 + a * 69621 + c) % 2147483647) * 16807 + cell + 11) % 2147483629)) % ((m : Nat) : Int)) = (((((cell * 48271 + a * 69621 + c) % 2147483647) * 2147483629 + ((((cell * 48271 + a * 69621 + c) % 2147483647) * 16807 + cell + 11) % 2147483629)) % ((m : Nat) : Int)).toNat : Int) := (Int.toNat_of_nonneg (Int.emod_nonneg _ (by omega))).symm
            show Q (.int ((((cell * 48271 + a * 69621 + c) % 2147483647) * 2147483629 + ((((cell * 48271 + a * 69621 + c) % 2147483647) * 16807 + cell + 11) % 2147483629)) % ((m : Nat) : Int))) _
            rw [e1]
            refine k _ ?_ _ (kS3.trans (Kp.put hS3 nt_lst (by simp))) ⟨ns, a + 1, _, _, upd_same, fun H2 k2 => h2 _ ((kS3.trans (Kp.put (M := [st]) hS3 nt_lst (by simp))).trans k2), h3, by omega⟩
            have z := Int.emod_lt_of_pos (((cell * 48271 + a * 69621 + c) % 2147483647) * 2147483629 + ((((cell * 48271 + a * 69621 + c) % 2147483647) * 16807 + cell + 11) % 2147483629)) (show (0 : Int) < ((m : Nat) : Int) by omega)
            omega
          · walk_at "dr"
            refine ⟨_, _, _, 2, rfl, rfl, hS1, rfl, ?_⟩
            have kS2 : Kp [st] H (upd (upd H st (.lst [.ref sc, .int (a + 1), .int b, .int c])) st (.lst [.ref sc, .int (a + 1), .int (if cell < 0 then -cell else cell), .int c])) := kS1.trans (Kp.put hS1 nt_lst (by simp))
            have hS2 : (upd (upd H st (.lst [.ref sc, .int (a + 1), .int b, .int c])) st (.lst [.ref sc, .int (a + 1), .int (if cell < 0 then -cell else cell), .int c])) st = some (.lst [.ref sc, .int (a + 1), .int (if cell < 0 then -cell else cell), .int c]) := upd_same
            clear hS1
            walk_at "dr"
            refine ⟨_, _, _, 3, rfl, rfl, hS2, rfl, ?_⟩
            have kS3 : Kp [st] H (upd (upd (upd H st (.lst [.ref sc, .int (a + 1), .int b, .int c])) st (.lst [.ref sc, .int (a + 1), .int (if cell < 0 then -cell else cell), .int c])) st (.lst [.ref sc, .int (a + 1), .int (if cell < 0 then -cell else cell), .int ((c * 31 + cell) % 1000003)])) := kS2.trans (Kp.put hS2 nt_lst (by simp))
            have hS3 : (upd (upd (upd H st (.lst [.ref sc, .int (a + 1), .int b, .int c])) st (.lst [.ref sc, .int (a + 1), .int (if cell < 0 then -cell else cell), .int c])) st (.lst [.ref sc, .int (a + 1), .int (if cell < 0 then -cell else cell), .int ((c * 31 + cell) % 1000003)])) st = some (.lst [.ref sc, .int (a + 1), .int (if cell < 0 then -cell else cell), .int ((c * 31 + cell) % 1000003)]) := upd_same
            clear hS2
            walk_at "dr"
            refine ⟨show (0 : Int) < (m : Nat) by omega, ?_⟩
            walk_at "dr"
            refine ⟨show CDiv _ (m : Nat) from ⟨by omega, by omega⟩, ?_⟩
            walk_at "dr"
            refine ⟨_, _, _, 2, rfl, rfl, hS3, rfl, ?_⟩
            walk_at "dr"
            have e1 : ((if cell < 0 then -cell else cell) % ((m : Nat) : Int)) = (((if cell < 0 then -cell else cell) % ((m : Nat) : Int)).toNat : Int) := (Int.toNat_of_nonneg (Int.emod_nonneg _ (by omega))).symm
            show Q (.int ((if cell < 0 then -cell else cell) % ((m : Nat) : Int))) _
            rw [e1]
            refine k _ ?_ _ (kS3.trans (Kp.put hS3 nt_lst (by simp))) ⟨ns, a + 1, _, _, upd_same, fun H2 k2 => h2 _ ((kS3.trans (Kp.put (M := [st]) hS3 nt_lst (by simp))).trans k2), h3, by omega⟩
            have z := Int.emod_lt_of_pos (if cell < 0 then -cell else cell) (show (0 : Int) < ((m : Nat) : Int) by omega)
            omega
        · walk_at "dr"
          refine ⟨_, _, _, 2, rfl, rfl, hS1, rfl, ?_⟩
          have kS2 : Kp [st] H (upd (upd H st (.lst [.ref sc, .int (a + 1), .int b, .int c])) st (.lst [.ref sc, .int (a + 1), .int (if cell < 0 then -cell else cell), .int c])) := kS1.trans (Kp.put hS1 nt_lst (by simp))
          have hS2 : (upd (upd H st (.lst [.ref sc, .int (a + 1), .int b, .int c])) st (.lst [.ref sc, .int (a + 1), .int (if cell < 0 then -cell else cell), .int c])) st = some (.lst [.ref sc, .int (a + 1), .int (if cell < 0 then -cell else cell), .int c]) := upd_same
          clear hS1
          walk_at "dr"
          refine ⟨_, _, _, 3, rfl, rfl, hS2, rfl, ?_⟩
          have kS3 : Kp [st] H (upd (upd (upd H st (.lst [.ref sc, .int (a + 1), .int b, .int c])) st (.lst [.ref sc, .int (a + 1), .int (if cell < 0 then -cell else cell), .int c])) st (.lst [.ref sc, .int (a + 1), .int (if cell < 0 then -cell else cell), .int ((c * 31 + cell) % 1000003)])) := kS2.trans (Kp.put hS2 nt_lst (by simp))
          have hS3 : (upd (upd (upd H st (.lst [.ref sc, .int (a + 1), .int b, .int c])) st (.lst [.ref sc, .int (a + 1), .int (if cell < 0 then -cell else cell), .int c])) st (.lst [.ref sc, .int (a + 1), .int (if cell < 0 then -cell else cell), .int ((c * 31 + cell) % 1000003)])) st = some (.lst [.ref sc, .int (a + 1), .int (if cell < 0 then -cell else cell), .int ((c * 31 + cell) % 1000003)]) := upd_same
          clear hS2
          walk_at "dr"
          refine ⟨show (0 : Int) < (m : Nat) by omega, ?_⟩
          walk_at "dr"
          refine ⟨show CDiv _ (m : Nat) from ⟨by omega, by omega⟩, ?_⟩
          walk_at "dr"
          refine ⟨_, _, _, 2, rfl, rfl, hS3, rfl, ?_⟩
          walk_at "dr"
          have e1 : ((if cell < 0 then -cell else cell) % ((m : Nat) : Int)) = (((if cell < 0 then -cell else cell) % ((m : Nat) : Int)).toNat : Int) := (Int.toNat_of_nonneg (Int.emod_nonneg _ (by omega))).symm
          show Q (.int ((if cell < 0 then -cell else cell) % ((m : Nat) : Int))) _
          rw [e1]
          refine k _ ?_ _ (kS3.trans (Kp.put hS3 nt_lst (by simp))) ⟨ns, a + 1, _, _, upd_same, fun H2 k2 => h2 _ ((kS3.trans (Kp.put (M := [st]) hS3 nt_lst (by simp))).trans k2), h3, by omega⟩
          have z := Int.emod_lt_of_pos (if cell < 0 then -cell else cell) (show (0 : Int) < ((m : Nat) : Int) by omega)
          omega
      · walk_at "dr"
        refine iteB (fun hc => ?_) (fun hc => ?_)
        · walk_at "dr"
          refine iteB (fun hc => ?_) (fun hc => ?_)
          · walk_at "dr"
            refine ⟨_, _, _, 2, rfl, rfl, hS1, rfl, ?_⟩
            have kS2 : Kp [st] H (upd (upd H st (.lst [.ref sc, .int (a + 1), .int b, .int c])) st (.lst [.ref sc, .int (a + 1), .int ((((a * 7919 + 13) * 48271 + a * 69621 + c) % 2147483647) * 2147483629 + (((((a * 7919 + 13) * 48271 + a * 69621 + c) % 2147483647) * 16807 + (a * 7919 + 13) + 11) % 2147483629)), .int c])) := kS1.trans (Kp.put hS1 nt_lst (by simp))
            have hS2 : (upd (upd H st (.lst [.ref sc, .int (a + 1), .int b, .int c])) st (.lst [.ref sc, .int (a + 1), .int ((((a * 7919 + 13) * 48271 + a * 69621 + c) % 2147483647) * 2147483629 + (((((a * 7919 + 13) * 48271 + a * 69621 + c) % 2147483647) * 16807 + (a * 7919 + 13) + 11) % 2147483629)), .int c])) st = some (.lst [.ref sc, .int (a + 1), .int ((((a * 7919 + 13) * 48271 + a * 69621 + c) % 2147483647) * 2147483629 + (((((a * 7919 + 13) * 48271 + a * 69621 + c) % 2147483647) * 16807 + (a * 7919 + 13) + 11) % 2147483629)), .int c]) := upd_same
            clear hS1
            walk_at "dr"
            refine ⟨_, _, _, 3, rfl, rfl, hS2, rfl, ?_⟩
            have kS3 : Kp [st] H (upd (upd (upd H st (.lst [.ref sc, .int (a + 1), .int b, .int c])) st (.lst [.ref sc, .int (a + 1), .int ((((a * 7919 + 13) * 48271 + a * 69621 + c) % 2147483647) * 2147483629 + (((((a * 7919 + 13) * 48271 + a * 69621 + c) % 2147483647) * 16807 + (a * 7919 + 13) + 11) % 2147483629)), .int c])) st (.lst [.ref sc, .int (a + 1), .int ((((a * 7919 + 13) * 48271 + a * 69621 + c) % 2147483647) * 2147483629 + (((((a * 7919 + 13) * 48271 + a * 69621 + c) % 2147483647) * 16807 + (a * 7919 + 13) + 11) % 2147483629)), .int ((c * 31 + (a * 7919 + 13)) % 1000003)])) := kS2.trans (Kp.put hS2 nt_lst (by simp))
            have hS3 : (upd (upd (upd H st (.lst [.ref sc, .int (a + 1), .int b, .int c])) st (.lst [.ref sc, .int (a + 1), .int ((((a * 7919 + 13) * 48271 + a * 69621 + c) % 2147483647) * 2147483629 + (((((a * 7919 + 13) * 48271 + a * 69621 + c) % 2147483647) * 16807 + (a * 7919 + 13) + 11) % 2147483629)), .int c])) st (.lst [.ref sc, .int (a + 1), .int ((((a * 7919 + 13) * 48271 + a * 69621 + c) % 2147483647) * 2147483629 + (((((a * 7919 + 13) * 48271 + a * 69621 + c) % 2147483647) * 16807 + (a * 7919 + 13) + 11) % 2147483629)), .int ((c * 31 + (a * 7919 + 13)) % 1000003)])) st = some (.lst [.ref sc, .int (a + 1), .int ((((a * 7919 + 13) * 48271 + a * 69621 + c) % 2147483647) * 2147483629 + (((((a * 7919 + 13) * 48271 + a * 69621 + c) % 2147483647) * 16807 + (a * 7919 + 13) + 11) % 2147483629)), .int ((c * 31 + (a * 7919 + 13)) % 1000003)]) := upd_same
            clear hS2
            walk_at "dr"
            refine ⟨show (0 : Int) < (m : Nat) by omega, ?_⟩
            walk_at "dr"
            refine ⟨show CDiv _ (m : Nat) from ⟨by omega, by omega⟩, ?_⟩
            walk_at "dr"
            refine ⟨_, _, _, 2, rfl, rfl, hS3, rfl, ?_⟩
            walk_at "dr"
            have e1 : (((((a * 7919 + 13) * 48271 + a * 69621 + c) % 2147483647) * 2147483629 + (((((a * 7919 + 13) * 48271 + a * 69621 + c) % 2147483647) * 16807 + (a * 7919 + 13) + 11) % 2147483629)) % ((m : Nat) : Int)) = ((((((a * 7919 + 13) * 48271 + a * 69621 + c) % 2147483647) * 2147483629 + (((((a * 7919 + 13) * 48271 + a * 69621 + c) % 2147483647) * 16807 + (a * 7919 + 13) + 11) % 2147483629)) % ((m : Nat) : Int)).toNat : Int) := (Int.toNat_of_nonneg (Int.emod_nonneg _ (by omega))).symm
            show Q (.int (((((a * 7919 + 13) * 48271 + a * 69621 + c) % 2147483647) * 2147483629 + (((((a * 7919 + 13) * 48271 + a * 69621 + c) % 2147483647) * 16807 + (a * 7919 + 13) + 11) % 2147483629)) % ((m : Nat) : Int))) _
            rw [e1]
            refine k _ ?_ _ (kS3.trans (Kp.put hS3 nt_lst (by simp))) ⟨ns, a + 1, _, _, upd_same, fun H2 k2 => h2 _ ((kS3.trans (Kp.put (M := [st]) hS3 nt_lst (by simp))).trans k2), h3, by omega⟩
            have z := Int.emod_lt_of_pos ((((a * 7919 + 13) * 48271 + a * 69621 + c) % 2147483647) * 2147483629 + (((((a * 7919 + 13) * 48271 + a * 69621 + c) % 2147483647) * 16807 + (a * 7919 + 13) + 11) % 2147483629)) (show (0 : Int) < ((m : Nat) : Int) by omega)
            omega
          · walk_at "dr"
            refine ⟨_, _, _, 2, rfl, rfl, hS1, rfl, ?_⟩
            have kS2 : Kp [st] H (upd (upd H st (.lst [.ref sc, .int (a + 1), .int b, .int c])) st (.lst [.ref sc, .int (a + 1), .int (if (a * 7919 + 13) < 0 then -(a * 7919 + 13) else (a * 7919 + 13)), .int c])) := kS1.trans (Kp.put hS1 nt_lst (by simp))
            have hS2 : (upd (upd H st (.lst [.ref sc, .int (a + 1), .int b, .int c])) st (.lst [.ref sc, .int (a + 1), .int (if (a * 7919 + 13) < 0 then -(a * 7919 + 13) else (a * 7919 + 13)), .int c])) st = some (.lst [.ref sc, .int (a + 1), .int (if (a * 7919 + 13) < 0 then -(a * 7919 + 13) else (a * 7919 + 13)), .int c]) := upd_same
            clear hS1
            walk_at "dr"
            refine ⟨_, _, _, 3, rfl, rfl, hS2, rfl, ?_⟩
            have kS3 : Kp [st] H (upd (upd (upd H st (.lst [.ref sc, .int (a + 1), .int b, .int c])) st (.lst [.ref sc, .int (a + 1), .int (if (a * 7919 + 13) < 0 then -(a * 7919 + 13) else (a * 7919 + 13)), .int c])) st (.lst [.ref sc, .int (a + 1), .int (if (a * 7919 + 13) < 0 then -(a * 7919 + 13) else (a * 7919 + 13)), .int ((c * 31 + (a * 7919 + 13)) % 1000003)])) := kS2.trans (Kp.put hS2 nt_lst (by simp))
            have hS3 : (upd (upd (upd H st (.lst [.ref sc, .int (a + 1), .int b, .int c])) st (.lst [.ref sc, .int (a + 1), .int (if (a * 7919 + 13) < 0 then -(a * 7919 + 13) else (a * 7919 + 13)), .int c])) st (.lst [.ref sc, .int (a + 1), .int (if (a * 7919 + 13) < 0 then -(a * 7919 + 13) else (a * 7919 + 13)), .int ((c * 31 + (a * 7919 + 13)) % 1000003)])) st = some (.lst [.ref sc, .int (a + 1), .int (if (a * 7919 + 13) < 0 then -(a * 7919 + 13) else (a * 7919 + 13)), .int ((c * 31 + (a * 7919 + 13)) % 1000003)]) := upd_same
            clear hS2
            walk_at "dr"
            refine ⟨show (0 : Int) < (m : Nat) by omega, ?_⟩
            walk_at "dr"
            refine ⟨show CDiv _ (m : Nat) from ⟨by omega, by omega⟩, ?_⟩
            walk_at "dr"
            refine ⟨_, _, _, 2, rfl, rfl, hS3, rfl, ?_⟩
            walk_at "dr"
            have e1 : ((if (a * 7919 + 13) < 0 then -(a * 7919 + 13) else (a * 7919 + 13)) % ((m : Nat) : Int)) = (((if (a * 7919 + 13) < 0 then -(a * 7919 + 13) else (a * 7919 + 13)) % ((m : Nat) : Int)).toNat : Int) := (Int.toNat_of_nonneg (Int.emod_nonneg _ (by omega))).symm
            show Q (.int ((if (a * 7919 + 13) < 0 then -(a * 7919 + 13) else (a * 7919 + 13)) % ((m : Nat) : Int))) _
            rw [e1]
            refine k _ ?_ _ (kS3.trans (Kp.put hS3 nt_lst (by simp))) ⟨ns, a + 1, _, _, upd_same, fun H2 k2 => h2 _ ((kS3.trans (Kp.put (M := [st]) hS3 nt_lst (by simp))).trans k2), h3, by omega⟩
            have z := Int.emod_lt_of_pos (if (a * 7919 + 13) < 0 then -(a * 7919 + 13) else (a * 7919 + 13)) (show (0 : Int) < ((m : Nat) : Int) by omega)
            omega
        · walk_at "dr"
          refine ⟨_, _, _, 2, rfl, rfl, hS1, rfl, ?_⟩
          have kS2 : Kp [st] H (upd (upd H st (.lst [.ref sc, .int (a + 1), .int b, .int c])) st (.lst [.ref sc, .int (a + 1), .int (if (a * 7919 + 13) < 0 then -(a * 7919 + 13) else (a * 7919 + 13)), .int c])) := kS1.trans (Kp.put hS1 nt_lst (by simp))
          have hS2 : (upd (upd H st (.lst [.ref sc, .int (a + 1), .int b, .int c])) st (.lst [.ref sc, .int (a + 1), .int (if (a * 7919 + 13) < 0 then -(a * 7919 + 13) else (a * 7919 + 13)), .int c])) st = some (.lst [.ref sc, .int (a + 1), .int (if (a * 7919 + 13) < 0 then -(a * 7919 + 13) else (a * 7919 + 13)), .int c]) := upd_same
          clear hS1
          walk_at "dr"
          refine ⟨_, _, _, 3, rfl, rfl, hS2, rfl, ?_⟩
          have kS3 : Kp [st] H (upd (upd (upd H st (.lst [.ref sc, .int (a + 1), .int b, .int c])) st (.lst [.ref sc, .int (a + 1), .int (if (a * 7919 + 13) < 0 then -(a * 7919 + 13) else (a * 7919 + 13)), .int c])) st (.lst [.ref sc, .int (a + 1), .int (if (a * 7919 + 13) < 0 then -(a * 7919 + 13) else (a * 7919 + 13)), .int ((c * 31 + (a * 7919 + 13)) % 1000003)])) := kS2.trans (Kp.put hS2 nt_lst (by simp))
          have hS3 : (upd (upd (upd H st (.lst [.ref sc, .int (a + 1), .int b, .int c])) st (.lst [.ref sc, .int (a + 1), .int (if (a * 7919 + 13) < 0 then -(a * 7919 + 13) else (a * 7919 + 13)), .int c])) st (.lst [.ref sc, .int (a + 1), .int (if (a * 7919 + 13) < 0 then -(a * 7919 + 13) else (a * 7919 + 13)), .int ((c * 31 + (a * 7919 + 13)) % 1000003)])) st = some (.lst [.ref sc, .int (a + 1), .int (if (a * 7919 + 13) < 0 then -(a * 7919 + 13) else (a * 7919 + 13)), .int ((c * 31 + (a * 7919 + 13)) % 1000003)]) := upd_same
          clear hS2
          walk_at "dr"
          refine ⟨show (0 : Int) < (m : Nat) by omega, ?_⟩
          walk_at "dr"
          refine ⟨show CDiv _ (m : Nat) from ⟨by omega, by omega⟩, ?_⟩
          walk_at "dr"
          refine ⟨_, _, _, 2, rfl, rfl, hS3, rfl, ?_⟩
          walk_at "dr"
          have e1 : ((if (a * 7919 + 13) < 0 then -(a * 7919 + 13) else (a * 7919 + 13)) % ((m : Nat) : Int)) = (((if (a * 7919 + 13) < 0 then -(a * 7919 + 13) else (a * 7919 + 13)) % ((m : Nat) : Int)).toNat : Int) := (Int.toNat_of_nonneg (Int.emod_nonneg _ (by omega))).symm
          show Q (.int ((if (a * 7919 + 13) < 0 then -(a * 7919 + 13) else (a * 7919 + 13)) % ((m : Nat) : Int))) _
          rw [e1]
          refine k _ ?_ _ (kS3.trans (Kp.put hS3 nt_lst (by simp))) ⟨ns, a + 1, _, _, upd_same, fun H2 k2 => h2 _ ((kS3.trans (Kp.put (M := [st]) hS3 nt_lst (by simp))).trans k2), h3, by omega⟩
          have z := Int.emod_lt_of_pos (if (a * 7919 + 13) < 0 then -(a * 7919 + 13) else (a * 7919 + 13)) (show (0 : Int) < ((m : Nat) : Int) by omega)
          omega
    · walk_at "dr"
      refine ⟨show (0 : Int) < (m : Nat) by omega, ?_⟩
      walk_at "dr"
      refine ⟨show CDiv _ (m : Nat) from ⟨by omega, by omega⟩, ?_⟩
      walk_at "dr"
      refine ⟨_, _, _, 2, rfl, rfl, hS0, rfl, ?_⟩
      walk_at "dr"
      have e1 : (b % ((m : Nat) : Int)) = ((b % ((m : Nat) : Int)).toNat : Int) := (Int.toNat_of_nonneg (Int.emod_nonneg _ (by omega))).symm
      show Q (.int (b % ((m : Nat) : Int))) _
      rw [e1]
      refine k _ ?_ _ (kS0.trans (Kp.put hS0 nt_lst (by simp))) ⟨ns, a, _, c, upd_same, fun H2 k2 => h2 _ ((kS0.trans (Kp.put (M := [st]) hS0 nt_lst (by simp))).trans k2), h3, by omega⟩
      have z := Int.emod_lt_of_pos b (show (0 : Int) < ((m : Nat) : Int) by omega)
      omega
end
end K7


set_option Elab.async false
set_option linter.all false
set_option maxRecDepth 100000
set_option maxHeartbeats 4000000
namespace K7
open PySem PySem.Spec PyProof.Rows L2 He Hz Cm Lx Px Gx Wx
local macro_rules | `(tactic| walk_at "rd") => `(tactic| repeat (first | (refine ⟨_, rfl, ?_⟩) | (refine ⟨_, _, rfl, rfl, ?_⟩) | (refine ⟨rfl, ?_⟩) | (refine ⟨szl (by omega), ?_⟩) | (refine ⟨_, _, _, _, _, rfl, (by assumption), (by assumption), (by assumption), (by rfl), ?_⟩) | (refine ⟨_, _, rfl, Or.inl (by assumption), ?_⟩)))
local macro_rules | `(tactic| walk_at "dp") => `(tactic| (repeat' (first | exact DpAll.nil | apply DpAll.cons | exact Dp.str _ | exact Dp.int _ | exact Dp.non | exact Dp.bl _ | assumption)))
section
variable {P : Program} {w : World} {K : PySem.W.Frag} {mg : Str → Option Value} {base : Heap} {H H1 H' : Hp} {Q : VK} {E : XK}
def spNames : Sp := fun vs H Q _ => ∃ st sc m, vs = [.ref st, .int (m : Nat)] ∧ m ≤ 1000 ∧ StAt K H st sc ∧ ∀ l : List Str, l.length = m → (∀ x ∈ l, x ∈ A6) → ∀ p H', H p = none → Kp [st] H H' → StAt K H' st sc → H' p = some (.lst (l.map V.str)) → Q (.ref p) H'
theorem ok_law_names (T : Tx P K mg) : OkF P w K mg base CX0 2 a__law_names ["state", "many"] (spNames (K := K)) := by
  have nd := sc__law_names.nd
  have F__law_draw := ok_law_draw (P := P) (w := w) (base := base) T
  refine T.f__law_names.ok (CX := CX0) sc__law_names (fun vs H Q E h => ?_) (fun cdv A outer s H vs Q E hr h => ?_)
  · obtain ⟨_, _, _, rfl, _⟩ := h
    rfl
  · obtain ⟨st, sc, m, rfl, hm, hst, k⟩ := h
    refine ⟨_, PSs.nox (pss_one (ps_ret (pe_lc (own := [("k", 2)]) (g := gName 2) (tt := tYes) rfl nd (pi_range1 rfl T.n_range (pa_cons (pv 1) pa_nil)) (blkOk_by (N := (["state", "many", "k"] : List Str)) (sc := defScope s__law_names) (by decide +kernel)) (fun _ _ _ _ _ => pg_name (i := 2) nd rfl (Or.inl rfl)) (fun _ _ _ _ _ => pts_nil) (fun _ _ _ _ _ => by exact (pe_ix (show IxR _ (rIxL K) from ix_list) (pe_lst (pa_cons pe_str (pa_cons pe_str (pa_cons pe_str (pa_cons pe_str (pa_cons pe_str (pa_cons pe_str pa_nil))))))) (pe_call F__law_draw (hr.mono (by decide)) rfl T.g__law_draw T.k__law_draw T.b__law_draw .nil pass0 (pa_cons (pv 0) (pa_cons pe_int pa_nil))) (fun _ _ => rfl)))))), ?_⟩
    walk_at "rd"
    refine ⟨rng_lo _, rng_hi (by omega), ?_⟩
    intro D hD
    refine lc_range (n := m) (lo := 0) (fun i H' => ∃ l : List Str, l.length = i ∧ (∀ x ∈ l, x ∈ A6) ∧ Kp [st] H H' ∧ StAt K H' st sc ∧ H' D = some (.lst (l.map V.str))) ⟨[], rfl, fun x m => absurd m List.not_mem_nil, Kp.new hD, hst.kp (Kp.new hD), upd_same⟩ ?_ ?_
    · rintro i H0 hi ⟨l, hl, hA, k0, s0, hD0⟩
      refine ⟨rfl, ?_⟩
      walk_at "rd"
      refine ⟨szl (Nat.le_of_ble_eq_true rfl), fun p1 hp1 => ?_⟩
      have k1 : Kp [st] H (upd H0 p1 (.lst [.str "p", .str "q", .str "r", .str "g", .str "x", .str "p"])) := k0.trans (Kp.new hp1)
      have s1 : StAt K (upd H0 p1 (.lst [.str "p", .str "q", .str "r", .str "g", .str "x", .str "p"])) st sc := s0.kp (Kp.new hp1)
      have l1 : (upd H0 p1 (.lst [.str "p", .str "q", .str "r", .str "g", .str "x", .str "p"])) p1 = some (.lst (A6.map V.str)) := upd_same
      have hD1 : (upd H0 p1 (.lst [.str "p", .str "q", .str "r", .str "g", .str "x", .str "p"])) D = some (.lst (l.map V.str)) := (upd_ne (ne_of_none hD0 hp1)).trans hD0
      have o1 : p1 ≠ st := s0.old hp1
      generalize upd H0 p1 (.lst [.str "p", .str "q", .str "r", .str "g", .str "x", .str "p"]) = H1 at k1 s1 l1 hD1
      walk_at "rd"
      refine ⟨st, sc, 6, rfl, by decide, by decide, s1, fun t2 ht2 H2 r2 s2 => ?_⟩
      have k2 := k1.trans r2
      walk_at "rd"
      obtain ⟨x, x0, xm⟩ := pick_at A6 (t := t2) ht2
      have x1 : (A6.map V.str)[t2]? = some (.str x) := by rw [List.getElem?_map, x0]; rfl
      refine ⟨_, _, _, _, rfl, rfl, SqL.of (r2.keep _ _ (by simpa using o1) l1), atI_nat x1, ?_⟩
      walk_at "rd"
      refine ⟨_, r2.keep _ _ (by simpa using hst.old hD) hD1, by rw [List.length_map]; exact szt (by omega), l ++ [x], by rw [List.length_append, hl]; rfl, fun y m => ?_, k2.mine hD, hst.mine hD k2 s2, ?_⟩
      · rcases List.mem_append.mp m with m | m
        · exact hA y m
        · rw [List.mem_singleton.mp m]
          exact xm
      · rw [upd_same, List.map_append]
        rfl
    · rintro H1 ⟨l, hl, hA, k0, s0, hD0⟩
      exact k l hl hA D H1 hD k0 s0 hD0
local macro_rules | `(tactic| walk_at "st") => `(tactic| repeat (first | (refine ⟨_, rfl, ?_⟩) | (refine ⟨_, _, rfl, rfl, ?_⟩) | (refine ⟨rfl, ?_⟩) | (refine ⟨szl (by omega), ?_⟩) | (refine ⟨szl (by simp only [PySem.Str.length_append]; omega), ?_⟩)))
theorem dp2 {us : List V} {a : Str} {b : Int} (h : DpAll K H us [.str a, .int b]) : us = [.str a, .int b] := by
  cases h with
  | cons h1 h2 =>
    obtain rfl := Dp.strOf h1
    cases h2 with
    | cons h3 h4 =>
      obtain rfl := Dp.intOf h3
      cases h4
      rfl
theorem lits : (" = new ;" : Str).length = 8 ∧ (" = " : Str).length = 3 ∧ (" ;" : Str).length = 2 ∧ ("out " : Str).length = 4 ∧ ("return " : Str).length = 7 ∧ (" ( " : Str).length = 3 ∧ (" ) ;" : Str).length = 4 ∧ ("name" : Str).length = 4 ∧ (" , " : Str).length = 3 := by decide +kernel
def HdAt (K : PySem.W.Frag) (H : Hp) (hd : Addr) (hs : List (Str × Nat)) : Prop := ∃ vs, H hd = some (.lst vs) ∧ DpAll K H vs (hs.map fun h => PyData.tuple [.str h.1, .int (h.2 : Nat)])
theorem hd_nl : ∀ hs : List (Str × Nat), noLs (hs.map fun h => PyData.tuple [.str h.1, .int (h.2 : Nat)]) = true
  | [] => rfl
  | h :: hs => by
    show (true && noLs (hs.map fun h => PyData.tuple [.str h.1, .int (h.2 : Nat)])) = true
    rw [hd_nl hs]
    rfl
theorem HdAt.kp {M : List Addr} {hd : Addr} {hs : List (Str × Nat)} (h : HdAt K H hd hs) (k : Kp M H H') (n : hd ∉ M) : HdAt K H' hd hs := by
  obtain ⟨vs, h1, h2⟩ := h
  exact ⟨vs, k.keep _ _ n h1, Dp.kps k _ _ (hd_nl hs) h2⟩
def spStmt : Sp := fun vs H Q _ => ∃ st sc hd hs n, vs = [.ref st, .ref hd, .int (n : Nat)] ∧ StAt K H st sc ∧ HdAt K H hd hs ∧ hd ≠ st ∧ OkHs hs ∧ ∀ s : Sm, OkS hs n s → ∀ u H', Kp [st] H H' → StAt K H' st sc → Dp K H' u (.tuple [.str (sText s), s.enc]) → Q u H'
theorem ok_law_statement (T : Tx P K mg) : OkF P w K mg base CX0 2 a__law_statement ["state", "heads", "number"] (spStmt (K := K)) := by
  have nd := sc__law_statement.nd
  have F__law_draw := ok_law_draw (P := P) (w := w) (base := base) T
  refine T.f__law_statement.ok (CX := CX0) sc__law_statement (fun vs H Q E h => ?_) (fun cdv A outer s H vs Q E hr h => ?_)
  · obtain ⟨_, _, _, _, _, rfl, _⟩ := h
    rfl
  · obtain ⟨st, sc, hd, hs, n, rfl, s0, hh, hhd, hok, k⟩ := h
    refine ⟨_, PSs.nox (pss_cons (ps_set (i := 3) nd rfl (Or.inl rfl) (pe_call F__law_draw (hr.mono (by decide)) rfl T.g__law_draw T.k__law_draw T.b__law_draw .nil pass0 (pa_cons (pv 0) (pa_cons pe_int pa_nil))))
      (pss_cons (ps_set (i := 4) nd rfl (Or.inl rfl) (pe_ix ix_list (pe_lst (pa_cons pe_str (pa_cons pe_str pa_nil))) (pe_call F__law_draw (hr.mono (by decide)) rfl T.g__law_draw T.k__law_draw T.b__law_draw .nil pass0 (pa_cons (pv 0) (pa_cons pe_int pa_nil))) (fun _ _ => rfl)))
      (pss_cons (ps_set (i := 5) nd rfl (Or.inl rfl) (pe_ix ix_list (pe_lst (pa_cons pe_str (pa_cons pe_str (pa_cons pe_str (pa_cons pe_str (pa_cons pe_str (pa_cons pe_str (pa_cons pe_str pa_nil)))))))) (pe_call F__law_draw (hr.mono (by decide)) rfl T.g__law_draw T.k__law_draw T.b__law_draw .nil pass0 (pa_cons (pv 0) (pa_cons pe_int pa_nil))) (fun _ _ => rfl)))
      (pss_cons (ps_if (pt_cmpR op_eq (pv 3) pe_int (nomark _)) (pss_one (ps_ret (pe_tup (pa_cons (pe_op op_add_str (pv 4) pe_str) (pa_cons (pe_tup (pa_cons pe_str (pa_cons (pv 4) (pa_cons (pv 2) pa_nil)))) pa_nil))))) pss_nil)
      (pss_cons (ps_if (pt_cmpR op_eq (pv 3) pe_int (nomark _)) (pss_one (ps_ret (pe_tup (pa_cons (pe_op op_add_str (pe_op op_add_str (pe_op op_add_str (pv 4) pe_str) (pv 5)) pe_str) (pa_cons (pe_tup (pa_cons pe_str (pa_cons (pv 4) (pa_cons (pe_tup (pa_cons pe_str (pa_cons (pv 5) pa_nil))) (pa_cons (pv 2) pa_nil))))) pa_nil))))) pss_nil)
      (pss_cons (ps_if (pt_cmpR op_eq (pv 3) pe_int (nomark _)) (pss_one (ps_ret (pe_tup (pa_cons (pe_op op_add_str (pe_op op_add_str pe_str (pv 5)) pe_str) (pa_cons (pe_tup (pa_cons pe_str (pa_cons (pv 5) (pa_cons (pv 2) pa_nil)))) pa_nil))))) pss_nil)
      (pss_cons (ps_if (pt_cmpR op_eq (pv 3) pe_int (nomark _)) (pss_one (ps_ret (pe_tup (pa_cons (pe_op op_add_str (pe_op op_add_str pe_str (pv 5)) pe_str) (pa_cons (pe_tup (pa_cons pe_str (pa_cons (pe_tup (pa_cons pe_str (pa_cons (pv 5) pa_nil))) (pa_cons (pv 2) pa_nil)))) pa_nil))))) pss_nil)
      (pss_cons (ps_asg (pe_ix ix_list (pv 1) (pe_call F__law_draw (hr.mono (by decide)) rfl T.g__law_draw T.k__law_draw T.b__law_draw .nil pass0 (pa_cons (pv 0) (pa_cons (pe_callB call_len_seq (by rfl) T.n_len PySem.boot_len (pa_cons (pv 1) pa_nil)) pa_nil))) (fun _ _ => rfl)) (pg_tup rfl (pgs_cons (pg_name (i := 6) nd rfl (Or.inl rfl)) (pgs_cons (pg_name (i := 7) nd rfl (Or.inl rfl)) pgs_nil))))
      (pss_cons (ps_if (pt_cmpR op_eq (pe_call F__law_draw (hr.mono (by decide)) rfl T.g__law_draw T.k__law_draw T.b__law_draw .nil pass0 (pa_cons (pv 0) (pa_cons pe_int pa_nil))) pe_int (nomark _)) (pss_one (ps_set (i := 7) nd rfl (Or.inl rfl) (pe_op op_add (pv 7) pe_int))) pss_nil)
      (pss_cons (ps_setLc (i := 8) (own := [("k", 9)]) (g := gName 9) (tt := tYes) rfl nd rfl rfl (sw_true rfl rfl rfl (by decide +kernel)) (pi_range1 rfl T.n_range (pa_cons (pv 7) pa_nil)) (blkOk_by (N := (["state", "heads", "number", "kind", "x", "v", "name", "count", "values", "k", "one"] : List Str)) (sc := defScope s__law_statement) (by decide +kernel)) (fun _ _ _ _ _ => pg_name (i := 9) nd rfl (Or.inl rfl)) (fun _ _ _ _ _ => pts_nil) (fun _ _ _ _ _ => by exact (pe_ix (show IxR _ (rIxL K) from ix_list) (pe_lst (pa_cons pe_str (pa_cons pe_str (pa_cons pe_str (pa_cons pe_str (pa_cons pe_str pa_nil)))))) (pe_call F__law_draw (hr.mono (by decide)) rfl T.g__law_draw T.k__law_draw T.b__law_draw .nil pass0 (pa_cons (pv 0) (pa_cons pe_int pa_nil))) (fun _ _ => rfl))))
      (pss_one (ps_ret (pe_tup (pa_cons (pe_op op_add_str (pe_op op_add_str (pe_op op_add_str (pe_op op_add_str (pe_op op_add_str (pv 4) pe_str) (pv 6)) pe_str) (pe_bm PySem.F.plainAttrs_str PySem.F.slot_str_join PySem.F.type_str_join mt_join pe_str (pa_cons (pv 8) pa_nil))) pe_str) (pa_cons (pe_tup (pa_cons pe_str (pa_cons (pv 4) (pa_cons (pv 6) (pa_cons (pe_callTy call_tuple_of (by rfl) T.n_tuple (by decide +kernel) (pa_cons (pe_lc (own := [("one", 10)]) (g := gName 10) (tt := tYes) rfl nd (pi_list (pv 8)) (blkOk_by (N := (["state", "heads", "number", "kind", "x", "v", "name", "count", "values", "k", "one"] : List Str)) (sc := defScope s__law_statement) (by decide +kernel)) (fun _ _ _ _ _ => pg_name (i := 10) nd rfl (Or.inl rfl)) (fun _ _ _ _ _ => pts_nil) (fun _ _ _ _ _ => by exact (pe_tup (pa_cons pe_str (pa_cons (pv 10) pa_nil))))) pa_nil)) (pa_cons (pv 2) pa_nil)))))) pa_nil))))))))))))))), ?_⟩
    have k0 : Kp [st] H H := Kp.refl
    have fin : ∀ (s : Sm) (Hn : Hp) (p q : Addr) (vs : List V) (ds : List PyData), s.enc = .tuple ds → OkS hs n s → Kp [st] H Hn → StAt K Hn st sc → DpAll K Hn vs ds → Hn p = none → (upd Hn p (.tup vs)) q = none → Q (.ref q) (upd (upd Hn p (.tup vs)) q (.tup [.str (sText s), .ref p])) := fun s Hn p q vs ds es os a1 a2 a3 a4 a5 => by
      have nl := Sm.nl s
      have hp : Dp K (upd Hn p (.tup vs)) (.ref p) s.enc := by
        rw [es] at nl ⊢
        exact Dp.new a3 nl a4
      have nl2 : noLs [.str (sText s), s.enc] = true := by
        show (true && (noL s.enc && true)) = true
        rw [nl]
        rfl
      have kk : Kp [] Hn (upd (upd Hn p (.tup vs)) q (.tup [.str (sText s), .ref p])) := (Kp.new a4).trans (Kp.new a5)
      exact k s os _ _ (a1.trans kk.nil) (a2.kp kk) (Dp.new (.cons (.str _) (.cons hp .nil)) nl2 a5)
    walk_at "rd"
    refine ⟨st, sc, 6, rfl, by decide, by decide, s0, fun t1 ht1 H1 r1 s1 => ?_⟩
    have k1 := k0.trans r1
    walk_at "rd"
    refine ⟨szl (Nat.le_of_ble_eq_true rfl), fun p2 hp2 => ?_⟩
    have k2 : Kp [st] H (upd H1 p2 (.lst [.str "x", .str "y"])) := k1.trans (Kp.new hp2)
    have s2 : StAt K (upd H1 p2 (.lst [.str "x", .str "y"])) st sc := s1.kp (Kp.new hp2)
    have l2 : (upd H1 p2 (.lst [.str "x", .str "y"])) p2 = some (.lst (A2.map V.str)) := upd_same
    have o2 : p2 ≠ st := s1.old hp2
    generalize upd H1 p2 (.lst [.str "x", .str "y"]) = H2 at k2 s2 l2
    walk_at "rd"
    refine ⟨st, sc, 2, rfl, by decide, by decide, s2, fun t3 ht3 H3 r3 s3 => ?_⟩
    have k3 := k2.trans r3
    walk_at "rd"
    obtain ⟨x, x0, xm⟩ := pick_at A2 (t := t3) ht3
    have x1 : (A2.map V.str)[t3]? = some (.str x) := by rw [List.getElem?_map, x0]; rfl
    refine ⟨_, _, _, _, rfl, rfl, SqL.of (r3.keep _ _ (by simpa using o2) l2), atI_nat x1, ?_⟩
    walk_at "rd"
    refine ⟨szl (Nat.le_of_ble_eq_true rfl), fun p4 hp4 => ?_⟩
    have k4 : Kp [st] H (upd H3 p4 (.lst [.str "p", .str "x", .str "y", .str "g", .str "z", .str "p", .str "x"])) := k3.trans (Kp.new hp4)
    have s4 : StAt K (upd H3 p4 (.lst [.str "p", .str "x", .str "y", .str "g", .str "z", .str "p", .str "x"])) st sc := s3.kp (Kp.new hp4)
    have l4 : (upd H3 p4 (.lst [.str "p", .str "x", .str "y", .str "g", .str "z", .str "p", .str "x"])) p4 = some (.lst (A7.map V.str)) := upd_same
    have o4 : p4 ≠ st := s3.old hp4
    generalize upd H3 p4 (.lst [.str "p", .str "x", .str "y", .str "g", .str "z", .str "p", .str "x"]) = H4 at k4 s4 l4
    walk_at "rd"
    refine ⟨st, sc, 7, rfl, by decide, by decide, s4, fun t5 ht5 H5 r5 s5 => ?_⟩
    have k5 := k4.trans r5
    walk_at "rd"
    obtain ⟨v, v0, vm⟩ := pick_at A7 (t := t5) ht5
    have v1 : (A7.map V.str)[t5]? = some (.str v) := by rw [List.getElem?_map, v0]; rfl
    refine ⟨_, _, _, _, rfl, rfl, SqL.of (r5.keep _ _ (by simpa using o4) l4), atI_nat v1, ?_⟩
    walk_at "rd"
    have hx4 := Wx.s2 xm
    have hv4 := Wx.s7 vm
    obtain ⟨L1, L2, L3, L4, L5, L6, L7, L8, L9⟩ := lits
    refine iteB (fun h => ?_) (fun h => ?_)
    · walk_at "st"
      refine ⟨szl (Nat.le_of_ble_eq_true rfl), fun p hp => ?_⟩
      walk_at "rd"
      refine ⟨szl (Nat.le_of_ble_eq_true rfl), fun q hq => ?_⟩
      exact fin (.new x n) _ p q _ _ rfl (.new x xm) k5 s5 (by walk_at "dp") hp hq
    walk_at "rd"
    refine iteB (fun h => ?_) (fun h => ?_)
    · walk_at "st"
      refine ⟨szl (Nat.le_of_ble_eq_true rfl), fun p0 hp0 => ?_⟩
      have k6 : Kp [st] H (upd H5 p0 (.tup [.str "name", .str v])) := k5.trans (Kp.new hp0)
      have s6 := s5.kp (Kp.new (o := .tup [.str "name", .str v]) hp0)
      have d6 : Dp K (upd H5 p0 (.tup [.str "name", .str v])) (.ref p0) (Vl.nm v).enc := Dp.new (vs := [.str "name", .str v]) (by walk_at "dp") rfl hp0
      walk_at "rd"
      refine ⟨szl (Nat.le_of_ble_eq_true rfl), fun p hp => ?_⟩
      walk_at "rd"
      refine ⟨szl (Nat.le_of_ble_eq_true rfl), fun q hq => ?_⟩
      exact fin (.set x (.nm v) n) _ p q _ _ rfl (.set x v xm vm) k6 s6 (by walk_at "dp") hp hq
    walk_at "rd"
    refine iteB (fun h => ?_) (fun h => ?_)
    · walk_at "st"
      refine ⟨szl (Nat.le_of_ble_eq_true rfl), fun p hp => ?_⟩
      walk_at "rd"
      refine ⟨szl (Nat.le_of_ble_eq_true rfl), fun q hq => ?_⟩
      exact fin (.out v n) _ p q _ _ rfl (.out v vm) k5 s5 (by walk_at "dp") hp hq
    walk_at "rd"
    refine iteB (fun h => ?_) (fun h => ?_)
    · walk_at "st"
      refine ⟨szl (Nat.le_of_ble_eq_true rfl), fun p0 hp0 => ?_⟩
      have k6 : Kp [st] H (upd H5 p0 (.tup [.str "name", .str v])) := k5.trans (Kp.new hp0)
      have s6 := s5.kp (Kp.new (o := .tup [.str "name", .str v]) hp0)
      have d6 : Dp K (upd H5 p0 (.tup [.str "name", .str v])) (.ref p0) (Vl.nm v).enc := Dp.new (vs := [.str "name", .str v]) (by walk_at "dp") rfl hp0
      walk_at "rd"
      refine ⟨szl (Nat.le_of_ble_eq_true rfl), fun p hp => ?_⟩
      walk_at "rd"
      refine ⟨szl (Nat.le_of_ble_eq_true rfl), fun q hq => ?_⟩
      exact fin (.ret (.nm v) n) _ p q _ _ rfl (.ret v vm) k6 s6 (by walk_at "dp") hp hq
    walk_at "rd"
    obtain ⟨hvs, hl5, hd5⟩ := hh.kp k5 (by simpa using hhd)
    have hvl : hvs.length = 3 := by rw [DpAll.length hd5, List.length_map]; exact hok.1
    refine ⟨_, _, rfl, .inl (SqL.of hl5), ?_⟩
    walk_at "rd"
    refine ⟨st, sc, hvs.length, rfl, (by omega), (by omega), s5, fun t6 ht6 H6 r6 s6 => ?_⟩
    have k6 := k5.trans r6
    walk_at "rd"
    have hl6 := r6.keep _ _ (by simpa using hhd) hl5
    have ht6' : t6 < hs.length := by rw [hok.1]; omega
    obtain ⟨hv, hhv, hdv⟩ := DpAll.get hd5 (i := t6) (d := .tuple [.str hs[t6].1, .int (hs[t6].2 : Nat)]) (by rw [List.getElem?_map, List.getElem?_eq_getElem ht6']; rfl)
    have hmem : (hs[t6].1, hs[t6].2) ∈ hs := List.getElem_mem ht6'
    have hgc := hok.2 _ hmem
    generalize hs[t6].1 = g at hdv hmem hgc
    generalize hs[t6].2 = c at hdv hmem hgc
    have hg4 : g.length ≤ 4 := sH hgc.1
    have hc3 : c ≤ 3 := hgc.2
    obtain ⟨hq, hus, rfl, hsq, hall⟩ := Dp.tupOf hdv
    obtain rfl := dp2 hall
    refine ⟨_, _, _, _, rfl, rfl, SqL.of hl6, atI_nat hhv, ?_⟩
    refine ⟨_, _, rfl, r6.sqt hsq, rfl, ?_⟩
    refine ⟨_, _, rfl, _, _, rfl, rfl, ?_⟩
    walk_at "rd"
    refine ⟨st, sc, 6, rfl, by decide, by decide, s6, fun t7 ht7 H7 r7 s7 => ?_⟩
    have k7 := k6.trans r7
    walk_at "rd"
    refine iteB (fun h => ?_) (fun h => ?_)
    · walk_at "rd"
      refine ⟨rng_lo (c + 1), rng_hi (n := c + 1) (by omega), ?_⟩
      intro D hD
      have oD := s7.old hD
      have hDH := k7.fresh (by simpa using oD) hD
      refine lc_range (n := c + 1) (lo := 0) (fun i H' => ∃ us : List Str, us.length = i ∧ (∀ x ∈ us, x ∈ A5) ∧ Kp [st] H H' ∧ StAt K H' st sc ∧ H' D = some (.lst (us.map V.str))) ⟨[], rfl, fun x m => absurd m List.not_mem_nil, k7.trans (Kp.new hD), s7.kp (Kp.new hD), upd_same⟩ ?_ ?_
      · rintro i H10 hi ⟨us, hl, hA, k10, s10, hD10⟩
        refine ⟨rfl, ?_⟩
        walk_at "rd"
        refine ⟨szl (Nat.le_of_ble_eq_true rfl), fun p11 hp11 => ?_⟩
        have k11 : Kp [st] H (upd H10 p11 (.lst [.str "p", .str "x", .str "g", .str "w", .str "x"])) := k10.trans (Kp.new hp11)
        have s11 : StAt K (upd H10 p11 (.lst [.str "p", .str "x", .str "g", .str "w", .str "x"])) st sc := s10.kp (Kp.new hp11)
        have l11 : (upd H10 p11 (.lst [.str "p", .str "x", .str "g", .str "w", .str "x"])) p11 = some (.lst (A5.map V.str)) := upd_same
        have hD11 : (upd H10 p11 (.lst [.str "p", .str "x", .str "g", .str "w", .str "x"])) D = some (.lst (us.map V.str)) := (upd_ne (ne_of_none hD10 hp11)).trans hD10
        have o11 : p11 ≠ st := s10.old hp11
        generalize upd H10 p11 (.lst [.str "p", .str "x", .str "g", .str "w", .str "x"]) = H11 at k11 s11 l11 hD11
        walk_at "rd"
        refine ⟨st, sc, 5, rfl, by decide, by decide, s11, fun t12 ht12 H12 r12 s12 => ?_⟩
        have k12 := k11.trans r12
        walk_at "rd"
        obtain ⟨y, y0, ym⟩ := pick_at A5 (t := t12) ht12
        have y1 : (A5.map V.str)[t12]? = some (.str y) := by rw [List.getElem?_map, y0]; rfl
        refine ⟨_, _, _, _, rfl, rfl, SqL.of (r12.keep _ _ (by simpa using o11) l11), atI_nat y1, ?_⟩
        walk_at "rd"
        refine ⟨_, r12.keep _ _ (by simpa using oD) hD11, by rw [List.length_map]; exact szt (by omega), us ++ [y], by rw [List.length_append, hl]; rfl, fun z m => ?_, k12.mine hDH, s0.mine hDH k12 s12, ?_⟩
        · rcases List.mem_append.mp m with m | m
          · exact hA z m
          · rw [List.mem_singleton.mp m]
            exact ym
        · rw [upd_same, List.map_append]
          rfl
      · rintro H10 ⟨us, hul, hA, k10, s10, hD10⟩
        have huA : ∀ u ∈ us, u.length ≤ 4 := fun u m => Wx.s5 (hA u m)
        have hul4 : us.length ≤ 4 := by omega
        have hjl := jlen (y := " , ") us huA
        have hjl2 : us.length * (4 + (" , " : Str).length) ≤ 4 * 7 := by rw [L9]; exact Nat.mul_le_mul hul4 (by omega)
        walk_at "st"
        refine ⟨_, _, us, rfl, rfl, .inl (SqL.of hD10), jok us huA (by omega) (by rw [L9]; omega) (by omega), ?_⟩
        walk_at "st"
        refine ⟨⟨_, SqL.of hD10⟩, ?_⟩
        intro D2 hD2
        refine lc_list (xs := us.map V.str) (fun i H' => ∃ vs, Kp [] H10 H' ∧ DpAll K H' vs ((us.take i).map fun u => (Vl.nm u).enc) ∧ vs.length = i ∧ H' D2 = some (.lst vs)) ⟨[], Kp.new hD2, .nil, rfl, upd_same⟩ ?_ ?_ ?_
        · rintro i H11 _ ⟨vs, k11, _⟩
          exact SqL.of (k11.keep _ _ (by simp) hD10)
        · rintro i x2 H11 hx2 ⟨vs, k11, d11, v11, hD11⟩
          have hi : i < us.length := by
            have z := (List.getElem?_eq_some_iff.mp hx2).1
            rw [List.length_map] at z
            exact z
          rw [List.getElem?_map, List.getElem?_eq_getElem hi] at hx2
          obtain rfl := Option.some.inj hx2
          refine ⟨rfl, ?_⟩
          walk_at "rd"
          refine ⟨szl (Nat.le_of_ble_eq_true rfl), fun p hp => ?_⟩
          have np : D2 ≠ p := ne_of_none hD11 hp
          have kp : Kp [] H11 (upd H11 p (.tup [.str "name", .str us[i]])) := Kp.new hp
          have k12 := (k11.trans kp).mine (o := .lst (vs ++ [.ref p])) hD2
          refine ⟨_, (upd_ne np).trans hD11, szt (by omega), _, k12, ?_, by rw [List.length_append, v11]; rfl, upd_same⟩
          rw [List.take_add_one, List.getElem?_eq_getElem hi, List.map_append]
          have kD : Kp [D2] (upd H11 p (.tup [.str "name", .str us[i]])) (upd (upd H11 p (.tup [.str "name", .str us[i]])) D2 (.lst (vs ++ [.ref p]))) := Kp.put ((upd_ne np).trans hD11) nt_lst (by simp)
          have nl0 : noLs ((us.take i).map fun u => (Vl.nm u).enc) = true := noLs_map (List.all_eq_true.mpr fun u _ => rfl)
          exact DpAll.snoc (Dp.kps kD _ _ nl0 (Dp.kps kp _ _ nl0 d11)) (Dp.kp kD _ _ rfl (Dp.new (ds := [.str "name", .str us[i]]) (by walk_at "dp") rfl hp))
        · rintro H11 ⟨vs, k11, d11, v11, hD11⟩
          rw [List.length_map, List.take_length] at d11
          walk_at "rd"
          refine ⟨_, _, rfl, .inl ⟨SqL.of hD11, fun t0 ht0 => ?_⟩⟩
          have nl0 : noLs (us.map fun u => (Vl.nm u).enc) = true := noLs_map (List.all_eq_true.mpr fun u _ => rfl)
          have k12 : Kp [] H10 (upd H11 t0 (.tup vs)) := k11.trans (Kp.new ht0)
          have d12 : Dp K (upd H11 t0 (.tup vs)) (.ref t0) (.tuple (us.map fun u => (Vl.nm u).enc)) := Dp.new d11 nl0 ht0
          walk_at "rd"
          refine ⟨szl (Nat.le_of_ble_eq_true rfl), fun p hp => ?_⟩
          walk_at "rd"
          refine ⟨szl (Nat.le_of_ble_eq_true rfl), fun q hq => ?_⟩
          have e1 : (us.map fun u => (Vl.nm u).enc) = (us.map Vl.nm).map Vl.enc := by rw [List.map_map]; rfl
          rw [e1] at d12
          have z := fin (.call x g (us.map Vl.nm) n) _ p q [.str "call", .str x, .str g, .ref t0, .int (n : Nat)] _ rfl (.call x g c us xm hmem hA (.inr hul)) (k10.trans k12.nil) (s10.kp k12) (.cons (.str _) (.cons (.str _) (.cons (.str _) (.cons d12 (.cons (.int _) .nil))))) hp hq
          unfold sText at z
          dsimp only at z
          rw [map_nm] at z
          exact z
    · walk_at "rd"
      refine ⟨rng_lo (c), rng_hi (n := c) (by omega), ?_⟩
      intro D hD
      have oD := s7.old hD
      have hDH := k7.fresh (by simpa using oD) hD
      refine lc_range (n := c) (lo := 0) (fun i H' => ∃ us : List Str, us.length = i ∧ (∀ x ∈ us, x ∈ A5) ∧ Kp [st] H H' ∧ StAt K H' st sc ∧ H' D = some (.lst (us.map V.str))) ⟨[], rfl, fun x m => absurd m List.not_mem_nil, k7.trans (Kp.new hD), s7.kp (Kp.new hD), upd_same⟩ ?_ ?_
      · rintro i H10 hi ⟨us, hl, hA, k10, s10, hD10⟩
        refine ⟨rfl, ?_⟩
        walk_at "rd"
        refine ⟨szl (Nat.le_of_ble_eq_true rfl), fun p11 hp11 => ?_⟩
        have k11 : Kp [st] H (upd H10 p11 (.lst [.str "p", .str "x", .str "g", .str "w", .str "x"])) := k10.trans (Kp.new hp11)
        have s11 : StAt K (upd H10 p11 (.lst [.str "p", .str "x", .str "g", .str "w", .str "x"])) st sc := s10.kp (Kp.new hp11)
        have l11 : (upd H10 p11 (.lst [.str "p", .str "x", .str "g", .str "w", .str "x"])) p11 = some (.lst (A5.map V.str)) := upd_same
        have hD11 : (upd H10 p11 (.lst [.str "p", .str "x", .str "g", .str "w", .str "x"])) D = some (.lst (us.map V.str)) := (upd_ne (ne_of_none hD10 hp11)).trans hD10
        have o11 : p11 ≠ st := s10.old hp11
        generalize upd H10 p11 (.lst [.str "p", .str "x", .str "g", .str "w", .str "x"]) = H11 at k11 s11 l11 hD11
        walk_at "rd"
        refine ⟨st, sc, 5, rfl, by decide, by decide, s11, fun t12 ht12 H12 r12 s12 => ?_⟩
        have k12 := k11.trans r12
        walk_at "rd"
        obtain ⟨y, y0, ym⟩ := pick_at A5 (t := t12) ht12
        have y1 : (A5.map V.str)[t12]? = some (.str y) := by rw [List.getElem?_map, y0]; rfl
        refine ⟨_, _, _, _, rfl, rfl, SqL.of (r12.keep _ _ (by simpa using o11) l11), atI_nat y1, ?_⟩
        walk_at "rd"
        refine ⟨_, r12.keep _ _ (by simpa using oD) hD11, by rw [List.length_map]; exact szt (by omega), us ++ [y], by rw [List.length_append, hl]; rfl, fun z m => ?_, k12.mine hDH, s0.mine hDH k12 s12, ?_⟩
        · rcases List.mem_append.mp m with m | m
          · exact hA z m
          · rw [List.mem_singleton.mp m]
            exact ym
        · rw [upd_same, List.map_append]
          rfl
      · rintro H10 ⟨us, hul, hA, k10, s10, hD10⟩
        have huA : ∀ u ∈ us, u.length ≤ 4 := fun u m => Wx.s5 (hA u m)
        have hul4 : us.length ≤ 4 := by omega
        have hjl := jlen (y := " , ") us huA
        have hjl2 : us.length * (4 + (" , " : Str).length) ≤ 4 * 7 := by rw [L9]; exact Nat.mul_le_mul hul4 (by omega)
        walk_at "st"
        refine ⟨_, _, us, rfl, rfl, .inl (SqL.of hD10), jok us huA (by omega) (by rw [L9]; omega) (by omega), ?_⟩
        walk_at "st"
        refine ⟨⟨_, SqL.of hD10⟩, ?_⟩
        intro D2 hD2
        refine lc_list (xs := us.map V.str) (fun i H' => ∃ vs, Kp [] H10 H' ∧ DpAll K H' vs ((us.take i).map fun u => (Vl.nm u).enc) ∧ vs.length = i ∧ H' D2 = some (.lst vs)) ⟨[], Kp.new hD2, .nil, rfl, upd_same⟩ ?_ ?_ ?_
        · rintro i H11 _ ⟨vs, k11, _⟩
          exact SqL.of (k11.keep _ _ (by simp) hD10)
        · rintro i x2 H11 hx2 ⟨vs, k11, d11, v11, hD11⟩
          have hi : i < us.length := by
            have z := (List.getElem?_eq_some_iff.mp hx2).1
            rw [List.length_map] at z
            exact z
          rw [List.getElem?_map, List.getElem?_eq_getElem hi] at hx2
          obtain rfl := Option.some.inj hx2
          refine ⟨rfl, ?_⟩
          walk_at "rd"
          refine ⟨szl (Nat.le_of_ble_eq_true rfl), fun p hp => ?_⟩
          have np : D2 ≠ p := ne_of_none hD11 hp
          have kp : Kp [] H11 (upd H11 p (.tup [.str "name", .str us[i]])) := Kp.new hp
          have k12 := (k11.trans kp).mine (o := .lst (vs ++ [.ref p])) hD2
          refine ⟨_, (upd_ne np).trans hD11, szt (by omega), _, k12, ?_, by rw [List.length_append, v11]; rfl, upd_same⟩
          rw [List.take_add_one, List.getElem?_eq_getElem hi, List.map_append]
          have kD : Kp [D2] (upd H11 p (.tup [.str "name", .str us[i]])) (upd (upd H11 p (.tup [.str "name", .str us[i]])) D2 (.lst (vs ++ [.ref p]))) := Kp.put ((upd_ne np).trans hD11) nt_lst (by simp)
          have nl0 : noLs ((us.take i).map fun u => (Vl.nm u).enc) = true := noLs_map (List.all_eq_true.mpr fun u _ => rfl)
          exact DpAll.snoc (Dp.kps kD _ _ nl0 (Dp.kps kp _ _ nl0 d11)) (Dp.kp kD _ _ rfl (Dp.new (ds := [.str "name", .str us[i]]) (by walk_at "dp") rfl hp))
        · rintro H11 ⟨vs, k11, d11, v11, hD11⟩
          rw [List.length_map, List.take_length] at d11
          walk_at "rd"
          refine ⟨_, _, rfl, .inl ⟨SqL.of hD11, fun t0 ht0 => ?_⟩⟩
          have nl0 : noLs (us.map fun u => (Vl.nm u).enc) = true := noLs_map (List.all_eq_true.mpr fun u _ => rfl)
          have k12 : Kp [] H10 (upd H11 t0 (.tup vs)) := k11.trans (Kp.new ht0)
          have d12 : Dp K (upd H11 t0 (.tup vs)) (.ref t0) (.tuple (us.map fun u => (Vl.nm u).enc)) := Dp.new d11 nl0 ht0
          walk_at "rd"
          refine ⟨szl (Nat.le_of_ble_eq_true rfl), fun p hp => ?_⟩
          walk_at "rd"
          refine ⟨szl (Nat.le_of_ble_eq_true rfl), fun q hq => ?_⟩
          have e1 : (us.map fun u => (Vl.nm u).enc) = (us.map Vl.nm).map Vl.enc := by rw [List.map_map]; rfl
          rw [e1] at d12
          have z := fin (.call x g (us.map Vl.nm) n) _ p q [.str "call", .str x, .str g, .ref t0, .int (n : Nat)] _ rfl (.call x g c us xm hmem hA (.inl hul)) (k10.trans k12.nil) (s10.kp k12) (.cons (.str _) (.cons (.str _) (.cons (.str _) (.cons d12 (.cons (.int _) .nil))))) hp hq
          unfold sText at z
          dsimp only at z
          rw [map_nm] at z
          exact z
end
end K7


set_option Elab.async false
set_option linter.all false
set_option maxRecDepth 100000
set_option maxHeartbeats 4000000
namespace K7
open PySem PySem.Spec PyProof.Rows L2 He Hz Cm Lx Px Gx Wx
local macro_rules | `(tactic| walk_at "rd") => `(tactic| repeat (first | (refine ⟨_, rfl, ?_⟩) | (refine ⟨_, _, rfl, rfl, ?_⟩) | (refine ⟨rfl, ?_⟩) | (refine ⟨szl (by omega), ?_⟩) | (refine ⟨_, _, _, _, _, rfl, (by assumption), (by assumption), (by assumption), (by rfl), ?_⟩) | (refine ⟨_, _, rfl, Or.inl (by assumption), ?_⟩)))
local macro_rules | `(tactic| walk_at "dp") => `(tactic| (repeat' (first | exact DpAll.nil | apply DpAll.cons | exact Dp.str _ | exact Dp.int _ | exact Dp.non | exact Dp.bl _ | assumption)))
section
variable {P : Program} {w : World} {K : PySem.W.Frag} {mg : Str → Option Value} {base : Heap} {H H1 H' : Hp} {Q : VK} {E : XK}
local macro_rules | `(tactic| walk_at "st") => `(tactic| repeat (first | (refine ⟨_, rfl, ?_⟩) | (refine ⟨_, _, rfl, rfl, ?_⟩) | (refine ⟨rfl, ?_⟩) | (refine ⟨szl (by omega), ?_⟩) | (refine ⟨szl (by simp only [PySem.Str.length_append]; omega), ?_⟩)))
theorem dp2s {us : List V} {a : Str} {d : PyData} (h : DpAll K H us [.str a, d]) : ∃ v, us = [.str a, v] ∧ Dp K H v d := by
  cases h with
  | cons h1 h2 =>
    obtain rfl := Dp.strOf h1
    cases h2 with
    | cons h3 h4 =>
      cases h4
      exact ⟨_, rfl, h3⟩
def spLFn : Sp := fun vs H Q _ => ∃ st sc hd hs name c, vs = [.ref st, .str name, .int (c : Nat), .ref hd] ∧ StAt K H st sc ∧ HdAt K H hd hs ∧ hd ≠ st ∧ OkHs hs ∧ (name, c) ∈ hs ∧ ∀ f : Fd, OkFd hs f → ∀ u H', Kp [st] H H' → StAt K H' st sc → Dp K H' u (.tuple [.str (fText f), f.enc]) → Q u H'
theorem ok_law_function (T : Tx P K mg) : OkF P w K mg base CX0 3 a__law_function ["state", "name", "count", "heads"] (spLFn (K := K)) := by
  have nd := sc__law_function.nd
  have F__law_draw := ok_law_draw (P := P) (w := w) (base := base) T
  have F__law_names := ok_law_names (P := P) (w := w) (base := base) T
  have F__law_statement := ok_law_statement (P := P) (w := w) (base := base) T
  refine T.f__law_function.ok (CX := CX0) sc__law_function (fun vs H Q E h => ?_) (fun cdv A outer s H vs Q E hr h => ?_)
  · obtain ⟨_, _, _, _, _, _, rfl, _⟩ := h
    rfl
  · obtain ⟨st, sc, hd, hs, name, c, rfl, hst, hh, hhd, hok, hmem, k⟩ := h
    have hgc := hok.2 _ hmem
    have hg4 : name.length ≤ 4 := sH hgc.1
    have hc3 : c ≤ 3 := hgc.2
    have k0 : Kp [st] H H := Kp.refl
    have s0 := hst
    refine ⟨_, PSs.nox (pss_cons (ps_set (i := 4) nd rfl (Or.inl rfl) (pe_slice sl_list (pe_lst (pa_cons pe_str (pa_cons pe_str (pa_cons pe_str pa_nil)))) po_none (po_some (pv 2))))
      (pss_cons (ps_if (PW.pt (pw_and (pt_cmpR op_gt (pv 2) pe_int (nomark _)) (pw_and1 (pt_cmpR op_eq (pe_call F__law_draw (hr.mono (by decide)) rfl T.g__law_draw T.k__law_draw T.b__law_draw .nil pass0 (pa_cons (pv 0) (pa_cons pe_int pa_nil))) pe_int (nomark _))))) (pss_one (ps_set (i := 4) nd rfl (Or.inl rfl) (pe_call F__law_names (hr.mono (by decide)) rfl T.g__law_names T.k__law_names T.b__law_names .nil pass0 (pa_cons (pv 0) (pa_cons (pv 2) pa_nil))))) pss_nil)
      (pss_cons (ps_set (i := 5) nd rfl (Or.inl rfl) (pe_lst pa_nil))
      (pss_cons (ps_set (i := 6) nd rfl (Or.inl rfl) (pe_lst pa_nil))
      (pss_cons (ps_for PassesOwn.never rfl (pi_range1 rfl T.n_range (pa_cons (pe_call F__law_draw (hr.mono (by decide)) rfl T.g__law_draw T.k__law_draw T.b__law_draw .nil pass0 (pa_cons (pv 0) (pa_cons pe_int pa_nil))) pa_nil)) (pg_name (i := 7) nd rfl (Or.inl rfl)) (pss_cons (ps_asg (pe_call F__law_statement (hr.mono (by decide)) rfl T.g__law_statement T.k__law_statement T.b__law_statement .nil pass0 (pa_cons (pv 0) (pa_cons (pv 3) (pa_cons (pv 7) pa_nil)))) (pg_tup rfl (pgs_cons (pg_name (i := 8) nd rfl (Or.inl rfl)) (pgs_cons (pg_name (i := 9) nd rfl (Or.inl rfl)) pgs_nil))))
      (pss_cons (ps_expr (pe_bm PySem.F.plainAttrs_list PySem.F.slot_list_append PySem.F.type_list_append mt_append (pv 5) (pa_cons (pv 8) pa_nil)))
      (pss_one (ps_expr (pe_bm PySem.F.plainAttrs_list PySem.F.slot_list_append PySem.F.type_list_append mt_append (pv 6) (pa_cons (pv 9) pa_nil)))))))
      (pss_cons (ps_set (i := 8) nd rfl (Or.inl rfl) (pe_op op_add_str (pe_op op_add_str (pe_op op_add_str (pe_op op_add_str (pe_op op_add_str (pe_op op_add_str pe_str (pv 1)) pe_str) (pe_bm PySem.F.plainAttrs_str PySem.F.slot_str_join PySem.F.type_str_join mt_join pe_str (pa_cons (pv 4) pa_nil))) pe_str) (pe_bm PySem.F.plainAttrs_str PySem.F.slot_str_join PySem.F.type_str_join mt_join pe_str (pa_cons (pv 5) pa_nil))) pe_str))
      (pss_one (ps_ret (pe_tup (pa_cons (pv 8) (pa_cons (pe_tup (pa_cons (pv 1) (pa_cons (pe_callTy call_tuple_of (by rfl) T.n_tuple (by decide +kernel) (pa_cons (pv 4) pa_nil)) (pa_cons (pe_callTy call_tuple_of (by rfl) T.n_tuple (by decide +kernel) (pa_cons (pv 6) pa_nil)) pa_nil)))) pa_nil))))))))))), ?_⟩
    walk_at "rd"
    refine ⟨szl (Nat.le_of_ble_eq_true rfl), fun p1 hp1 => ?_⟩
    have k1 : Kp [st] H (upd H p1 (.lst [.str "p", .str "q", .str "r"])) := k0.trans (Kp.new hp1)
    have s1 : StAt K (upd H p1 (.lst [.str "p", .str "q", .str "r"])) st sc := s0.kp (Kp.new hp1)
    have l1 : (upd H p1 (.lst [.str "p", .str "q", .str "r"])) p1 = some (.lst ((["p", "q", "r"] : List Str).map V.str)) := upd_same
    have o1 : p1 ≠ st := s0.old hp1
    generalize upd H p1 (.lst [.str "p", .str "q", .str "r"]) = H1 at k1 s1 l1
    walk_at "rd"
    obtain ⟨c1, c2⟩ := cut_pre (xs := (["p", "q", "r"] : List Str).map V.str) (i := c) hc3
    refine ⟨_, _, rfl, SqL.of l1, fun p2 hp2 => ?_⟩
    rw [c2]
    have k2 : Kp [st] H (upd H1 p2 (.lst (((["p", "q", "r"] : List Str).map V.str).take c))) := k1.trans (Kp.new hp2)
    have s2 := s1.kp (Kp.new (o := .lst (((["p", "q", "r"] : List Str).map V.str).take c)) hp2)
    have l2 : (upd H1 p2 (.lst (((["p", "q", "r"] : List Str).map V.str).take c))) p2 = some (.lst (((["p", "q", "r"] : List Str).take c).map V.str)) := by rw [upd_same, List.map_take]
    have o2 : p2 ≠ st := s1.old hp2
    generalize upd H1 p2 (.lst (((["p", "q", "r"] : List Str).map V.str).take c)) = H2 at k2 s2 l2
    have psl0 : (((["p", "q", "r"] : List Str).take c)).length = c := by rw [List.length_take]; exact Nat.min_eq_left hc3
    have psm0 : ∀ p ∈ ((["p", "q", "r"] : List Str).take c), p ∈ A6 := fun p m => by
      have z := List.mem_of_mem_take m
      have a : (["p", "q", "r"] : List Str).all (fun x => decide (x ∈ A6)) = true := by decide +kernel
      exact of_decide_eq_true (List.all_eq_true.mp a p z)
    generalize ((["p", "q", "r"] : List Str).take c) = ps0 at l2 psl0 psm0
    walk_at "rd"
    refine iteB (fun h => ?_) (fun h => ?_)
    · walk_at "rd"
      refine ⟨st, sc, 8, rfl, by decide, by decide, s2, fun t3 ht3 H3 r3 s3 => ?_⟩
      have k3 := k2.trans r3
      walk_at "rd"
      have l3 := r3.keep _ _ (by simpa using o2) l2
      refine iteB (fun h => ?_) (fun h => ?_)
      · walk_at "rd"
        refine ⟨st, sc, c, rfl, by omega, s3, fun ps psl psm lp H4 hlp r4 s4 lps => ?_⟩
        have k4 := k3.trans r4
        have olp : lp ≠ st := s3.old hlp
        walk_at "rd"
        refine ⟨Nat.zero_le _, fun pt hpt => ?_⟩
        have ot : pt ≠ st := s4.old hpt
        have otl : pt ≠ lp := fun z => by rw [z, lps] at hpt; cases hpt
        have htH := k4.fresh (by simpa using ot) hpt
        have ka : Kp [st] H (upd H4 pt (.lst [])) := k4.trans (Kp.new hpt)
        have sa := s4.kp (Kp.new (o := .lst []) hpt)
        have ta : (upd H4 pt (.lst [])) pt = some (.lst []) := upd_same
        have la : (upd H4 pt (.lst [])) lp = some (.lst (ps.map V.str)) := (upd_ne otl.symm).trans lps
        generalize upd H4 pt (.lst []) = Ha at ka sa ta la
        walk_at "rd"
        refine ⟨Nat.zero_le _, fun pr hpr => ?_⟩
        have or : pr ≠ st := sa.old hpr
        have orl : pr ≠ lp := fun z => by rw [z, la] at hpr; cases hpr
        have ort : pr ≠ pt := fun z => by rw [z, ta] at hpr; cases hpr
        have hrH := ka.fresh (by simpa using or) hpr
        have kb : Kp [st] H (upd Ha pr (.lst [])) := ka.trans (Kp.new hpr)
        have sb := sa.kp (Kp.new (o := .lst []) hpr)
        have tb : (upd Ha pr (.lst [])) pt = some (.lst []) := (upd_ne ort.symm).trans ta
        have rb : (upd Ha pr (.lst [])) pr = some (.lst []) := upd_same
        have lb : (upd Ha pr (.lst [])) lp = some (.lst (ps.map V.str)) := (upd_ne orl.symm).trans la
        generalize upd Ha pr (.lst []) = Hb at kb sb tb rb lb
        walk_at "rd"
        refine ⟨st, sc, 5, rfl, by decide, by decide, sb, fun tn htn Hc rc sc' => ?_⟩
        have kc := kb.trans rc
        have tc := rc.keep _ _ (by simpa using ot) tb
        have rc2 := rc.keep _ _ (by simpa using or) rb
        have lc := rc.keep _ _ (by simpa using olp) lb
        walk_at "rd"
        refine ⟨rng_lo _, rng_hi (by omega), ?_⟩
        refine for_range (n := tn) (lo := 0) (fun i σ H' => ∃ (body : List Sm) (rs : List V) (z1 z2 z3 : Option V), σ = [some (.ref st), some (.str name), some (.int (c : Nat)), some (.ref hd), some (.ref lp), some (.ref pt), some (.ref pr), z1, z2, z3] ∧ body.length = i ∧ (∀ (j : Nat) (h : j < body.length), OkS hs j body[j]) ∧ Kp [st] H H' ∧ StAt K H' st sc ∧ H' pt = some (.lst ((body.map sText).map V.str)) ∧ H' pr = some (.lst rs) ∧ DpAll K H' rs (encs body) ∧ H' lp = some (.lst (ps.map V.str))) ⟨[], [], _, _, _, rfl, rfl, fun j h => absurd h (Nat.not_lt_zero _), kc, sc', tc, rc2, .nil, lc⟩ ?_ ?_
        · rintro i σ H0 hi ⟨body, rs, z1, z2, z3, rfl, hbl, hb, k0, s0, t0, r0, d0, l0⟩
          have e0 : (0 : Int) + (i : Nat) = (i : Nat) := Int.zero_add _
          rw [e0]
          walk_at "rd"
          refine ⟨st, sc, hd, hs, i, rfl, s0, hh.kp k0 (by simpa using hhd), hhd, hok, fun s os u H1 k1 s1 d1 => ?_⟩
          have t1 := k1.keep _ _ (by simpa using ot) t0
          have r1 := k1.keep _ _ (by simpa using or) r0
          have l1 := k1.keep _ _ (by simpa using olp) l0
          have b1 := Dp.kps k1 _ _ (Sms.nl body) d0
          replace k1 := k0.trans k1
          obtain ⟨q, us, rfl, hsq, hall⟩ := Dp.tupOf d1
          obtain ⟨v, rfl, hv⟩ := dp2s hall
          refine ⟨_, _, rfl, hsq, rfl, ?_⟩
          refine ⟨_, _, rfl, _, _, rfl, rfl, ?_⟩
          walk_at "rd"
          refine ⟨.inl ⟨rfl, _, SqL.of t1⟩, ?_⟩
          walk_at "rd"
          refine ⟨_, _, _, rfl, rfl, t1, (by rw [List.length_map, List.length_map]; exact szt (by omega)), ?_⟩
          have r2 := (upd_ne (H := H1) (o := .lst ((body.map sText).map V.str ++ [.str (sText s)])) ort).trans r1
          walk_at "rd"
          refine ⟨.inl ⟨rfl, _, SqL.of r2⟩, ?_⟩
          walk_at "rd"
          have rl : rs.length = body.length := by rw [DpAll.length d0, encs_map, List.length_map]
          refine ⟨_, _, _, rfl, rfl, r2, szt (by omega), ?_⟩
          have k2 := (k1.mine (o := .lst ((body.map sText).map V.str ++ [.str (sText s)])) htH).mine (o := .lst (rs ++ [v])) hrH
          have s2 := hst.mine (o := .lst (rs ++ [v])) hrH (k1.mine htH) (hst.mine (o := .lst ((body.map sText).map V.str ++ [.str (sText s)])) htH k1 s1)
          have kq : Kp [pt, pr] H1 (upd (upd H1 pt (.lst ((body.map sText).map V.str ++ [.str (sText s)]))) pr (.lst (rs ++ [v]))) := (Kp.put t1 nt_lst (by simp)).trans (Kp.put r2 nt_lst (by simp))
          refine ⟨body ++ [s], rs ++ [v], _, _, _, rfl, by rw [List.length_append, hbl]; rfl, fun j h => ?_, k2, s2, ?_, upd_same, ?_, ?_⟩
          · rw [List.getElem_append]
            split
            · rename_i hj
              exact hb j hj
            · rename_i hj
              have e : j = i := by
                rw [List.length_append] at h
                have : [s].length = 1 := rfl
                omega
              subst e
              simp only [hbl, Nat.sub_self, List.getElem_singleton]
              exact os
          · rw [upd_ne ort.symm, upd_same, List.map_append, List.map_append]
            rfl
          · rw [sms_app]
            exact DpAll.snoc (Dp.kps kq _ _ (Sms.nl _) b1) (Dp.kp kq _ _ (Sm.nl s) hv)
          · rw [upd_ne orl.symm, upd_ne otl.symm]
            exact l1
        · rintro σ H0 ⟨body, rs, z1, z2, z3, rfl, hbl, hb, k0, s0, t0, r0, d0, l0⟩
          have hf : OkFd hs ⟨name, ps, body⟩ := ⟨⟨c, hmem, psl⟩, psm, by show body.length ≤ 4; omega, hb⟩
          have hfl := fText_le hok hf
          have hpA : ∀ u ∈ ps, u.length ≤ 4 := fun u m => Wx.s6 (psm u m)
          have hbA : ∀ u ∈ body.map sText, u.length ≤ 200 := fun u m => by
            obtain ⟨s, hs', rfl⟩ := List.mem_map.mp m
            obtain ⟨j, hj, rfl⟩ := List.getElem_of_mem hs'
            exact sText_le hok (hb j hj)
          have hfe : fText ⟨name, ps, body⟩ = "fn " ++ name ++ " ( " ++ Txt.join " , " ps ++ " ) { " ++ Txt.join " " (body.map sText) ++ " }" := rfl
          have hfl2 := hfl
          rw [hfe] at hfl2
          simp only [PySem.Str.length_append] at hfl2
          walk_at "st"
          refine ⟨_, _, ps, rfl, rfl, .inl (SqL.of l0), jok ps hpA (by omega) (by decide +kernel) (by omega), ?_⟩
          walk_at "st"
          refine ⟨_, _, body.map sText, rfl, rfl, .inl (SqL.of t0), jok _ hbA (by omega) (by decide +kernel) (by rw [List.length_map]; omega), ?_⟩
          walk_at "st"
          refine ⟨_, _, rfl, .inl ⟨SqL.of l0, fun q1 hq1 => ?_⟩⟩
          have k1 : Kp [] H0 (upd H0 q1 (.tup (ps.map V.str))) := Kp.new hq1
          have d1 : Dp K (upd H0 q1 (.tup (ps.map V.str))) (.ref q1) (.tuple (ps.map .str)) := Dp.new (dp_strs ps) (strs_nl ps) hq1
          have r1 := k1.keep _ _ (by simp) r0
          have b1 := Dp.kps k1 _ _ (Sms.nl body) d0
          generalize upd H0 q1 (.tup (ps.map V.str)) = H1 at k1 d1 r1 b1
          walk_at "rd"
          refine ⟨_, _, rfl, .inl ⟨SqL.of r1, fun q2 hq2 => ?_⟩⟩
          have k2 : Kp [] H0 (upd H1 q2 (.tup rs)) := k1.trans (Kp.new hq2)
          have d2 : Dp K (upd H1 q2 (.tup rs)) (.ref q2) (.tuple (encs body)) := Dp.new b1 (Sms.nl body) hq2
          have d12 := Dp.kp (Kp.new (M := []) (o := .tup rs) hq2) (.tuple (ps.map .str)) _ (strs_nl ps) d1
          generalize upd H1 q2 (.tup rs) = H2 at k2 d2 d12
          walk_at "rd"
          refine ⟨szl (Nat.le_of_ble_eq_true rfl), fun q3 hq3 => ?_⟩
          have k3 : Kp [] H0 (upd H2 q3 (.tup [.str name, .ref q1, .ref q2])) := k2.trans (Kp.new hq3)
          have d3 : Dp K (upd H2 q3 (.tup [.str name, .ref q1, .ref q2])) (.ref q3) (Fd.enc ⟨name, ps, body⟩) := Dp.new (.cons (.str _) (.cons d12 (.cons d2 .nil))) (Fd.nl ⟨name, ps, body⟩) hq3
          generalize upd H2 q3 (.tup [.str name, .ref q1, .ref q2]) = H3 at k3 d3
          walk_at "rd"
          refine ⟨szl (Nat.le_of_ble_eq_true rfl), fun q4 hq4 => ?_⟩
          have k4 := k3.trans (Kp.new (o := .tup [.str (fText ⟨name, ps, body⟩), .ref q3]) hq4)
          have nl : noLs [.str (fText ⟨name, ps, body⟩), Fd.enc ⟨name, ps, body⟩] = true := by
            show (true && (noL (Fd.enc ⟨name, ps, body⟩) && true)) = true
            rw [Fd.nl]
            rfl
          exact k _ hf _ _ (k0.trans k4.nil) (s0.kp k4) (Dp.new (.cons (.str _) (.cons d3 .nil)) nl hq4)
      · obtain ⟨lp, hlpe⟩ : ∃ lp, lp = p2 := ⟨_, rfl⟩
        obtain ⟨ps, hpse⟩ : ∃ ps, ps = ps0 := ⟨_, rfl⟩
        rw [← hlpe] at l3 o2 ⊢
        rw [← hpse] at l3 psl0 psm0
        have olp := o2
        have lps := l3
        have psl := psl0
        have psm := psm0
        walk_at "rd"
        refine ⟨Nat.zero_le _, fun pt hpt => ?_⟩
        have ot : pt ≠ st := s3.old hpt
        have otl : pt ≠ lp := fun z => by rw [z, lps] at hpt; cases hpt
        have htH := k3.fresh (by simpa using ot) hpt
        have ka : Kp [st] H (upd H3 pt (.lst [])) := k3.trans (Kp.new hpt)
        have sa := s3.kp (Kp.new (o := .lst []) hpt)
        have ta : (upd H3 pt (.lst [])) pt = some (.lst []) := upd_same
        have la : (upd H3 pt (.lst [])) lp = some (.lst (ps.map V.str)) := (upd_ne otl.symm).trans lps
        generalize upd H3 pt (.lst []) = Ha at ka sa ta la
        walk_at "rd"
        refine ⟨Nat.zero_le _, fun pr hpr => ?_⟩
        have or : pr ≠ st := sa.old hpr
        have orl : pr ≠ lp := fun z => by rw [z, la] at hpr; cases hpr
        have ort : pr ≠ pt := fun z => by rw [z, ta] at hpr; cases hpr
        have hrH := ka.fresh (by simpa using or) hpr
        have kb : Kp [st] H (upd Ha pr (.lst [])) := ka.trans (Kp.new hpr)
        have sb := sa.kp (Kp.new (o := .lst []) hpr)
        have tb : (upd Ha pr (.lst [])) pt = some (.lst []) := (upd_ne ort.symm).trans ta
        have rb : (upd Ha pr (.lst [])) pr = some (.lst []) := upd_same
        have lb : (upd Ha pr (.lst [])) lp = some (.lst (ps.map V.str)) := (upd_ne orl.symm).trans la
        generalize upd Ha pr (.lst []) = Hb at kb sb tb rb lb
        walk_at "rd"
        refine ⟨st, sc, 5, rfl, by decide, by decide, sb, fun tn htn Hc rc sc' => ?_⟩
        have kc := kb.trans rc
        have tc := rc.keep _ _ (by simpa using ot) tb
        have rc2 := rc.keep _ _ (by simpa using or) rb
        have lc := rc.keep _ _ (by simpa using olp) lb
        walk_at "rd"
        refine ⟨rng_lo _, rng_hi (by omega), ?_⟩
        refine for_range (n := tn) (lo := 0) (fun i σ H' => ∃ (body : List Sm) (rs : List V) (z1 z2 z3 : Option V), σ = [some (.ref st), some (.str name), some (.int (c : Nat)), some (.ref hd), some (.ref lp), some (.ref pt), some (.ref pr), z1, z2, z3] ∧ body.length = i ∧ (∀ (j : Nat) (h : j < body.length), OkS hs j body[j]) ∧ Kp [st] H H' ∧ StAt K H' st sc ∧ H' pt = some (.lst ((body.map sText).map V.str)) ∧ H' pr = some (.lst rs) ∧ DpAll K H' rs (encs body) ∧ H' lp = some (.lst (ps.map V.str))) ⟨[], [], _, _, _, rfl, rfl, fun j h => absurd h (Nat.not_lt_zero _), kc, sc', tc, rc2, .nil, lc⟩ ?_ ?_
        · rintro i σ H0 hi ⟨body, rs, z1, z2, z3, rfl, hbl, hb, k0, s0, t0, r0, d0, l0⟩
          have e0 : (0 : Int) + (i : Nat) = (i : Nat) := Int.zero_add _
          rw [e0]
          walk_at "rd"
          refine ⟨st, sc, hd, hs, i, rfl, s0, hh.kp k0 (by simpa using hhd), hhd, hok, fun s os u H1 k1 s1 d1 => ?_⟩
          have t1 := k1.keep _ _ (by simpa using ot) t0
          have r1 := k1.keep _ _ (by simpa using or) r0
          have l1 := k1.keep _ _ (by simpa using olp) l0
          have b1 := Dp.kps k1 _ _ (Sms.nl body) d0
          replace k1 := k0.trans k1
          obtain ⟨q, us, rfl, hsq, hall⟩ := Dp.tupOf d1
          obtain ⟨v, rfl, hv⟩ := dp2s hall
          refine ⟨_, _, rfl, hsq, rfl, ?_⟩
          refine ⟨_, _, rfl, _, _, rfl, rfl, ?_⟩
          walk_at "rd"
          refine ⟨.inl ⟨rfl, _, SqL.of t1⟩, ?_⟩
          walk_at "rd"
          refine ⟨_, _, _, rfl, rfl, t1, (by rw [List.length_map, List.length_map]; exact szt (by omega)), ?_⟩
          have r2 := (upd_ne (H := H1) (o := .lst ((body.map sText).map V.str ++ [.str (sText s)])) ort).trans r1
          walk_at "rd"
          refine ⟨.inl ⟨rfl, _, SqL.of r2⟩, ?_⟩
          walk_at "rd"
          have rl : rs.length = body.length := by rw [DpAll.length d0, encs_map, List.length_map]
          refine ⟨_, _, _, rfl, rfl, r2, szt (by omega), ?_⟩
          have k2 := (k1.mine (o := .lst ((body.map sText).map V.str ++ [.str (sText s)])) htH).mine (o := .lst (rs ++ [v])) hrH
          have s2 := hst.mine (o := .lst (rs ++ [v])) hrH (k1.mine htH) (hst.mine (o := .lst ((body.map sText).map V.str ++ [.str (sText s)])) htH k1 s1)
          have kq : Kp [pt, pr] H1 (upd (upd H1 pt (.lst ((body.map sText).map V.str ++ [.str (sText s)]))) pr (.lst (rs ++ [v]))) := (Kp.put t1 nt_lst (by simp)).trans (Kp.put r2 nt_lst (by simp))
          refine ⟨body ++ [s], rs ++ [v], _, _, _, rfl, by rw [List.length_append, hbl]; rfl, fun j h => ?_, k2, s2, ?_, upd_same, ?_, ?_⟩
          · rw [List.getElem_append]
            split
            · rename_i hj
              exact hb j hj
            · rename_i hj
              have e : j = i := by
                rw [List.length_append] at h
                have : [s].length = 1 := rfl
                omega
              subst e
              simp only [hbl, Nat.sub_self, List.getElem_singleton]
              exact os
          · rw [upd_ne ort.symm, upd_same, List.map_append, List.map_append]
            rfl
          · rw [sms_app]
            exact DpAll.snoc (Dp.kps kq _ _ (Sms.nl _) b1) (Dp.kp kq _ _ (Sm.nl s) hv)
          · rw [upd_ne orl.symm, upd_ne otl.symm]
            exact l1
        · rintro σ H0 ⟨body, rs, z1, z2, z3, rfl, hbl, hb, k0, s0, t0, r0, d0, l0⟩
          have hf : OkFd hs ⟨name, ps, body⟩ := ⟨⟨c, hmem, psl⟩, psm, by show body.length ≤ 4; omega, hb⟩
          have hfl := fText_le hok hf
          have hpA : ∀ u ∈ ps, u.length ≤ 4 := fun u m => Wx.s6 (psm u m)
          have hbA : ∀ u ∈ body.map sText, u.length ≤ 200 := fun u m => by
            obtain ⟨s, hs', rfl⟩ := List.mem_map.mp m
            obtain ⟨j, hj, rfl⟩ := List.getElem_of_mem hs'
            exact sText_le hok (hb j hj)
          have hfe : fText ⟨name, ps, body⟩ = "fn " ++ name ++ " ( " ++ Txt.join " , " ps ++ " ) { " ++ Txt.join " " (body.map sText) ++ " }" := rfl
          have hfl2 := hfl
          rw [hfe] at hfl2
          simp only [PySem.Str.length_append] at hfl2
          walk_at "st"
          refine ⟨_, _, ps, rfl, rfl, .inl (SqL.of l0), jok ps hpA (by omega) (by decide +kernel) (by omega), ?_⟩
          walk_at "st"
          refine ⟨_, _, body.map sText, rfl, rfl, .inl (SqL.of t0), jok _ hbA (by omega) (by decide +kernel) (by rw [List.length_map]; omega), ?_⟩
          walk_at "st"
          refine ⟨_, _, rfl, .inl ⟨SqL.of l0, fun q1 hq1 => ?_⟩⟩
          have k1 : Kp [] H0 (upd H0 q1 (.tup (ps.map V.str))) := Kp.new hq1
          have d1 : Dp K (upd H0 q1 (.tup (ps.map V.str))) (.ref q1) (.tuple (ps.map .str)) := Dp.new (dp_strs ps) (strs_nl ps) hq1
          have r1 := k1.keep _ _ (by simp) r0
          have b1 := Dp.kps k1 _ _ (Sms.nl body) d0
          generalize upd H0 q1 (.tup (ps.map V.str)) = H1 at k1 d1 r1 b1
          walk_at "rd"
          refine ⟨_, _, rfl, .inl ⟨SqL.of r1, fun q2 hq2 => ?_⟩⟩
          have k2 : Kp [] H0 (upd H1 q2 (.tup rs)) := k1.trans (Kp.new hq2)
          have d2 : Dp K (upd H1 q2 (.tup rs)) (.ref q2) (.tuple (encs body)) := Dp.new b1 (Sms.nl body) hq2
          have d12 := Dp.kp (Kp.new (M := []) (o := .tup rs) hq2) (.tuple (ps.map .str)) _ (strs_nl ps) d1
          generalize upd H1 q2 (.tup rs) = H2 at k2 d2 d12
          walk_at "rd"
          refine ⟨szl (Nat.le_of_ble_eq_true rfl), fun q3 hq3 => ?_⟩
          have k3 : Kp [] H0 (upd H2 q3 (.tup [.str name, .ref q1, .ref q2])) := k2.trans (Kp.new hq3)
          have d3 : Dp K (upd H2 q3 (.tup [.str name, .ref q1, .ref q2])) (.ref q3) (Fd.enc ⟨name, ps, body⟩) := Dp.new (.cons (.str _) (.cons d12 (.cons d2 .nil))) (Fd.nl ⟨name, ps, body⟩) hq3
          generalize upd H2 q3 (.tup [.str name, .ref q1, .ref q2]) = H3 at k3 d3
          walk_at "rd"
          refine ⟨szl (Nat.le_of_ble_eq_true rfl), fun q4 hq4 => ?_⟩
          have k4 := k3.trans (Kp.new (o := .tup [.str (fText ⟨name, ps, body⟩), .ref q3]) hq4)
          have nl : noLs [.str (fText ⟨name, ps, body⟩), Fd.enc ⟨name, ps, body⟩] = true := by
            show (true && (noL (Fd.enc ⟨name, ps, body⟩) && true)) = true
            rw [Fd.nl]
            rfl
          exact k _ hf _ _ (k0.trans k4.nil) (s0.kp k4) (Dp.new (.cons (.str _) (.cons d3 .nil)) nl hq4)
    · obtain ⟨lp, hlpe⟩ : ∃ lp, lp = p2 := ⟨_, rfl⟩
      obtain ⟨ps, hpse⟩ : ∃ ps, ps = ps0 := ⟨_, rfl⟩
      rw [← hlpe] at l2 o2 ⊢
      rw [← hpse] at l2 psl0 psm0
      have olp := o2
      have lps := l2
      have psl := psl0
      have psm := psm0
      walk_at "rd"
      refine ⟨Nat.zero_le _, fun pt hpt => ?_⟩
      have ot : pt ≠ st := s2.old hpt
      have otl : pt ≠ lp := fun z => by rw [z, lps] at hpt; cases hpt
      have htH := k2.fresh (by simpa using ot) hpt
      have ka : Kp [st] H (upd H2 pt (.lst [])) := k2.trans (Kp.new hpt)
      have sa := s2.kp (Kp.new (o := .lst []) hpt)
      have ta : (upd H2 pt (.lst [])) pt = some (.lst []) := upd_same
      have la : (upd H2 pt (.lst [])) lp = some (.lst (ps.map V.str)) := (upd_ne otl.symm).trans lps
      generalize upd H2 pt (.lst []) = Ha at ka sa ta la
      walk_at "rd"
      refine ⟨Nat.zero_le _, fun pr hpr => ?_⟩
      have or : pr ≠ st := sa.old hpr
      have orl : pr ≠ lp := fun z => by rw [z, la] at hpr; cases hpr
      have ort : pr ≠ pt := fun z => by rw [z, ta] at hpr; cases hpr
      have hrH := ka.fresh (by simpa using or) hpr
      have kb : Kp [st] H (upd Ha pr (.lst [])) := ka.trans (Kp.new hpr)
      have sb := sa.kp (Kp.new (o := .lst []) hpr)
      have tb : (upd Ha pr (.lst [])) pt = some (.lst []) := (upd_ne ort.symm).trans ta
      have rb : (upd Ha pr (.lst [])) pr = some (.lst []) := upd_same
      have lb : (upd Ha pr (.lst [])) lp = some (.lst (ps.map V.str)) := (upd_ne orl.symm).trans la
      generalize upd Ha pr (.lst []) = Hb at kb sb tb rb lb
      walk_at "rd"
      refine ⟨st, sc, 5, rfl, by decide, by decide, sb, fun tn htn Hc rc sc' => ?_⟩
      have kc := kb.trans rc
      have tc := rc.keep _ _ (by simpa using ot) tb
      have rc2 := rc.keep _ _ (by simpa using or) rb
      have lc := rc.keep _ _ (by simpa using olp) lb
      walk_at "rd"
      refine ⟨rng_lo _, rng_hi (by omega), ?_⟩
      refine for_range (n := tn) (lo := 0) (fun i σ H' => ∃ (body : List Sm) (rs : List V) (z1 z2 z3 : Option V), σ = [some (.ref st), some (.str name), some (.int (c : Nat)), some (.ref hd), some (.ref lp), some (.ref pt), some (.ref pr), z1, z2, z3] ∧ body.length = i ∧ (∀ (j : Nat) (h : j < body.length), OkS hs j body[j]) ∧ Kp [st] H H' ∧ StAt K H' st sc ∧ H' pt = some (.lst ((body.map sText).map V.str)) ∧ H' pr = some (.lst rs) ∧ DpAll K H' rs (encs body) ∧ H' lp = some (.lst (ps.map V.str))) ⟨[], [], _, _, _, rfl, rfl, fun j h => absurd h (Nat.not_lt_zero _), kc, sc', tc, rc2, .nil, lc⟩ ?_ ?_
      · rintro i σ H0 hi ⟨body, rs, z1, z2, z3, rfl, hbl, hb, k0, s0, t0, r0, d0, l0⟩
        have e0 : (0 : Int) + (i : Nat) = (i : Nat) := Int.zero_add _
        rw [e0]
        walk_at "rd"
        refine ⟨st, sc, hd, hs, i, rfl, s0, hh.kp k0 (by simpa using hhd), hhd, hok, fun s os u H1 k1 s1 d1 => ?_⟩
        have t1 := k1.keep _ _ (by simpa using ot) t0
        have r1 := k1.keep _ _ (by simpa using or) r0
        have l1 := k1.keep _ _ (by simpa using olp) l0
        have b1 := Dp.kps k1 _ _ (Sms.nl body) d0
        replace k1 := k0.trans k1
        obtain ⟨q, us, rfl, hsq, hall⟩ := Dp.tupOf d1
        obtain ⟨v, rfl, hv⟩ := dp2s hall
        refine ⟨_, _, rfl, hsq, rfl, ?_⟩
        refine ⟨_, _, rfl, _, _, rfl, rfl, ?_⟩
        walk_at "rd"
        refine ⟨.inl ⟨rfl, _, SqL.of t1⟩, ?_⟩
        walk_at "rd"
        refine ⟨_, _, _, rfl, rfl, t1, (by rw [List.length_map, List.length_map]; exact szt (by omega)), ?_⟩
        have r2 := (upd_ne (H := H1) (o := .lst ((body.map sText).map V.str ++ [.str (sText s)])) ort).trans r1
        walk_at "rd"
        refine ⟨.inl ⟨rfl, _, SqL.of r2⟩, ?_⟩
        walk_at "rd"
        have rl : rs.length = body.length := by rw [DpAll.length d0, encs_map, List.length_map]
        refine ⟨_, _, _, rfl, rfl, r2, szt (by omega), ?_⟩
        have k2 := (k1.mine (o := .lst ((body.map sText).map V.str ++ [.str (sText s)])) htH).mine (o := .lst (rs ++ [v])) hrH
        have s2 := hst.mine (o := .lst (rs ++ [v])) hrH (k1.mine htH) (hst.mine (o := .lst ((body.map sText).map V.str ++ [.str (sText s)])) htH k1 s1)
        have kq : Kp [pt, pr] H1 (upd (upd H1 pt (.lst ((body.map sText).map V.str ++ [.str (sText s)]))) pr (.lst (rs ++ [v]))) := (Kp.put t1 nt_lst (by simp)).trans (Kp.put r2 nt_lst (by simp))
        refine ⟨body ++ [s], rs ++ [v], _, _, _, rfl, by rw [List.length_append, hbl]; rfl, fun j h => ?_, k2, s2, ?_, upd_same, ?_, ?_⟩
        · rw [List.getElem_append]
          split
          · rename_i hj
            exact hb j hj
          · rename_i hj
            have e : j = i := by
              rw [List.length_append] at h
              have : [s].length = 1 := rfl
              omega
            subst e
            simp only [hbl, Nat.sub_self, List.getElem_singleton]
            exact os
        · rw [upd_ne ort.symm, upd_same, List.map_append, List.map_append]
          rfl
        · rw [sms_app]
          exact DpAll.snoc (Dp.kps kq _ _ (Sms.nl _) b1) (Dp.kp kq _ _ (Sm.nl s) hv)
        · rw [upd_ne orl.symm, upd_ne otl.symm]
          exact l1
      · rintro σ H0 ⟨body, rs, z1, z2, z3, rfl, hbl, hb, k0, s0, t0, r0, d0, l0⟩
        have hf : OkFd hs ⟨name, ps, body⟩ := ⟨⟨c, hmem, psl⟩, psm, by show body.length ≤ 4; omega, hb⟩
        have hfl := fText_le hok hf
        have hpA : ∀ u ∈ ps, u.length ≤ 4 := fun u m => Wx.s6 (psm u m)
        have hbA : ∀ u ∈ body.map sText, u.length ≤ 200 := fun u m => by
          obtain ⟨s, hs', rfl⟩ := List.mem_map.mp m
          obtain ⟨j, hj, rfl⟩ := List.getElem_of_mem hs'
          exact sText_le hok (hb j hj)
        have hfe : fText ⟨name, ps, body⟩ = "fn " ++ name ++ " ( " ++ Txt.join " , " ps ++ " ) { " ++ Txt.join " " (body.map sText) ++ " }" := rfl
        have hfl2 := hfl
        rw [hfe] at hfl2
        simp only [PySem.Str.length_append] at hfl2
        walk_at "st"
        refine ⟨_, _, ps, rfl, rfl, .inl (SqL.of l0), jok ps hpA (by omega) (by decide +kernel) (by omega), ?_⟩
        walk_at "st"
        refine ⟨_, _, body.map sText, rfl, rfl, .inl (SqL.of t0), jok _ hbA (by omega) (by decide +kernel) (by rw [List.length_map]; omega), ?_⟩
        walk_at "st"
        refine ⟨_, _, rfl, .inl ⟨SqL.of l0, fun q1 hq1 => ?_⟩⟩
        have k1 : Kp [] H0 (upd H0 q1 (.tup (ps.map V.str))) := Kp.new hq1
        have d1 : Dp K (upd H0 q1 (.tup (ps.map V.str))) (.ref q1) (.tuple (ps.map .str)) := Dp.new (dp_strs ps) (strs_nl ps) hq1
        have r1 := k1.keep _ _ (by simp) r0
        have b1 := Dp.kps k1 _ _ (Sms.nl body) d0
        generalize upd H0 q1 (.tup (ps.map V.str)) = H1 at k1 d1 r1 b1
        walk_at "rd"
        refine ⟨_, _, rfl, .inl ⟨SqL.of r1, fun q2 hq2 => ?_⟩⟩
        have k2 : Kp [] H0 (upd H1 q2 (.tup rs)) := k1.trans (Kp.new hq2)
        have d2 : Dp K (upd H1 q2 (.tup rs)) (.ref q2) (.tuple (encs body)) := Dp.new b1 (Sms.nl body) hq2
        have d12 := Dp.kp (Kp.new (M := []) (o := .tup rs) hq2) (.tuple (ps.map .str)) _ (strs_nl ps) d1
        generalize upd H1 q2 (.tup rs) = H2 at k2 d2 d12
        walk_at "rd"
        refine ⟨szl (Nat.le_of_ble_eq_true rfl), fun q3 hq3 => ?_⟩
        have k3 : Kp [] H0 (upd H2 q3 (.tup [.str name, .ref q1, .ref q2])) := k2.trans (Kp.new hq3)
        have d3 : Dp K (upd H2 q3 (.tup [.str name, .ref q1, .ref q2])) (.ref q3) (Fd.enc ⟨name, ps, body⟩) := Dp.new (.cons (.str _) (.cons d12 (.cons d2 .nil))) (Fd.nl ⟨name, ps, body⟩) hq3
        generalize upd H2 q3 (.tup [.str name, .ref q1, .ref q2]) = H3 at k3 d3
        walk_at "rd"
        refine ⟨szl (Nat.le_of_ble_eq_true rfl), fun q4 hq4 => ?_⟩
        have k4 := k3.trans (Kp.new (o := .tup [.str (fText ⟨name, ps, body⟩), .ref q3]) hq4)
        have nl : noLs [.str (fText ⟨name, ps, body⟩), Fd.enc ⟨name, ps, body⟩] = true := by
          show (true && (noL (Fd.enc ⟨name, ps, body⟩) && true)) = true
          rw [Fd.nl]
          rfl
        exact k _ hf _ _ (k0.trans k4.nil) (s0.kp k4) (Dp.new (.cons (.str _) (.cons d3 .nil)) nl hq4)
end
end K7


set_option Elab.async false
set_option linter.all false
set_option maxRecDepth 100000
set_option maxHeartbeats 4000000
namespace K7
open PySem PySem.Spec PyProof.Rows L2 He Hz Cm Lx Px Gx Wx
local macro_rules | `(tactic| walk_at "rd") => `(tactic| repeat (first | (refine ⟨_, rfl, ?_⟩) | (refine ⟨_, _, rfl, rfl, ?_⟩) | (refine ⟨rfl, ?_⟩) | (refine ⟨szl (by omega), ?_⟩) | (refine ⟨_, _, _, _, _, rfl, (by assumption), (by assumption), (by assumption), (by rfl), ?_⟩) | (refine ⟨_, _, rfl, Or.inl (by assumption), ?_⟩)))
local macro_rules | `(tactic| walk_at "dp") => `(tactic| (repeat' (first | exact DpAll.nil | apply DpAll.cons | exact Dp.str _ | exact Dp.int _ | exact Dp.non | exact Dp.bl _ | assumption)))
section
variable {P : Program} {w : World} {K : PySem.W.Frag} {mg : Str → Option Value} {base : Heap} {H H1 H' : Hp} {Q : VK} {E : XK}
def encS : Option Str → PyData
  | none => .none
  | some x => .str x
def spTwice : Sp := fun vs H Q _ => ∃ q l, vs = [.ref q] ∧ SqT K H q ((l : List Str).map V.str) ∧ l.length ≤ 1000 ∧ ∀ u H', Kp [] H H' → Dp K H' u (encS (dup [] l)) → Q u H'
theorem ok_law_first_twice (T : Tx P K mg) : OkF P w K mg base CX0 1 a__law_first_twice ["names"] (spTwice (K := K)) := by
  have nd := sc__law_first_twice.nd
  refine T.f__law_first_twice.ok (CX := CX0) sc__law_first_twice (fun vs H Q E h => ?_) (fun cdv A outer s H vs Q E hr h => ?_)
  · obtain ⟨_, _, rfl, _⟩ := h
    rfl
  · obtain ⟨q, l, rfl, hsq, hl, k⟩ := h
    refine ⟨_, PSs.nox (pss_cons (ps_for PassesOwn.never rfl (pi_range1 rfl T.n_range (pa_cons (pe_callB call_len_seq (by rfl) T.n_len PySem.boot_len (pa_cons (pv 0) pa_nil)) pa_nil)) (pg_name (i := 1) nd rfl (Or.inl rfl)) (pss_one (ps_if (pt_cmpR op_in_seq (pe_ix ix_tup (pv 0) (pv 1) (fun _ _ => rfl)) (pe_slice sl_tupA (pv 0) po_none (po_some (pv 1))) (by with_unfolding_all rfl)) (pss_one (ps_ret (pe_ix ix_tup (pv 0) (pv 1) (fun _ _ => rfl)))) pss_nil)))
      (pss_one (ps_ret pe_non))), ?_⟩
    walk_at "rd"
    refine ⟨_, _, rfl, .inr hsq, ?_⟩
    walk_at "rd"
    rw [List.length_map]
    refine ⟨rng_lo _, rng_hi (by omega), for_range (n := l.length) (lo := 0) (fun i σ H' => ∃ z1, σ = [some (.ref q), z1] ∧ Kp [] H H' ∧ dup (l.take i) (l.drop i) = dup [] l) ⟨_, rfl, Kp.refl, rfl⟩ ?_ ?_⟩
    · rintro i σ H' hi ⟨z1, rfl, k1, hdup⟩
      have hxi : (l.map V.str)[i]? = some (.str l[i]) := by rw [List.getElem?_map, List.getElem?_eq_getElem hi]; rfl
      rw [dup_step hi] at hdup
      have e0 : (0 : Int) + (i : Nat) = (i : Nat) := Int.zero_add _
      rw [e0]
      walk_at "rd"
      refine ⟨_, _, _, _, rfl, rfl, k1.sqt hsq, atI_nat hxi, ?_⟩
      walk_at "rd"
      obtain ⟨c1, c2⟩ := cut_pre (xs := l.map V.str) (i := i) (by rw [List.length_map]; omega)
      refine ⟨_, _, rfl, k1.sqt hsq, fun z => absurd z.2 (by rw [c1, List.length_map]; omega), fun _ p hp => ?_⟩
      rw [c2, ← List.map_take]
      have k2 : Kp [] H (upd H' p (.tup ((l.take i).map V.str))) := k1.trans (Kp.new hp)
      refine ⟨_, _, rfl, .inr (SqT.of upd_same), rfl, flat_strs _, ?_⟩
      walk_at "rd"
      refine iteB (fun h => ?_) (fun h => ?_)
      · rw [if_pos (in_of h)] at hdup
        rw [← hdup] at k
        walk_at "rd"
        refine ⟨_, _, _, _, rfl, rfl, k2.sqt hsq, atI_nat hxi, ?_⟩
        exact k _ _ k2 (.str _)
      · rw [if_neg (notin_of h)] at hdup
        exact ⟨_, rfl, k2, hdup⟩
    · rintro σ H1 ⟨z1, rfl, k1, hdup⟩
      rw [List.take_length, List.drop_length] at hdup
      rw [← hdup, show dup l [] = none from rfl] at k
      exact k _ _ k1 .non
def spRow : Sp := fun vs H Q _ => ∃ u s kl known cd kvs fs, vs = [u, .ref kl, .ref cd] ∧ Dp K H u (Sm.enc s) ∧ OkR s ∧ H kl = some (.lst ((known : List Str).map V.str)) ∧ H cd = some (.dK kvs) ∧ (∀ n, valV kvs (.inr n) = (fnOf fs n).map fun f => V.int (f.ps.length : Nat)) ∧ ∀ u H', Kp [] H H' → Dp K H' u (encO (lckS fs known s)) → Q u H'
theorem ok_law_row_fault (T : Tx P K mg) : OkF P w K mg base CX0 1 a__law_row_fault ["row", "known", "counts"] (spRow (K := K)) := by
  have nd := sc__law_row_fault.nd
  refine T.f__law_row_fault.ok (CX := CX0) sc__law_row_fault (fun vs H Q E h => ?_) (fun cdv A outer s H vs Q E hr h => ?_)
  · obtain ⟨_, _, _, _, _, _, _, rfl, _⟩ := h
    rfl
  · obtain ⟨u, s, kl, known, cd, kvs, fs, rfl, hd, hok, hkn, hcd, hct, k⟩ := h
    refine ⟨_, PSs.nox (pss_cons (ps_set (i := 3) nd rfl (Or.inl rfl) (pe_lst pa_nil))
      (pss_cons (ps_if (pt_cmpR op_eq (pe_ix ix_tup (pv 0) pe_int (fun _ _ => rfl)) pe_str (nomark _)) (pss_one (ps_set (i := 3) nd rfl (Or.inl rfl) (pe_lst (pa_cons (pe_ix ix_tup (pe_ix ix_tup (pv 0) pe_int (fun _ _ => rfl)) pe_int (fun _ _ => rfl)) pa_nil)))) pss_nil)
      (pss_cons (ps_if (pt_cmpR op_eq (pe_ix ix_tup (pv 0) pe_int (fun _ _ => rfl)) pe_str (nomark _)) (pss_one (ps_set (i := 3) nd rfl (Or.inl rfl) (pe_lst (pa_cons (pe_ix ix_tup (pv 0) pe_int (fun _ _ => rfl)) pa_nil)))) pss_nil)
      (pss_cons (ps_if (pt_cmpR op_eq (pe_ix ix_tup (pv 0) pe_int (fun _ _ => rfl)) pe_str (nomark _)) (pss_one (ps_set (i := 3) nd rfl (Or.inl rfl) (pe_lst (pa_cons (pe_ix ix_tup (pe_ix ix_tup (pv 0) pe_int (fun _ _ => rfl)) pe_int (fun _ _ => rfl)) pa_nil)))) pss_nil)
      (pss_cons (ps_if (pt_cmpR op_eq (pe_ix ix_tup (pv 0) pe_int (fun _ _ => rfl)) pe_str (nomark _)) (pss_cons (ps_if (pt_cmp (pc_dnotin (hu1_of hr) (pe_ix ix_tup (pv 0) pe_int (fun _ _ => rfl)) (pv 2))) (pss_one (ps_ret (pe_tup (pa_cons pe_str (pa_cons (pe_ix ix_tup (pv 0) pe_int (fun _ _ => rfl)) pa_nil))))) pss_nil)
      (pss_one (ps_setLc (i := 3) (own := [("value", 5)]) (g := gName 5) (tt := tYes) rfl nd rfl rfl (sw_true rfl rfl rfl (by decide +kernel)) (pi_tup (pe_ix ix_tup (pv 0) pe_int (fun _ _ => rfl))) (blkOk_by (N := (["row", "known", "counts", "used", "name", "value"] : List Str)) (sc := defScope s__law_row_fault) (by decide +kernel)) (fun _ _ _ _ _ => pg_name (i := 5) nd rfl (Or.inl rfl)) (fun _ _ _ _ _ => pts_nil) (fun _ _ _ _ _ => by exact (pe_ix (show IxR _ (rIxT K) from ix_tup) (pv 5) pe_int (fun _ _ => rfl)))))) pss_nil)
      (pss_cons (ps_for PassesOwn.never rfl (pi_list (pv 3)) (pg_name (i := 4) nd rfl (Or.inl rfl)) (pss_one (ps_if (pt_cmpR op_notIn_seq (pv 4) (pv 1) (by with_unfolding_all rfl)) (pss_one (ps_ret (pe_tup (pa_cons pe_str (pa_cons (pv 4) pa_nil))))) pss_nil)))
      (pss_cons (ps_if (PW.pt (pw_and (pt_cmpR op_eq (pe_ix ix_tup (pv 0) pe_int (fun _ _ => rfl)) pe_str (nomark _)) (pw_and1 (pt_cmpR op_ne (pe_dgetR (pv 2) (pe_ix ix_tup (pv 0) pe_int (fun _ _ => rfl)) (fun _ _ => rfl) hr) (pe_callB call_len_seq (by rfl) T.n_len PySem.boot_len (pa_cons (pe_ix ix_tup (pv 0) pe_int (fun _ _ => rfl)) pa_nil)) (nomark _))))) (pss_one (ps_ret (pe_tup (pa_cons pe_str (pa_cons pe_str pa_nil))))) pss_nil)
      (pss_one (ps_ret pe_non))))))))), ?_⟩
    rcases hok with ⟨x, kk, rfl⟩ | ⟨x, v, kk, rfl⟩ | ⟨v, kk, rfl⟩ | ⟨v, kk, rfl⟩ | ⟨x, g, ws, kk, rfl, hw4⟩
    · have hG : ckG fs (.new x kk) = none := rfl
      obtain ⟨q, us, rfl, hsq, hall⟩ := Dp.tupOf (ds := [.str "new", .str x, .int (kk : Nat)]) hd
      obtain ⟨v0, hv0, hz0⟩ := DpAll.get hall (i := 0) (d := .str "new") rfl
      obtain rfl := Dp.strOf hz0
      walk_at "rd"
      refine ⟨Nat.zero_le _, fun p0 hp0 => ?_⟩
      have k0 : Kp [] H (upd H p0 (.lst [])) := Kp.new hp0
      have l0 : (upd H p0 (.lst [])) p0 = some (.lst ((([] : List Str)).map V.str)) := upd_same
      generalize upd H p0 (.lst []) = H0 at k0 l0
      walk_at "rd"
      refine ⟨_, _, _, _, rfl, rfl, k0.sqt hsq, atI_nat (j := 0) hv0, ?_⟩
      walk_at "rd"
      refine ⟨_, _, _, _, rfl, rfl, k0.sqt hsq, atI_nat (j := 0) hv0, ?_⟩
      walk_at "rd"
      refine ⟨_, _, _, _, rfl, rfl, k0.sqt hsq, atI_nat (j := 0) hv0, ?_⟩
      walk_at "rd"
      refine ⟨_, _, _, _, rfl, rfl, k0.sqt hsq, atI_nat (j := 0) hv0, ?_⟩
      walk_at "rd"
      have hck : lckS fs known (.new x kk) = lckS fs known (.new x kk) := rfl
      have lk := k0.keep _ _ (by simp) hkn
      refine ⟨⟨_, SqL.of l0⟩, for_list (xs := ([] : List Str).map V.str) (fun j σ H' => ∃ z4 z5, σ = [some (.ref q), some (.ref kl), some (.ref cd), some (.ref p0), z4, z5] ∧ H' = H0 ∧ ckU known (([] : List Str).drop j) = ckU known ([] : List Str)) ⟨_, _, rfl, rfl, rfl⟩ ?_ ?_ ?_⟩
      · rintro j σ H9 _ ⟨z4, z5, rfl, rfl, hu⟩
        exact SqL.of l0
      · rintro j x σ H9 hx9 ⟨z4, z5, rfl, rfl, hu⟩
        have hj : j < (([] : List Str)).length := by
          have z := (List.getElem?_eq_some_iff.mp hx9).1
          rw [List.length_map] at z
          exact z
        exact absurd hj (Nat.not_lt_zero _)
      · rintro σ H9 ⟨z4, z5, rfl, rfl, hu⟩
        rw [List.length_map, List.drop_length] at hu
        have hu2 : ckU known ([] : List Str) = none := hu.symm
        walk_at "rd"
        refine ⟨_, _, _, _, rfl, rfl, k0.sqt hsq, atI_nat (j := 0) hv0, ?_⟩
        walk_at "rd"
        have er : lckS fs known (.new x kk) = none := by
          unfold lckS
          rw [hG]
          dsimp only
          rw [show usd (.new x kk) = ([] : List Str) from rfl, hu2]
          rfl
        rw [er] at k
        exact k _ _ k0 .non
    · have hG : ckG fs (.set x (.nm v) kk) = none := rfl
      obtain ⟨q, us, rfl, hsq, hall⟩ := Dp.tupOf (ds := [.str "set", .str x, (Vl.nm v).enc, .int (kk : Nat)]) hd
      obtain ⟨v0, hv0, hz0⟩ := DpAll.get hall (i := 0) (d := .str "set") rfl
      obtain rfl := Dp.strOf hz0
      walk_at "rd"
      refine ⟨Nat.zero_le _, fun p0 hp0 => ?_⟩
      have k0 : Kp [] H (upd H p0 (.lst [])) := Kp.new hp0
      have l0 : (upd H p0 (.lst [])) p0 = some (.lst ((([] : List Str)).map V.str)) := upd_same
      generalize upd H p0 (.lst []) = H0 at k0 l0
      walk_at "rd"
      obtain ⟨v2, hv2, hz2⟩ := DpAll.get hall (i := 2) (d := (Vl.nm v).enc) rfl
      obtain ⟨qv, uv, rfl, hsqv, hallv⟩ := Dp.tupOf (ds := [.str "name", .str v]) hz2
      obtain ⟨w1, hw1, hzw1⟩ := DpAll.get hallv (i := 1) (d := .str v) rfl
      obtain rfl := Dp.strOf hzw1
      refine ⟨_, _, _, _, rfl, rfl, k0.sqt hsq, atI_nat (j := 0) hv0, ?_⟩
      walk_at "rd"
      refine ⟨_, _, _, _, rfl, rfl, k0.sqt hsq, atI_nat (j := 2) hv2, ?_⟩
      walk_at "rd"
      refine ⟨_, _, _, _, rfl, rfl, k0.sqt hsqv, atI_nat (j := 1) hw1, ?_⟩
      walk_at "rd"
      refine ⟨szl (Nat.le_of_ble_eq_true rfl), fun p1 hp1 => ?_⟩
      have k1 : Kp [] H (upd H0 p1 (.lst [.str v])) := k0.trans (Kp.new hp1)
      have l1 : (upd H0 p1 (.lst [.str v])) p1 = some (.lst (([v] : List Str).map V.str)) := upd_same
      generalize upd H0 p1 (.lst [.str v]) = H1 at k1 l1
      walk_at "rd"
      refine ⟨_, _, _, _, rfl, rfl, k1.sqt hsq, atI_nat (j := 0) hv0, ?_⟩
      walk_at "rd"
      refine ⟨_, _, _, _, rfl, rfl, k1.sqt hsq, atI_nat (j := 0) hv0, ?_⟩
      walk_at "rd"
      refine ⟨_, _, _, _, rfl, rfl, k1.sqt hsq, atI_nat (j := 0) hv0, ?_⟩
      walk_at "rd"
      have hck : lckS fs known (.set x (.nm v) kk) = lckS fs known (.set x (.nm v) kk) := rfl
      have lk := k1.keep _ _ (by simp) hkn
      refine ⟨⟨_, SqL.of l1⟩, for_list (xs := ([v] : List Str).map V.str) (fun j σ H' => ∃ z4 z5, σ = [some (.ref q), some (.ref kl), some (.ref cd), some (.ref p1), z4, z5] ∧ H' = H1 ∧ ckU known (([v] : List Str).drop j) = ckU known ([v] : List Str)) ⟨_, _, rfl, rfl, rfl⟩ ?_ ?_ ?_⟩
      · rintro j σ H9 _ ⟨z4, z5, rfl, rfl, hu⟩
        exact SqL.of l1
      · rintro j x σ H9 hx9 ⟨z4, z5, rfl, rfl, hu⟩
        have hj : j < (([v] : List Str)).length := by
          have z := (List.getElem?_eq_some_iff.mp hx9).1
          rw [List.length_map] at z
          exact z
        rw [List.getElem?_map, List.getElem?_eq_getElem hj] at hx9
        obtain rfl := Option.some.inj hx9
        rw [List.drop_eq_getElem_cons hj, ckU] at hu
        walk_at "rd"
        refine ⟨_, _, rfl, .inl (SqL.of lk), rfl, flat_strs _, ?_⟩
        walk_at "rd"
        refine iteB (fun h => ?_) (fun h => ?_)
        · have hn : ¬ (([v] : List Str))[j] ∈ known := notin_of (by
            have z : (!inV (.str (([v] : List Str))[j]) (known.map V.str)) = true := h
            simpa using z)
          rw [if_neg hn] at hu
          have er : lckS fs known (.set x (.nm v) kk) = some (.unk (([v] : List Str))[j]) := by
            unfold lckS
            rw [hG]
            dsimp only
            rw [show usd (.set x (.nm v) kk) = ([v] : List Str) from rfl, ← hu]
          rw [er] at k
          walk_at "rd"
          refine ⟨szl (Nat.le_of_ble_eq_true rfl), fun t ht => ?_⟩
          exact k _ _ (k1.trans (Kp.new ht)) (Dp.new (by walk_at "dp") rfl ht)
        · have hn : (([v] : List Str))[j] ∈ known := in_of (by
            have z : (!inV (.str (([v] : List Str))[j]) (known.map V.str)) = false := h
            simpa using z)
          rw [if_pos hn] at hu
          exact ⟨_, _, rfl, rfl, hu⟩
      · rintro σ H9 ⟨z4, z5, rfl, rfl, hu⟩
        rw [List.length_map, List.drop_length] at hu
        have hu2 : ckU known ([v] : List Str) = none := hu.symm
        walk_at "rd"
        refine ⟨_, _, _, _, rfl, rfl, k1.sqt hsq, atI_nat (j := 0) hv0, ?_⟩
        walk_at "rd"
        have er : lckS fs known (.set x (.nm v) kk) = none := by
          unfold lckS
          rw [hG]
          dsimp only
          rw [show usd (.set x (.nm v) kk) = ([v] : List Str) from rfl, hu2]
          rfl
        rw [er] at k
        exact k _ _ k1 .non
    · have hG : ckG fs (.out v kk) = none := rfl
      obtain ⟨q, us, rfl, hsq, hall⟩ := Dp.tupOf (ds := [.str "out", .str v, .int (kk : Nat)]) hd
      obtain ⟨v0, hv0, hz0⟩ := DpAll.get hall (i := 0) (d := .str "out") rfl
      obtain rfl := Dp.strOf hz0
      walk_at "rd"
      refine ⟨Nat.zero_le _, fun p0 hp0 => ?_⟩
      have k0 : Kp [] H (upd H p0 (.lst [])) := Kp.new hp0
      have l0 : (upd H p0 (.lst [])) p0 = some (.lst ((([] : List Str)).map V.str)) := upd_same
      generalize upd H p0 (.lst []) = H0 at k0 l0
      walk_at "rd"
      obtain ⟨v1, hv1, hz1⟩ := DpAll.get hall (i := 1) (d := .str v) rfl
      obtain rfl := Dp.strOf hz1
      refine ⟨_, _, _, _, rfl, rfl, k0.sqt hsq, atI_nat (j := 0) hv0, ?_⟩
      walk_at "rd"
      refine ⟨_, _, _, _, rfl, rfl, k0.sqt hsq, atI_nat (j := 0) hv0, ?_⟩
      walk_at "rd"
      refine ⟨_, _, _, _, rfl, rfl, k0.sqt hsq, atI_nat (j := 1) hv1, ?_⟩
      walk_at "rd"
      refine ⟨szl (Nat.le_of_ble_eq_true rfl), fun p1 hp1 => ?_⟩
      have k1 : Kp [] H (upd H0 p1 (.lst [.str v])) := k0.trans (Kp.new hp1)
      have l1 : (upd H0 p1 (.lst [.str v])) p1 = some (.lst (([v] : List Str).map V.str)) := upd_same
      generalize upd H0 p1 (.lst [.str v]) = H1 at k1 l1
      walk_at "rd"
      refine ⟨_, _, _, _, rfl, rfl, k1.sqt hsq, atI_nat (j := 0) hv0, ?_⟩
      walk_at "rd"
      refine ⟨_, _, _, _, rfl, rfl, k1.sqt hsq, atI_nat (j := 0) hv0, ?_⟩
      walk_at "rd"
      have hck : lckS fs known (.out v kk) = lckS fs known (.out v kk) := rfl
      have lk := k1.keep _ _ (by simp) hkn
      refine ⟨⟨_, SqL.of l1⟩, for_list (xs := ([v] : List Str).map V.str) (fun j σ H' => ∃ z4 z5, σ = [some (.ref q), some (.ref kl), some (.ref cd), some (.ref p1), z4, z5] ∧ H' = H1 ∧ ckU known (([v] : List Str).drop j) = ckU known ([v] : List Str)) ⟨_, _, rfl, rfl, rfl⟩ ?_ ?_ ?_⟩
      · rintro j σ H9 _ ⟨z4, z5, rfl, rfl, hu⟩
        exact SqL.of l1
      · rintro j x σ H9 hx9 ⟨z4, z5, rfl, rfl, hu⟩
        have hj : j < (([v] : List Str)).length := by
          have z := (List.getElem?_eq_some_iff.mp hx9).1
          rw [List.length_map] at z
          exact z
        rw [List.getElem?_map, List.getElem?_eq_getElem hj] at hx9
        obtain rfl := Option.some.inj hx9
        rw [List.drop_eq_getElem_cons hj, ckU] at hu
        walk_at "rd"
        refine ⟨_, _, rfl, .inl (SqL.of lk), rfl, flat_strs _, ?_⟩
        walk_at "rd"
        refine iteB (fun h => ?_) (fun h => ?_)
        · have hn : ¬ (([v] : List Str))[j] ∈ known := notin_of (by
            have z : (!inV (.str (([v] : List Str))[j]) (known.map V.str)) = true := h
            simpa using z)
          rw [if_neg hn] at hu
          have er : lckS fs known (.out v kk) = some (.unk (([v] : List Str))[j]) := by
            unfold lckS
            rw [hG]
            dsimp only
            rw [show usd (.out v kk) = ([v] : List Str) from rfl, ← hu]
          rw [er] at k
          walk_at "rd"
          refine ⟨szl (Nat.le_of_ble_eq_true rfl), fun t ht => ?_⟩
          exact k _ _ (k1.trans (Kp.new ht)) (Dp.new (by walk_at "dp") rfl ht)
        · have hn : (([v] : List Str))[j] ∈ known := in_of (by
            have z : (!inV (.str (([v] : List Str))[j]) (known.map V.str)) = false := h
            simpa using z)
          rw [if_pos hn] at hu
          exact ⟨_, _, rfl, rfl, hu⟩
      · rintro σ H9 ⟨z4, z5, rfl, rfl, hu⟩
        rw [List.length_map, List.drop_length] at hu
        have hu2 : ckU known ([v] : List Str) = none := hu.symm
        walk_at "rd"
        refine ⟨_, _, _, _, rfl, rfl, k1.sqt hsq, atI_nat (j := 0) hv0, ?_⟩
        walk_at "rd"
        have er : lckS fs known (.out v kk) = none := by
          unfold lckS
          rw [hG]
          dsimp only
          rw [show usd (.out v kk) = ([v] : List Str) from rfl, hu2]
          rfl
        rw [er] at k
        exact k _ _ k1 .non
    · have hG : ckG fs (.ret (.nm v) kk) = none := rfl
      obtain ⟨q, us, rfl, hsq, hall⟩ := Dp.tupOf (ds := [.str "return", (Vl.nm v).enc, .int (kk : Nat)]) hd
      obtain ⟨v0, hv0, hz0⟩ := DpAll.get hall (i := 0) (d := .str "return") rfl
      obtain rfl := Dp.strOf hz0
      walk_at "rd"
      refine ⟨Nat.zero_le _, fun p0 hp0 => ?_⟩
      have k0 : Kp [] H (upd H p0 (.lst [])) := Kp.new hp0
      have l0 : (upd H p0 (.lst [])) p0 = some (.lst ((([] : List Str)).map V.str)) := upd_same
      generalize upd H p0 (.lst []) = H0 at k0 l0
      walk_at "rd"
      obtain ⟨v1, hv1, hz1⟩ := DpAll.get hall (i := 1) (d := (Vl.nm v).enc) rfl
      obtain ⟨qv, uv, rfl, hsqv, hallv⟩ := Dp.tupOf (ds := [.str "name", .str v]) hz1
      obtain ⟨w1, hw1, hzw1⟩ := DpAll.get hallv (i := 1) (d := .str v) rfl
      obtain rfl := Dp.strOf hzw1
      refine ⟨_, _, _, _, rfl, rfl, k0.sqt hsq, atI_nat (j := 0) hv0, ?_⟩
      walk_at "rd"
      refine ⟨_, _, _, _, rfl, rfl, k0.sqt hsq, atI_nat (j := 0) hv0, ?_⟩
      walk_at "rd"
      refine ⟨_, _, _, _, rfl, rfl, k0.sqt hsq, atI_nat (j := 0) hv0, ?_⟩
      walk_at "rd"
      refine ⟨_, _, _, _, rfl, rfl, k0.sqt hsq, atI_nat (j := 1) hv1, ?_⟩
      walk_at "rd"
      refine ⟨_, _, _, _, rfl, rfl, k0.sqt hsqv, atI_nat (j := 1) hw1, ?_⟩
      walk_at "rd"
      refine ⟨szl (Nat.le_of_ble_eq_true rfl), fun p1 hp1 => ?_⟩
      have k1 : Kp [] H (upd H0 p1 (.lst [.str v])) := k0.trans (Kp.new hp1)
      have l1 : (upd H0 p1 (.lst [.str v])) p1 = some (.lst (([v] : List Str).map V.str)) := upd_same
      generalize upd H0 p1 (.lst [.str v]) = H1 at k1 l1
      walk_at "rd"
      refine ⟨_, _, _, _, rfl, rfl, k1.sqt hsq, atI_nat (j := 0) hv0, ?_⟩
      walk_at "rd"
      have hck : lckS fs known (.ret (.nm v) kk) = lckS fs known (.ret (.nm v) kk) := rfl
      have lk := k1.keep _ _ (by simp) hkn
      refine ⟨⟨_, SqL.of l1⟩, for_list (xs := ([v] : List Str).map V.str) (fun j σ H' => ∃ z4 z5, σ = [some (.ref q), some (.ref kl), some (.ref cd), some (.ref p1), z4, z5] ∧ H' = H1 ∧ ckU known (([v] : List Str).drop j) = ckU known ([v] : List Str)) ⟨_, _, rfl, rfl, rfl⟩ ?_ ?_ ?_⟩
      · rintro j σ H9 _ ⟨z4, z5, rfl, rfl, hu⟩
        exact SqL.of l1
      · rintro j x σ H9 hx9 ⟨z4, z5, rfl, rfl, hu⟩
        have hj : j < (([v] : List Str)).length := by
          have z := (List.getElem?_eq_some_iff.mp hx9).1
          rw [List.length_map] at z
          exact z
        rw [List.getElem?_map, List.getElem?_eq_getElem hj] at hx9
        obtain rfl := Option.some.inj hx9
        rw [List.drop_eq_getElem_cons hj, ckU] at hu
        walk_at "rd"
        refine ⟨_, _, rfl, .inl (SqL.of lk), rfl, flat_strs _, ?_⟩
        walk_at "rd"
        refine iteB (fun h => ?_) (fun h => ?_)
        · have hn : ¬ (([v] : List Str))[j] ∈ known := notin_of (by
            have z : (!inV (.str (([v] : List Str))[j]) (known.map V.str)) = true := h
            simpa using z)
          rw [if_neg hn] at hu
          have er : lckS fs known (.ret (.nm v) kk) = some (.unk (([v] : List Str))[j]) := by
            unfold lckS
            rw [hG]
            dsimp only
            rw [show usd (.ret (.nm v) kk) = ([v] : List Str) from rfl, ← hu]
          rw [er] at k
          walk_at "rd"
          refine ⟨szl (Nat.le_of_ble_eq_true rfl), fun t ht => ?_⟩
          exact k _ _ (k1.trans (Kp.new ht)) (Dp.new (by walk_at "dp") rfl ht)
        · have hn : (([v] : List Str))[j] ∈ known := in_of (by
            have z : (!inV (.str (([v] : List Str))[j]) (known.map V.str)) = false := h
            simpa using z)
          rw [if_pos hn] at hu
          exact ⟨_, _, rfl, rfl, hu⟩
      · rintro σ H9 ⟨z4, z5, rfl, rfl, hu⟩
        rw [List.length_map, List.drop_length] at hu
        have hu2 : ckU known ([v] : List Str) = none := hu.symm
        walk_at "rd"
        refine ⟨_, _, _, _, rfl, rfl, k1.sqt hsq, atI_nat (j := 0) hv0, ?_⟩
        walk_at "rd"
        have er : lckS fs known (.ret (.nm v) kk) = none := by
          unfold lckS
          rw [hG]
          dsimp only
          rw [show usd (.ret (.nm v) kk) = ([v] : List Str) from rfl, hu2]
          rfl
        rw [er] at k
        exact k _ _ k1 .non
    · obtain ⟨q, us, rfl, hsq, hall⟩ := Dp.tupOf (ds := [.str "call", .str x, .str g, .tuple ((ws.map Vl.nm).map Vl.enc), .int (kk : Nat)]) hd
      obtain ⟨v0, hv0, hz0⟩ := DpAll.get hall (i := 0) (d := .str "call") rfl
      obtain rfl := Dp.strOf hz0
      walk_at "rd"
      refine ⟨Nat.zero_le _, fun p0 hp0 => ?_⟩
      have k0 : Kp [] H (upd H p0 (.lst [])) := Kp.new hp0
      have l0 : (upd H p0 (.lst [])) p0 = some (.lst ((([] : List Str)).map V.str)) := upd_same
      generalize upd H p0 (.lst []) = H0 at k0 l0
      walk_at "rd"
      obtain ⟨v2, hv2, hz2⟩ := DpAll.get hall (i := 2) (d := .str g) rfl
      obtain rfl := Dp.strOf hz2
      obtain ⟨v3, hv3, hz3⟩ := DpAll.get hall (i := 3) (d := .tuple ((ws.map Vl.nm).map Vl.enc)) rfl
      obtain ⟨q3, us3, rfl, hsq3, hall3⟩ := Dp.tupOf hz3
      have hwl : us3.length = ws.length := by rw [DpAll.length hall3, List.length_map, List.length_map]
      refine ⟨_, _, _, _, rfl, rfl, k0.sqt hsq, atI_nat (j := 0) hv0, ?_⟩
      walk_at "rd"
      refine ⟨_, _, _, _, rfl, rfl, k0.sqt hsq, atI_nat (j := 0) hv0, ?_⟩
      walk_at "rd"
      refine ⟨_, _, _, _, rfl, rfl, k0.sqt hsq, atI_nat (j := 0) hv0, ?_⟩
      walk_at "rd"
      refine ⟨_, _, _, _, rfl, rfl, k0.sqt hsq, atI_nat (j := 0) hv0, ?_⟩
      walk_at "rd"
      refine ⟨_, _, _, _, rfl, rfl, k0.sqt hsq, atI_nat (j := 2) hv2, ?_⟩
      walk_at "rd"
      refine ⟨_, _, rfl, DGet.k (k := .inr g) (k0.keep _ _ (by simp) hcd), ?_⟩
      have hval := hct g
      cases hf : fnOf fs g with
      | none =>
        rw [hf] at hval
        rw [show valV kvs (.inr g) = none from hval]
        have er : lckS fs known (.call x g (ws.map Vl.nm) kk) = some (.unk g) := by
          unfold lckS ckG
          dsimp only
          rw [hf]
          rfl
        rw [er] at k
        walk_at "rd"
        refine ⟨_, _, _, _, rfl, rfl, k0.sqt hsq, atI_nat (j := 2) hv2, ?_⟩
        refine ⟨szl (Nat.le_of_ble_eq_true rfl), fun t ht => ?_⟩
        exact k _ _ (k0.trans (Kp.new ht)) (Dp.new (by walk_at "dp") rfl ht)
      | some f =>
        rw [hf] at hval
        replace hval : valV kvs (.inr g) = some (.int (f.ps.length : Nat)) := hval
        rw [hval]
        have hG : ckG fs (.call x g (ws.map Vl.nm) kk) = none := by
          unfold ckG
          dsimp only
          rw [hf]
          rfl
        walk_at "rd"
        refine ⟨_, _, _, _, rfl, rfl, k0.sqt hsq, atI_nat (j := 3) hv3, ?_⟩
        walk_at "rd"
        refine ⟨⟨_, k0.sqt hsq3⟩, ?_⟩
        intro p1 hp1
        refine lc_tup (xs := us3) (fun i H' => Kp [] H0 H' ∧ H' p1 = some (.lst ((ws.take i).map V.str))) ⟨Kp.new hp1, upd_same⟩ ?_ ?_ ?_
        · rintro i H' _ ⟨a1, a2⟩
          exact (k0.trans a1).sqt hsq3
        · rintro i x2 H' hx2 ⟨a1, a2⟩
          have hi : i < us3.length := (List.getElem?_eq_some_iff.mp hx2).1
          have hi2 : i < ws.length := by omega
          obtain ⟨x', hx', hdx⟩ := DpAll.get hall3 (i := i) (d := .tuple [.str "name", .str ws[i]]) (by rw [List.getElem?_map, List.getElem?_map, List.getElem?_eq_getElem hi2]; rfl)
          rw [hx2] at hx'
          obtain rfl := Option.some.inj hx'
          obtain ⟨qv, uv, rfl, hsqv, hallv⟩ := Dp.tupOf hdx
          obtain ⟨w1, hw1, hzw1⟩ := DpAll.get hallv (i := 1) (d := .str ws[i]) rfl
          obtain rfl := Dp.strOf hzw1
          refine ⟨rfl, ?_⟩
          walk_at "rd"
          refine ⟨_, _, _, _, rfl, rfl, (k0.trans a1).sqt hsqv, atI_nat (j := 1) hw1, ?_⟩
          refine ⟨_, a2, by rw [List.length_map, List.length_take]; exact szt (by omega), a1.mine hp1, ?_⟩
          rw [upd_same, List.take_add_one, List.getElem?_eq_getElem hi2, List.map_append]
          rfl
        · rintro H1 ⟨a1, l1⟩
          rw [hwl, List.take_length] at l1
          have k1 := k0.trans a1
          walk_at "rd"
          have hck : lckS fs known (.call x g (ws.map Vl.nm) kk) = lckS fs known (.call x g (ws.map Vl.nm) kk) := rfl
          have lk := k1.keep _ _ (by simp) hkn
          refine ⟨⟨_, SqL.of l1⟩, for_list (xs := ws.map V.str) (fun j σ H' => ∃ z4 z5, σ = [some (.ref q), some (.ref kl), some (.ref cd), some (.ref p1), z4, z5] ∧ H' = H1 ∧ ckU known (ws.drop j) = ckU known ws) ⟨_, _, rfl, rfl, rfl⟩ ?_ ?_ ?_⟩
          · rintro j σ H9 _ ⟨z4, z5, rfl, rfl, hu⟩
            exact SqL.of l1
          · rintro j x σ H9 hx9 ⟨z4, z5, rfl, rfl, hu⟩
            have hj : j < (ws).length := by
              have z := (List.getElem?_eq_some_iff.mp hx9).1
              rw [List.length_map] at z
              exact z
            rw [List.getElem?_map, List.getElem?_eq_getElem hj] at hx9
            obtain rfl := Option.some.inj hx9
            rw [List.drop_eq_getElem_cons hj, ckU] at hu
            walk_at "rd"
            refine ⟨_, _, rfl, .inl (SqL.of lk), rfl, flat_strs _, ?_⟩
            walk_at "rd"
            refine iteB (fun h => ?_) (fun h => ?_)
            · have hn : ¬ (ws)[j] ∈ known := notin_of (by
                have z : (!inV (.str (ws)[j]) (known.map V.str)) = true := h
                simpa using z)
              rw [if_neg hn] at hu
              have er : lckS fs known (.call x g (ws.map Vl.nm) kk) = some (.unk (ws)[j]) := by
                unfold lckS
                rw [hG]
                dsimp only
                rw [show usd (.call x g (ws.map Vl.nm) kk) = ws from map_nm ws, ← hu]
              rw [er] at k
              walk_at "rd"
              refine ⟨szl (Nat.le_of_ble_eq_true rfl), fun t ht => ?_⟩
              exact k _ _ (k1.trans (Kp.new ht)) (Dp.new (by walk_at "dp") rfl ht)
            · have hn : (ws)[j] ∈ known := in_of (by
                have z : (!inV (.str (ws)[j]) (known.map V.str)) = false := h
                simpa using z)
              rw [if_pos hn] at hu
              exact ⟨_, _, rfl, rfl, hu⟩
          · rintro σ H9 ⟨z4, z5, rfl, rfl, hu⟩
            rw [List.length_map, List.drop_length] at hu
            have hu2 : ckU known ws = none := hu.symm
            walk_at "rd"
            refine ⟨_, _, _, _, rfl, rfl, k1.sqt hsq, atI_nat (j := 0) hv0, ?_⟩
            walk_at "rd"
            refine ⟨_, _, _, _, rfl, rfl, k1.sqt hsq, atI_nat (j := 2) hv2, ?_⟩
            refine ⟨_, _, rfl, .inl ⟨kvs, .inr g, .inl (k1.keep _ _ (by simp) hcd), rfl, hval.symm⟩, ?_⟩
            walk_at "rd"
            refine ⟨_, _, _, _, rfl, rfl, k1.sqt hsq, atI_nat (j := 3) hv3, ?_⟩
            refine ⟨_, _, rfl, .inr (k1.sqt hsq3), ?_⟩
            walk_at "rd"
            rw [hwl]
            have er : lckS fs known (.call x g (ws.map Vl.nm) kk) = if f.ps.length = ws.length then none else some (.mis "count") := by
              unfold lckS
              rw [hG]
              dsimp only
              rw [show usd (.call x g (ws.map Vl.nm) kk) = ws from map_nm ws, hu2]
              dsimp only
              unfold ckC
              dsimp only
              rw [hf]
              dsimp only
              rw [List.length_map]
            rw [er] at k
            by_cases hl : f.ps.length = ws.length
            · rw [if_pos hl] at k
              refine iteB (fun h => ?_) (fun h => ?_)
              · rw [hl] at h
                simp at h
              · exact k _ _ k1 .non
            · rw [if_neg hl] at k
              refine iteB (fun h => ?_) (fun h => ?_)
              · walk_at "rd"
                refine ⟨szl (Nat.le_of_ble_eq_true rfl), fun t ht => ?_⟩
                exact k _ _ (k1.trans (Kp.new ht)) (Dp.new (by walk_at "dp") rfl ht)
              · refine absurd ?_ hl
                have z : decide (V.int (f.ps.length : Nat) = V.int (ws.length : Nat)) = true := by
                  cases hq : decide (V.int (f.ps.length : Nat) = V.int (ws.length : Nat)) with
                  | true => rfl
                  | false =>
                    exfalso
                    have z2 : (!decide (V.int (f.ps.length : Nat) = V.int (ws.length : Nat))) = false := h
                    rw [hq] at z2
                    cases z2
                have z2 := V.int.inj (of_decide_eq_true z)
                omega
end
end K7


set_option Elab.async false
set_option linter.all false
set_option maxRecDepth 100000
set_option maxHeartbeats 4000000
namespace K7
open PySem PySem.Spec PyProof.Rows L2 He Hz Cm Lx Px Gx Wx
local macro_rules | `(tactic| walk_at "rd") => `(tactic| repeat (first | (refine ⟨_, rfl, ?_⟩) | (refine ⟨_, _, rfl, rfl, ?_⟩) | (refine ⟨rfl, ?_⟩) | (refine ⟨szl (by omega), ?_⟩) | (refine ⟨_, _, _, _, _, rfl, (by assumption), (by assumption), (by assumption), (by rfl), ?_⟩) | (refine ⟨_, _, rfl, Or.inl (by assumption), ?_⟩)))
local macro_rules | `(tactic| walk_at "dp") => `(tactic| (repeat' (first | exact DpAll.nil | apply DpAll.cons | exact Dp.str _ | exact Dp.int _ | exact Dp.non | exact Dp.bl _ | assumption)))
section
variable {P : Program} {w : World} {K : PySem.W.Frag} {mg : Str → Option Value} {base : Heap} {H H1 H' : Hp} {Q : VK} {E : XK}
theorem asg3_enc {s : Sm} {x : Str} (h : asg3 s = some x) : ∃ ds, s.enc = .tuple (.str (kind s) :: .str x :: ds) := by
  cases s <;> first | (cases h; exact ⟨_, rfl⟩) | cases h
theorem asg3_kind {s : Sm} : decide (kind s ∈ (["new", "set", "call"] : List Str)) = (asg3 s).isSome := by
  have h_new : decide (("new" : Str) ∈ (["new", "set", "call"] : List Str)) = true := by decide +kernel
  have h_set : decide (("set" : Str) ∈ (["new", "set", "call"] : List Str)) = true := by decide +kernel
  have h_call : decide (("call" : Str) ∈ (["new", "set", "call"] : List Str)) = true := by decide +kernel
  have h_load : decide (("load" : Str) ∈ (["new", "set", "call"] : List Str)) = false := by decide +kernel
  have h_add : decide (("add" : Str) ∈ (["new", "set", "call"] : List Str)) = false := by decide +kernel
  have h_store : decide (("store" : Str) ∈ (["new", "set", "call"] : List Str)) = false := by decide +kernel
  have h_out : decide (("out" : Str) ∈ (["new", "set", "call"] : List Str)) = false := by decide +kernel
  have h_return : decide (("return" : Str) ∈ (["new", "set", "call"] : List Str)) = false := by decide +kernel
  have h_if : decide (("if" : Str) ∈ (["new", "set", "call"] : List Str)) = false := by decide +kernel
  have h_while : decide (("while" : Str) ∈ (["new", "set", "call"] : List Str)) = false := by decide +kernel
  cases s <;> first | exact h_new | exact h_set | exact h_call | exact h_load | exact h_add | exact h_store | exact h_out | exact h_return | exact h_if | exact h_while
theorem fd_parts3 {u : V} {f : Fd} (h : Dp K H u f.enc) : ∃ q q1 q2 ws, u = .ref q ∧ SqT K H q [.str f.name, .ref q1, .ref q2] ∧ SqT K H q1 (f.ps.map V.str) ∧ SqT K H q2 ws ∧ DpAll K H ws (encs f.body) := by
  obtain ⟨q, us, rfl, hsq, hall⟩ := Dp.tupOf (ds := [.str f.name, .tuple (f.ps.map .str), .tuple (encs f.body)]) h
  cases hall with
  | cons h1 h2 =>
    obtain rfl := Dp.strOf h1
    cases h2 with
    | cons h3 h4 =>
      obtain ⟨q1, us1, rfl, hsq1, hall1⟩ := Dp.tupOf h3
      obtain rfl := dp_strs_of hall1
      cases h4 with
      | cons h5 h6 =>
        obtain ⟨q2, us2, rfl, hsq2, hall2⟩ := Dp.tupOf h5
        cases h6
        exact ⟨q, q1, q2, us2, rfl, hsq, hsq1, hsq2, hall2⟩
theorem fnOf_mem {fs : List Fd} {n : Str} : (fnOf fs n).isSome = decide (n ∈ fs.map (·.name)) := by
  cases h : fnOf fs n with
  | none =>
    have z := fn_none h
    rw [decide_eq_false z]
    rfl
  | some f =>
    have h1 := List.mem_of_find?_eq_some h
    have h2 := of_decide_eq_true (List.find?_some (p := fun f : Fd => decide (f.name = n)) h)
    rw [decide_eq_true (List.mem_map.mpr ⟨f, h1, h2⟩)]
    rfl
def OkItm : Itm → Prop
  | .glo _ => True
  | .fn f => OkG f
theorem enc_ne {u : V} {er : Er} (h : Dp K H u (encE er)) : u ≠ .non := by
  intro z
  subst z
  cases er <;> cases h
theorem valV_snoc {kvs : List (Key × V)} {k k' : Key} {v : V} : valV (kvs ++ [(k, v)]) k' = (valV kvs k').or (if k = k' then some v else none) := by
  induction kvs with
  | nil =>
    by_cases h : k = k'
    · rw [if_pos h]
      exact valV_pos h
    · rw [if_neg h]
      exact valV_neg h
  | cons p kvs ih =>
    by_cases h : p.1 = k'
    · rw [List.cons_append, valV_pos h, valV_pos h]
      rfl
    · rw [List.cons_append, valV_neg h, valV_neg h]
      exact ih
theorem fnOf_snoc {fs : List Fd} {f : Fd} {n : Str} : fnOf (fs ++ [f]) n = (fnOf fs n).or (if f.name = n then some f else none) := by
  unfold fnOf
  rw [List.find?_append, List.find?_cons, List.find?_nil]
  by_cases h : f.name = n
  · rw [decide_eq_true h, if_pos h]
  · rw [decide_eq_false h, if_neg h]
def spFault : Sp := fun vs H Q _ => ∃ l xs its, vs = [.ref l] ∧ H l = some (.lst xs) ∧ DpAll K H xs ((its : List Itm).map Itm.enc) ∧ its.length ≤ 1000 ∧ (∀ it ∈ its, OkItm it) ∧ ∀ u H', Kp [] H H' → Dp K H' u (encO (lf its)) → Q u H'
theorem ok_law_fault (T : Tx P K mg) : OkF P w K mg base CX0 2 a__law_fault ["items"] (spFault (K := K)) := by
  have nd := sc__law_fault.nd
  have F__law_first_twice := ok_law_first_twice (P := P) (w := w) (base := base) T
  have F__law_row_fault := ok_law_row_fault (P := P) (w := w) (base := base) T
  refine T.f__law_fault.ok (CX := CX0) sc__law_fault (fun vs H Q E h => ?_) (fun cdv A outer s H vs Q E hr h => ?_)
  · obtain ⟨_, _, _, rfl, _⟩ := h
    rfl
  · obtain ⟨l, xs, its, rfl, hl, hd, hsz, hok, k⟩ := h
    refine ⟨_, PSs.nox (pss_cons (ps_set (i := 1) nd rfl (Or.inl rfl) (pe_lst pa_nil))
      (pss_cons (ps_set (i := 2) nd rfl (Or.inl rfl) (pe_lst pa_nil))
      (pss_cons (ps_for PassesOwn.never rfl (pi_list (pv 0)) (pg_tup rfl (pgs_cons (pg_name (i := 3) nd rfl (Or.inl rfl)) (pgs_cons (pg_name (i := 4) nd rfl (Or.inl rfl)) pgs_nil))) (pss_cons (ps_if (PW.pt (pw_or (PW.pt (pw_and (pt_cmpR op_eq (pv 3) pe_str (nomark _)) (pw_and1 (pt_cmpR op_in_seq (pv 4) (pv 1) (by with_unfolding_all rfl))))) (pw_or1 (PW.pt (pw_and (pt_cmpR op_eq (pv 3) pe_str (nomark _)) (pw_and1 (pt_cmpR op_in_seq (pe_ix ix_tup (pv 4) pe_int (fun _ _ => rfl)) (pe_lc (own := [("one", 6)]) (g := gName 6) (tt := tYes) rfl nd (pi_list (pv 2)) (blkOk_by (N := (["items", "shared", "functions", "kind", "thing", "counts", "one", "name", "parameters", "rows", "known", "row", "fault"] : List Str)) (sc := defScope s__law_fault) (by decide +kernel)) (fun _ _ _ _ _ => pg_name (i := 6) nd rfl (Or.inl rfl)) (fun _ _ _ _ _ => pts_nil) (fun _ _ _ _ _ => by exact (pe_ix (show IxR _ (rIxT K) from ix_tup) (pv 6) pe_int (fun _ _ => rfl)))) (by with_unfolding_all rfl)))))))) (pss_one (ps_ret (pe_tup (pa_cons pe_str (pa_cons (pe_ifExp (pt_cmpR op_eq (pv 3) pe_str (nomark _)) (pv 4) (pe_ix ix_tup (pv 4) pe_int (fun _ _ => rfl))) pa_nil))))) pss_nil)
      (pss_one (ps_if (pt_cmpR op_eq (pv 3) pe_str (nomark _)) (pss_one (ps_expr (pe_bm PySem.F.plainAttrs_list PySem.F.slot_list_append PySem.F.type_list_append mt_append (pv 1) (pa_cons (pv 4) pa_nil)))) (pss_one (ps_expr (pe_bm PySem.F.plainAttrs_list PySem.F.slot_list_append PySem.F.type_list_append mt_append (pv 2) (pa_cons (pv 4) pa_nil))))))))
      (pss_cons (ps_set (i := 5) nd rfl (Or.inl rfl) pe_dnewK)
      (pss_cons (ps_for PassesOwn.never rfl (pi_list (pv 2)) (pg_name (i := 6) nd rfl (Or.inl rfl)) (pss_one (ps_dput (hu1_of hr) (pv 5) (pe_ix ix_tup (pv 6) pe_int (fun _ _ => rfl)) (pe_callB call_len_seq (by rfl) T.n_len PySem.boot_len (pa_cons (pe_ix ix_tup (pv 6) pe_int (fun _ _ => rfl)) pa_nil)) rfl)))
      (pss_cons (ps_for PassesOwn.never rfl (pi_list (pv 2)) (pg_tup rfl (pgs_cons (pg_name (i := 7) nd rfl (Or.inl rfl)) (pgs_cons (pg_name (i := 8) nd rfl (Or.inl rfl)) (pgs_cons (pg_name (i := 9) nd rfl (Or.inl rfl)) pgs_nil)))) (pss_cons (ps_if (pt_cmpR op_notN (pe_call F__law_first_twice (hr.mono (by decide)) rfl T.g__law_first_twice T.k__law_first_twice T.b__law_first_twice .nil pass0 (pa_cons (pv 8) pa_nil)) pe_non (nomark _)) (pss_one (ps_ret (pe_tup (pa_cons pe_str (pa_cons (pe_call F__law_first_twice (hr.mono (by decide)) rfl T.g__law_first_twice T.k__law_first_twice T.b__law_first_twice .nil pass0 (pa_cons (pv 8) pa_nil)) pa_nil))))) pss_nil)
      (pss_cons (ps_set (i := 10) nd rfl (Or.inl rfl) (pe_op op_cat (pe_op op_cat (pe_callTy call_list_of (by rfl) T.n_list (by decide +kernel) (pa_cons (pv 8) pa_nil)) (pv 1)) (pe_lc (own := [("row", 11)]) (g := gName 11)  rfl nd (pi_tup (pv 9)) (blkOk_by (N := (["items", "shared", "functions", "kind", "thing", "counts", "one", "name", "parameters", "rows", "known", "row", "fault"] : List Str)) (sc := defScope s__law_fault) (by decide +kernel)) (fun _ _ _ _ _ => pg_name (i := 11) nd rfl (Or.inl rfl)) (fun _ _ _ _ _ => pts_one (pt_cmpR (show OpR _ _ (rIn K false) from op_in_seq) (pe_ix (show IxR _ (rIxT K) from ix_tup) (pv 11) pe_int (fun _ _ => rfl)) (pe_tup (pa_cons pe_str (pa_cons pe_str (pa_cons pe_str pa_nil)))) (by with_unfolding_all rfl))) (fun _ _ _ _ _ => by exact (pe_ix (show IxR _ (rIxT K) from ix_tup) (pv 11) pe_int (fun _ _ => rfl))))))
      (pss_one (ps_for PassesOwn.never rfl (pi_tup (pv 9)) (pg_name (i := 11) nd rfl (Or.inl rfl)) (pss_cons (ps_set (i := 12) nd rfl (Or.inl rfl) (pe_call F__law_row_fault (hr.mono (by decide)) rfl T.g__law_row_fault T.k__law_row_fault T.b__law_row_fault .nil pass0 (pa_cons (pv 11) (pa_cons (pv 10) (pa_cons (pv 5) pa_nil)))))
      (pss_one (ps_if (pt_cmpR op_notN (pv 12) pe_non (nomark _)) (pss_one (ps_ret (pv 12))) pss_nil))))))))
      (pss_cons (ps_if (pt_cmp (pc_dnotin (hu1_of hr) pe_str (pv 5))) (pss_one (ps_ret (pe_tup (pa_cons pe_str (pa_cons pe_str pa_nil))))) pss_nil)
      (pss_one (ps_ret pe_non))))))))), ?_⟩
    have hxl : xs.length = its.length := by rw [DpAll.length hd, List.length_map]
    unfold lf at k
    walk_at "rd"
    refine ⟨Nat.zero_le _, fun pg hpg => ?_⟩
    have k1 : Kp [] H (upd H pg (.lst [])) := Kp.new hpg
    have g1 : (upd H pg (.lst [])) pg = some (.lst []) := upd_same
    generalize upd H pg (.lst []) = H1 at k1 g1
    walk_at "rd"
    refine ⟨Nat.zero_le _, fun pf hpf => ?_⟩
    have npf : pf ≠ pg := fun z => by rw [z, g1] at hpf; cases hpf
    have hpfH := k1.fresh (by simp) hpf
    have k2 : Kp [] H (upd H1 pf (.lst [])) := k1.trans (Kp.new hpf)
    have g2 : (upd H1 pf (.lst [])) pg = some (.lst []) := (upd_ne npf.symm).trans g1
    have f2 : (upd H1 pf (.lst [])) pf = some (.lst []) := upd_same
    generalize upd H1 pf (.lst []) = H2 at k2 g2 f2
    walk_at "rd"
    refine ⟨⟨_, SqL.of (k2.keep _ _ (by simp) hl)⟩, for_list (xs := xs) (fun i σ H' => ∃ (gs : List Str) (fs : List Fd) (vs : List V) (z3 z4 z5 z6 z7 z8 z9 z10 z11 z12 : Option V), σ = [some (.ref l), some (.ref pg), some (.ref pf), z3, z4, z5, z6, z7, z8, z9, z10, z11, z12] ∧ Kp [] H H' ∧ H' pg = some (.lst (gs.map V.str)) ∧ H' pf = some (.lst vs) ∧ DpAll K H' vs (fs.map Fd.enc) ∧ addI gs fs (its.drop i) = addI [] [] its ∧ gs.length + fs.length ≤ i ∧ (∀ f ∈ fs, OkG f) ∧ (fs.map (·.name)).Nodup) ⟨[], [], [], _, _, _, _, _, _, _, _, _, _, rfl, k2, g2, f2, .nil, rfl, Nat.le_refl _, fun f m => absurd m List.not_mem_nil, List.nodup_nil⟩ ?_ ?_ ?_⟩
    · rintro i σ H' _ ⟨gs, fs, vs, z3, z4, z5, z6, z7, z8, z9, z10, z11, z12, rfl, k3, _⟩
      exact SqL.of (k3.keep _ _ (by simp) hl)
    · rintro i x σ H' hx ⟨gs, fs, vs, z3, z4, z5, z6, z7, z8, z9, z10, z11, z12, rfl, k3, g3, f3, d3, ha, hs3, hfo, hnd⟩
      have hi : i < xs.length := (List.getElem?_eq_some_iff.mp hx).1
      have hi2 : i < its.length := by omega
      have hvl : vs.length = fs.length := by rw [DpAll.length d3, List.length_map]
      obtain ⟨x', hx', hdx⟩ := DpAll.get hd (i := i) (d := its[i].enc) (by rw [List.getElem?_map, List.getElem?_eq_getElem hi2]; rfl)
      rw [hx] at hx'
      obtain rfl := Option.some.inj hx'
      have hoi := hok _ (List.getElem_mem hi2)
      rw [List.drop_eq_getElem_cons hi2] at ha
      generalize its[i] = it at hdx hoi ha
      cases it with
      | glo g =>
        rw [addI] at ha
        obtain ⟨qi, ui, rfl, hsqi, halli⟩ := Dp.tupOf (ds := [.str "global", .str g]) hdx
        obtain ⟨v, rfl, hv⟩ := dp2s halli
        obtain rfl := Dp.strOf hv
        refine ⟨_, _, rfl, k3.sqt hsqi, rfl, ?_⟩
        refine ⟨_, _, rfl, _, _, rfl, rfl, ?_⟩
        walk_at "rd"
        refine ⟨_, _, rfl, .inl (SqL.of g3), rfl, flat_strs _, ?_⟩
        walk_at "rd"
        refine iteB (fun h => ?_) (fun h => ?_)
        · rw [if_pos (in_of h)] at ha
          rw [← ha] at k
          walk_at "rd"
          refine ⟨szl (Nat.le_of_ble_eq_true rfl), fun t ht => ?_⟩
          exact k _ _ (k3.trans (Kp.new ht)) (Dp.new (by walk_at "dp") rfl ht)
        · rw [if_neg (notin_of h)] at ha
          walk_at "rd"
          refine ⟨.inl ⟨rfl, _, SqL.of g3⟩, ?_⟩
          walk_at "rd"
          refine ⟨_, _, _, rfl, rfl, g3, (by rw [List.length_map]; exact szt (by omega)), ?_⟩
          have kq : Kp [pg] H' (upd H' pg (.lst (gs.map V.str ++ [.str g]))) := Kp.put g3 nt_lst (by simp)
          refine ⟨gs ++ [g], fs, vs, _, _, _, _, _, _, _, _, _, _, rfl, k3.mine hpg, ?_, (upd_ne npf).trans f3, Dp.kps kq _ _ (fds_nl _) d3, ha, by rw [List.length_append]; show gs.length + 1 + fs.length ≤ i + 1; omega, hfo, hnd⟩
          rw [upd_same, List.map_append]
          rfl
      | fn f =>
        rw [addI] at ha
        obtain ⟨qi, ui, rfl, hsqi, halli⟩ := Dp.tupOf (ds := [.str "fn", f.enc]) hdx
        obtain ⟨v, rfl, hv⟩ := dp2s halli
        obtain ⟨q, q1, q2, ws, rfl, hsq, hq1, hq2, hws⟩ := fd_parts3 hv
        refine ⟨_, _, rfl, k3.sqt hsqi, rfl, ?_⟩
        refine ⟨_, _, rfl, _, _, rfl, rfl, ?_⟩
        walk_at "rd"
        refine ⟨_, _, _, _, rfl, rfl, k3.sqt hsq, atI_nat (j := 0) rfl, ?_⟩
        walk_at "rd"
        refine ⟨⟨_, SqL.of f3⟩, ?_⟩
        intro D hD
        refine lc_list (xs := vs) (fun j Hj => Kp [] H' Hj ∧ Hj D = some (.lst (((fs.take j).map (·.name)).map V.str))) ⟨Kp.new hD, upd_same⟩ ?_ ?_ ?_
        · rintro j Hj _ ⟨a1, a2⟩
          exact SqL.of (a1.keep _ _ (by simp) f3)
        · rintro j y Hj hy ⟨a1, a2⟩
          have hj : j < vs.length := (List.getElem?_eq_some_iff.mp hy).1
          have hj2 : j < fs.length := by omega
          obtain ⟨y', hy', hdy⟩ := DpAll.get d3 (i := j) (d := fs[j].enc) (by rw [List.getElem?_map, List.getElem?_eq_getElem hj2]; rfl)
          rw [hy] at hy'
          obtain rfl := Option.some.inj hy'
          obtain ⟨qy, qy1, qy2, wy, rfl, hsy, _⟩ := fd_parts3 hdy
          refine ⟨rfl, ?_⟩
          walk_at "rd"
          refine ⟨_, _, _, _, rfl, rfl, a1.sqt hsy, atI_nat (j := 0) rfl, ?_⟩
          refine ⟨_, a2, by rw [List.length_map, List.length_map, List.length_take]; exact szt (by omega), a1.mine hD, ?_⟩
          rw [upd_same, List.take_add_one, List.getElem?_eq_getElem hj2, List.map_append, List.map_append]
          rfl
        · rintro Hj ⟨a1, a2⟩
          rw [hvl, List.take_length] at a2
          have k4 := k3.trans a1
          have g4 := a1.keep _ _ (by simp) g3
          have f4 := a1.keep _ _ (by simp) f3
          have d4 := Dp.kps a1 _ _ (fds_nl _) d3
          walk_at "rd"
          refine ⟨_, _, rfl, .inl (SqL.of a2), rfl, flat_strs _, ?_⟩
          walk_at "rd"
          refine iteB (fun h => ?_) (fun h => ?_)
          · have hm : (fnOf fs f.name).isSome = true := by rw [fnOf_mem]; exact decide_eq_true (in_of h)
            rw [if_pos hm] at ha
            rw [← ha] at k
            walk_at "rd"
            refine ⟨_, _, _, _, rfl, rfl, k4.sqt hsq, atI_nat (j := 0) rfl, ?_⟩
            refine ⟨szl (Nat.le_of_ble_eq_true rfl), fun t ht => ?_⟩
            exact k _ _ (k4.trans (Kp.new ht)) (Dp.new (by walk_at "dp") rfl ht)
          · have hn := notin_of h
            have hm : ¬ (fnOf fs f.name).isSome = true := by rw [fnOf_mem, decide_eq_false hn]; exact Bool.false_ne_true
            rw [if_neg hm] at ha
            walk_at "rd"
            refine ⟨.inl ⟨rfl, _, SqL.of f4⟩, ?_⟩
            walk_at "rd"
            refine ⟨_, _, _, rfl, rfl, f4, szt (by omega), ?_⟩
            have kq : Kp [pf] Hj (upd Hj pf (.lst (vs ++ [.ref q]))) := Kp.put f4 nt_lst (by simp)
            refine ⟨gs, fs ++ [f], vs ++ [.ref q], _, _, _, _, _, _, _, _, _, _, rfl, k4.mine hpfH, (upd_ne npf.symm).trans g4, upd_same, ?_, ha, by rw [List.length_append]; show gs.length + (fs.length + 1) ≤ i + 1; omega, fun f' m => ?_, ?_⟩
            · rw [List.map_append]
              exact DpAll.snoc (Dp.kps kq _ _ (fds_nl _) d4) (Dp.kp kq _ _ (Fd.nl f) (Dp.kp k4 _ _ (Fd.nl f) hv))
            · rcases List.mem_append.mp m with m | m
              · exact hfo f' m
              · rw [List.mem_singleton.mp m]
                exact hoi
            · rw [List.map_append, List.nodup_append]
              refine ⟨hnd, by simp, fun x hx y hy => ?_⟩
              rw [List.map_singleton, List.mem_singleton] at hy
              subst hy
              exact fun z => hn (by rw [← z]; exact hx)
    · rintro σ H3 ⟨gs, fs, vs, z3, z4, z5, z6, z7, z8, z9, z10, z11, z12, rfl, k3, g3, f3, d3, ha, hs3, hfo, hnd⟩
      have hvl : vs.length = fs.length := by rw [DpAll.length d3, List.length_map]
      rw [hxl, List.drop_length] at ha
      rw [← ha, show addI gs fs [] = .ok (gs, fs) from rfl] at k
      dsimp only at k
      unfold lckAll at k
      walk_at "rd"
      intro cd hcd
      have ncf : pf ≠ cd := fun z => by rw [← z, f3] at hcd; cases hcd
      have k4 : Kp [] H (upd H3 cd (.dK [])) := k3.trans (Kp.new hcd)
      have kn : Kp [] H3 (upd H3 cd (.dK [])) := Kp.new hcd
      have g4 := kn.keep _ _ (by simp) g3
      have f4 := kn.keep _ _ (by simp) f3
      have d4 := Dp.kps kn _ _ (fds_nl _) d3
      have c4 : (upd H3 cd (.dK [])) cd = some (.dK []) := upd_same
      have hcdH := k3.fresh (by simp) hcd
      generalize upd H3 cd (.dK []) = H4 at k4 g4 f4 d4 c4
      walk_at "rd"
      refine ⟨⟨_, SqL.of f4⟩, for_list (xs := vs) (fun i σ H' => ∃ (kvs : List (Key × V)) (z3 z4 z6 z7 z8 z9 z10 z11 z12 : Option V), σ = [some (.ref l), some (.ref pg), some (.ref pf), z3, z4, some (.ref cd), z6, z7, z8, z9, z10, z11, z12] ∧ Kp [cd] H4 H' ∧ H' cd = some (.dK kvs) ∧ kvs.length = i ∧ ∀ n, valV kvs (.inr n) = (fnOf (fs.take i) n).map fun f => V.int (f.ps.length : Nat)) ⟨[], _, _, _, _, _, _, _, _, _, rfl, Kp.refl, c4, rfl, fun n => rfl⟩ ?_ ?_ ?_⟩
      · rintro i σ H' _ ⟨kvs, y3, y4, y6, y7, y8, y9, y10, y11, y12, rfl, k5, _⟩
        exact SqL.of (k5.keep _ _ (by simpa using ncf) f4)
      · rintro i x σ H' hx ⟨kvs, y3, y4, y6, y7, y8, y9, y10, y11, y12, rfl, k5, c5, kl5, v5⟩
        have hi : i < vs.length := (List.getElem?_eq_some_iff.mp hx).1
        have hi2 : i < fs.length := by omega
        obtain ⟨x', hx', hdx⟩ := DpAll.get d4 (i := i) (d := fs[i].enc) (by rw [List.getElem?_map, List.getElem?_eq_getElem hi2]; rfl)
        rw [hx] at hx'
        obtain rfl := Option.some.inj hx'
        obtain ⟨q, q1, q2, ws, rfl, hsq, hq1, hq2, hws⟩ := fd_parts3 hdx
        walk_at "rd"
        refine ⟨_, _, _, _, rfl, rfl, k5.sqt hsq, atI_nat (j := 1) rfl, ?_⟩
        refine ⟨_, _, rfl, .inr (k5.sqt hq1), ?_⟩
        rw [List.length_map]
        walk_at "rd"
        refine ⟨_, _, _, _, rfl, rfl, k5.sqt hsq, atI_nat (j := 0) rfl, ?_⟩
        refine ⟨_, _, rfl, DPut.k (k := .inr fs[i].name) c5 (szt (by omega)), ?_⟩
        have hnn : fnOf (fs.take i) fs[i].name = none := by
          cases hq : fnOf (fs.take i) fs[i].name with
          | none => rfl
          | some f2 =>
            exfalso
            have m1 := List.mem_of_find?_eq_some hq
            have m2 := of_decide_eq_true (List.find?_some (p := fun f : Fd => decide (f.name = fs[i].name)) hq)
            obtain ⟨j, hj, e⟩ := List.getElem_of_mem m1
            rw [List.length_take] at hj
            rw [List.getElem_take] at e
            have nd2 := List.getElem_inj (xs := fs.map (·.name)) (i := j) (j := i) (h₀ := by rw [List.length_map]; omega) (h₁ := by rw [List.length_map]; omega) hnd
            rw [List.getElem_map, List.getElem_map, e] at nd2
            have := nd2.mp m2
            omega
        have hvn : valV kvs (.inr fs[i].name) = none := by
          rw [v5, hnn]
          rfl
        have e1 : putK kvs (.inr fs[i].name) (.int (fs[i].ps.length : Nat)) = kvs ++ [(.inr fs[i].name, .int (fs[i].ps.length : Nat))] := by
          unfold putK
          rw [valV_any, hvn]
          rfl
        rw [e1]
        refine ⟨_, _, _, _, _, _, _, _, _, _, rfl, k5.trans (Kp.put c5 nt_dK (by simp)), upd_same, by rw [List.length_append, kl5]; rfl, fun n => ?_⟩
        rw [valV_snoc, List.take_add_one, List.getElem?_eq_getElem hi2]
        show _ = (fnOf (fs.take i ++ [fs[i]]) n).map _
        rw [fnOf_snoc, v5 n]
        by_cases hn : fs[i].name = n
        · rw [if_pos hn, if_pos (by rw [hn])]
          cases fnOf (fs.take i) n <;> rfl
        · rw [if_neg hn, if_neg (fun z => hn (Sum.inr.inj z))]
          cases fnOf (fs.take i) n <;> rfl
      · rintro σ H5 ⟨kvs, y3, y4, y6, y7, y8, y9, y10, y11, y12, rfl, k5, c5, kl5, v5⟩
        rw [hvl, List.take_length] at v5
        have ncg : pg ≠ cd := fun z => by rw [z, c4] at g4; cases g4
        have g5 := k5.keep _ _ (by simpa using ncg) g4
        have f5 := k5.keep _ _ (by simpa using ncf) f4
        have d5 := Dp.kps k5 _ _ (fds_nl _) d4
        replace k5 : Kp [] H H5 := Kp.ownM k4 (fun b m => by rw [List.mem_singleton.mp m]; exact hcdH) k5
        walk_at "rd"
        refine ⟨⟨_, SqL.of f5⟩, for_list (xs := vs) (fun i σ H' => ∃ (z3 z4 z6 z7 z8 z9 z10 z11 z12 : Option V), σ = [some (.ref l), some (.ref pg), some (.ref pf), z3, z4, some (.ref cd), z6, z7, z8, z9, z10, z11, z12] ∧ Kp [] H5 H' ∧ lckFs gs fs (fs.drop i) = lckFs gs fs fs) ⟨_, _, _, _, _, _, _, _, _, rfl, Kp.refl, rfl⟩ ?_ ?_ ?_⟩
        · rintro i σ H' _ ⟨x3, x4, x6, x7, x8, x9, x10, x11, x12, rfl, k6, _⟩
          exact SqL.of (k6.keep _ _ (by simp) f5)
        · rintro i x σ H' hx ⟨x3, x4, x6, x7, x8, x9, x10, x11, x12, rfl, k6, hck⟩
          have hi : i < vs.length := (List.getElem?_eq_some_iff.mp hx).1
          have hi2 : i < fs.length := by omega
          obtain ⟨x', hx', hdx⟩ := DpAll.get d5 (i := i) (d := fs[i].enc) (by rw [List.getElem?_map, List.getElem?_eq_getElem hi2]; rfl)
          rw [hx] at hx'
          obtain rfl := Option.some.inj hx'
          have hG := hfo _ (List.getElem_mem hi2)
          rw [List.drop_eq_getElem_cons hi2, lckFs] at hck
          generalize fs[i] = f at hdx hG hck
          obtain ⟨q, q1, q2, ws, rfl, hsq, hq1, hq2, hws⟩ := fd_parts3 hdx
          have hwl : ws.length = f.body.length := by rw [DpAll.length hws, encs_map, List.length_map]
          have hb4 := hG.len
          have hp3 := hG.ps
          refine ⟨_, _, rfl, k6.sqt hsq, rfl, ?_⟩
          refine ⟨_, _, rfl, _, _, rfl, _, _, rfl, rfl, ?_⟩
          walk_at "rd"
          refine ⟨_, f.ps, rfl, k6.sqt hq1, by omega, fun u1 H7 k7 d7 => ?_⟩
          unfold lckF at hck
          cases hdup : dup [] f.ps with
          | some y =>
            rw [hdup] at hck d7
            dsimp only at hck
            rw [← hck] at k
            obtain rfl := Dp.strOf d7
            walk_at "rd"
            refine ⟨_, f.ps, rfl, k7.sqt (k6.sqt hq1), by omega, fun u2 H8 k8 d8 => ?_⟩
            rw [hdup] at d8
            obtain rfl := Dp.strOf d8
            refine ⟨szl (Nat.le_of_ble_eq_true rfl), fun t ht => ?_⟩
            exact k _ _ ((((k5.trans k6).trans k7).trans k8).trans (Kp.new ht)) (Dp.new (by walk_at "dp") rfl ht)
          | none =>
            rw [hdup] at hck d7
            dsimp only at hck
            obtain rfl := Dp.nonOf d7
            have k57 := k6.trans k7
            walk_at "rd"
            refine ⟨_, _, rfl, .inr (k57.sqt hq1), fun p1 hp1 => ?_⟩
            have k8 : Kp [] H5 (upd H7 p1 (.lst (f.ps.map V.str))) := k57.trans (Kp.new hp1)
            have l8 : (upd H7 p1 (.lst (f.ps.map V.str))) p1 = some (.lst (f.ps.map V.str)) := upd_same
            generalize upd H7 p1 (.lst (f.ps.map V.str)) = H8 at k8 l8
            walk_at "rd"
            refine ⟨_, _, _, _, rfl, rfl, l8, k8.keep _ _ (by simp) g5, szl (by rw [List.length_map, List.length_map]; omega), fun p2 hp2 => ?_⟩
            have k9 : Kp [] H5 (upd H8 p2 (.lst (f.ps.map V.str ++ gs.map V.str))) := k8.trans (Kp.new hp2)
            have l9 : (upd H8 p2 (.lst (f.ps.map V.str ++ gs.map V.str))) p2 = some (.lst (f.ps.map V.str ++ gs.map V.str)) := upd_same
            generalize upd H8 p2 (.lst (f.ps.map V.str ++ gs.map V.str)) = H9 at k9 l9
            walk_at "rd"
            refine ⟨⟨_, k9.sqt hq2⟩, ?_⟩
            intro D hD
            refine lc_tup (xs := ws) (fun j Hj => Kp [] H9 Hj ∧ Hj D = some (.lst (((f.body.take j).filterMap asg3).map V.str))) ⟨Kp.new hD, upd_same⟩ ?_ ?_ ?_
            · rintro j Hj _ ⟨a1, a2⟩
              exact a1.sqt (k9.sqt hq2)
            · rintro j y Hj hy ⟨a1, a2⟩
              have hj : j < ws.length := (List.getElem?_eq_some_iff.mp hy).1
              have hj2 : j < f.body.length := by omega
              obtain ⟨y', hy', hdy⟩ := DpAll.get hws (i := j) (d := f.body[j].enc) (by rw [encs_map, List.getElem?_map, List.getElem?_eq_getElem hj2]; rfl)
              rw [hy] at hy'
              obtain rfl := Option.some.inj hy'
              have e2 : (f.body.take (j + 1)).filterMap asg3 = (f.body.take j).filterMap asg3 ++ (match asg3 f.body[j] with | none => [] | some x => [x]) := by
                rw [List.take_add_one, List.getElem?_eq_getElem hj2, List.filterMap_append]
                congr 1
                show List.filterMap asg3 [f.body[j]] = _
                rw [List.filterMap_cons]
                cases asg3 f.body[j] <;> rfl
              have hfl := List.length_filterMap_le asg3 (f.body.take j)
              rw [List.length_take] at hfl
              obtain ⟨d1, ds, henc⟩ := kind_enc f.body[j]
              have hdy0 := hdy
              rw [henc] at hdy0
              obtain ⟨qy, uy, rfl, hsy, hally⟩ := Dp.tupOf hdy0
              obtain ⟨v0, hv0, hz0⟩ := DpAll.get hally (i := 0) (d := .str (kind f.body[j])) rfl
              obtain ⟨v1, hv1, hz1⟩ := DpAll.get hally (i := 1) (d := d1) rfl
              obtain rfl := Dp.strOf hz0
              refine ⟨rfl, ?_⟩
              walk_at "rd"
              refine ⟨_, _, _, _, rfl, rfl, (k9.trans a1).sqt hsy, atI_nat (j := 0) hv0, ?_⟩
              walk_at "rd"
              refine ⟨szl (Nat.le_of_ble_eq_true rfl), fun p3 hp3' => ?_⟩
              have nD3 : D ≠ p3 := ne_of_none a2 hp3'
              have a3 : Kp [] H9 (upd Hj p3 (.tup [.str "new", .str "set", .str "call"])) := a1.trans (Kp.new hp3')
              have t3 : (upd Hj p3 (.tup [.str "new", .str "set", .str "call"])) p3 = some (.tup ((["new", "set", "call"] : List Str).map V.str)) := upd_same
              have l3 : (upd Hj p3 (.tup [.str "new", .str "set", .str "call"])) D = some (.lst (((f.body.take j).filterMap asg3).map V.str)) := (upd_ne nD3).trans a2
              generalize upd Hj p3 (.tup [.str "new", .str "set", .str "call"]) = Hk at a3 t3 l3
              walk_at "rd"
              refine ⟨_, _, rfl, .inr (SqT.of t3), rfl, flat_strs _, _, rfl, ?_⟩
              rw [show (if false = true then !inV (V.str (kind f.body[j])) ((["new", "set", "call"] : List Str).map V.str) else inV (V.str (kind f.body[j])) ((["new", "set", "call"] : List Str).map V.str)) = (asg3 f.body[j]).isSome from by rw [← asg3_kind, ← inV_strs]; rfl]
              cases ha3 : asg3 f.body[j] with
              | none =>
                rw [ha3] at e2
                refine iteF' rfl ⟨a3, ?_⟩
                rw [e2, List.append_nil]
                exact l3
              | some y =>
                rw [ha3] at e2
                obtain ⟨ds2, he2⟩ := asg3_enc ha3
                rw [henc] at he2
                injection he2 with he2
                injection he2 with _ he2
                injection he2 with he2 _
                subst he2
                obtain rfl := Dp.strOf hz1
                refine iteT' rfl ?_
                walk_at "rd"
                refine ⟨_, _, _, _, rfl, rfl, (k9.trans a3).sqt hsy, atI_nat (j := 1) hv1, ?_⟩
                refine ⟨_, l3, by rw [List.length_map]; exact szt (by omega), a3.mine hD, ?_⟩
                rw [upd_same, e2, List.map_append]
                rfl
            · rintro Hj ⟨a1, a2⟩
              rw [hwl, List.take_length] at a2
              have k10 := k9.trans a1
              have l10 := a1.keep _ _ (by simp) l9
              have hfl := List.length_filterMap_le asg3 f.body
              refine ⟨_, _, _, _, rfl, rfl, l10, a2, szl (by rw [List.length_append, List.length_map, List.length_map, List.length_map]; omega), fun p4 hp4 => ?_⟩
              have k11 : Kp [] H5 (upd Hj p4 (.lst ((f.ps.map V.str ++ gs.map V.str) ++ ((f.body.filterMap asg3).map V.str)))) := k10.trans (Kp.new hp4)
              have l11 : (upd Hj p4 (.lst ((f.ps.map V.str ++ gs.map V.str) ++ ((f.body.filterMap asg3).map V.str)))) p4 = some (.lst ((lkn gs f).map V.str)) := by
                rw [upd_same]
                unfold lkn
                rw [List.map_append, List.map_append]
              generalize upd Hj p4 (.lst ((f.ps.map V.str ++ gs.map V.str) ++ ((f.body.filterMap asg3).map V.str))) = H11 at k11 l11
              generalize lkn gs f = known at l11 hck
              walk_at "rd"
              refine ⟨⟨_, k11.sqt hq2⟩, for_tup (xs := ws) (fun j σ H' => ∃ (w11 w12 : Option V), σ = [some (.ref l), some (.ref pg), some (.ref pf), x3, x4, some (.ref cd), x6, some (.str f.name), some (.ref q1), some (.ref q2), some (.ref p4), w11, w12] ∧ Kp [] H11 H' ∧ lckB fs known (f.body.drop j) = lckB fs known f.body) ⟨_, _, rfl, Kp.refl, rfl⟩ ?_ ?_ ?_⟩
              · rintro j σ H' _ ⟨w11, w12, rfl, k12, _⟩
                exact k12.sqt (k11.sqt hq2)
              · rintro j y σ H' hy ⟨w11, w12, rfl, k12, hcb⟩
                have hj : j < ws.length := (List.getElem?_eq_some_iff.mp hy).1
                have hj2 : j < f.body.length := by omega
                obtain ⟨y', hy', hdy⟩ := DpAll.get hws (i := j) (d := f.body[j].enc) (by rw [encs_map, List.getElem?_map, List.getElem?_eq_getElem hj2]; rfl)
                rw [hy] at hy'
                obtain rfl := Option.some.inj hy'
                have hR := hG.st _ (List.getElem_mem hj2)
                rw [List.drop_eq_getElem_cons hj2, lckB] at hcb
                have k512 := k11.trans k12
                walk_at "rd"
                refine ⟨y, f.body[j], p4, known, cd, kvs, fs, rfl, Dp.kp k512 _ _ (Sm.nl _) hdy, hR, k12.keep _ _ (by simp) l11, k512.keep _ _ (by simp) c5, v5, fun u H13 k13 d13 => ?_⟩
                cases hS : lckS fs known f.body[j] with
                | none =>
                  rw [hS] at d13 hcb
                  obtain rfl := Dp.nonOf d13
                  walk_at "rd"
                  exact ⟨_, _, rfl, k12.trans k13, hcb⟩
                | some er =>
                  rw [hS] at d13 hcb
                  dsimp only at hcb
                  rw [← hcb] at hck
                  dsimp only at hck
                  rw [← hck] at k
                  have hne := enc_ne d13
                  walk_at "rd"
                  rw [decide_eq_false hne]
                  walk_at "rd"
                  exact k _ _ ((k5.trans k512).trans k13) d13
              · rintro σ H12 ⟨w11, w12, rfl, k12, hcb⟩
                rw [hwl, List.drop_length] at hcb
                rw [← hcb, show lckB fs known [] = none from rfl] at hck
                exact ⟨_, _, _, _, _, _, _, _, _, rfl, k11.trans k12, hck⟩
        · rintro σ H6 ⟨x3, x4, x6, x7, x8, x9, x10, x11, x12, rfl, k6, hck⟩
          rw [hvl, List.drop_length] at hck
          rw [← hck, show lckFs gs fs [] = none from rfl] at k
          dsimp only at k
          have hv := v5 "main"
          walk_at "rd"
          refine ⟨_, _, rfl, DGet.k (k := .inr "main") (k6.keep _ _ (by simp) c5), ?_⟩
          cases hm : fnOf fs "main" with
          | none =>
            rw [hm] at k hv
            rw [show valV kvs (.inr "main") = none from hv]
            walk_at "rd"
            refine ⟨szl (Nat.le_of_ble_eq_true rfl), fun t ht => ?_⟩
            exact k _ _ ((k5.trans k6).trans (Kp.new ht)) (Dp.new (by walk_at "dp") rfl ht)
          | some f =>
            rw [hm] at k hv
            rw [show valV kvs (.inr "main") = some (.int (f.ps.length : Nat)) from hv]
            walk_at "rd"
            exact k _ _ (k5.trans k6) .non
end
end K7


set_option Elab.async false
set_option linter.all false
set_option maxRecDepth 100000
set_option maxHeartbeats 4000000
namespace K7
open PySem PySem.Spec PyProof.Rows L2 He Hz Cm Lx Px Gx Wx
local macro_rules | `(tactic| walk_at "rd") => `(tactic| repeat (first | (refine ⟨_, rfl, ?_⟩) | (refine ⟨_, _, rfl, rfl, ?_⟩) | (refine ⟨rfl, ?_⟩) | (refine ⟨szl (by omega), ?_⟩) | (refine ⟨_, _, _, _, _, rfl, (by assumption), (by assumption), (by assumption), (by rfl), ?_⟩) | (refine ⟨_, _, rfl, Or.inl (by assumption), ?_⟩)))
local macro_rules | `(tactic| walk_at "dp") => `(tactic| (repeat' (first | exact DpAll.nil | apply DpAll.cons | exact Dp.str _ | exact Dp.int _ | exact Dp.non | exact Dp.bl _ | assumption)))
section
variable {P : Program} {w : World} {K : PySem.W.Frag} {mg : Str → Option Value} {base : Heap} {H H1 H' : Hp} {Q : VK} {E : XK}
def notBig : Er → Prop
  | .big _ => False
  | _ => True
def TOut (K : PySem.W.Frag) (H : Hp) (Q : VK) (nm : Str) : Except Er (List Itm) → Prop
  | .error e => notBig e ∧ ∀ u H', Kp [] H H' → Dp K H' u (encE e) → Q u H'
  | .ok its => if nm = "parse" then ∀ u H', Kp [] H H' → Dp K H' u (.list (its.map Itm.enc)) → Q u H' else
    its.all plI = true ∧ its.length ≤ 40000 ∧ match build its with
    | .error e => notBig e ∧ ∀ u H', Kp [] H H' → Dp K H' u (encE e) → Q u H'
    | .ok (gs, fs) => ∀ u H', Kp [] H H' → Dp K H' u (.tuple [.str "program", .list (gs.map .str), .list (fs.map Fd.enc)]) → Q u H'
def spTold : Sp := fun vs H Q _ => ∃ x nm f res, vs = [.str x, .str nm] ∧ (nm = "parse" ∨ nm = "program") ∧ x.length ≤ 100000 ∧ f ≤ 90000 ∧ prs f x = some res ∧ TOut K H Q nm res
theorem ok_law_told (T : Tx P K mg) : OkF P w K mg base CX0 36 a__law_told ["text", "name"] (spTold (K := K)) := by
  have nd := sc__law_told.nd
  have cl := T.c_Program
  have F_parse := ok_parse (P := P) (w := w) (base := base) T
  have F_program_of := ok_program_of (P := P) (w := w) (base := base) T
  have F_Program_globals_list := ok_globals_list (P := P) (w := w) (base := base) T
  have F_Program_functions := ok_functions (P := P) (w := w) (base := base) T
  refine T.f__law_told.ok (CX := CX0) sc__law_told (fun vs H Q E h => ?_) (fun cdv A outer s H vs Q E hr h => ?_)
  · obtain ⟨_, _, _, _, rfl, _⟩ := h
    rfl
  · obtain ⟨x, nm, f, res, rfl, hnm, hx, hf, hres, k⟩ := h
    refine ⟨_, PSs.nox (pss_one (ps_try_as (i := 3) (Wout := fun _ _ _ _ => False) rfl rfl nd rfl rfl ⟨rfl, by decide, Or.inl T.g_Refused⟩ takes0 (fun W pn xe tk _ => (pss_cons (ps_if (pt_cmpR op_eq (pv 1) pe_str (nomark _)) (pss_one (ps_ret (by exact (pe_callS F_parse (hr.mono (by decide)) rfl T.g_parse T.k_parse T.b_parse (fun σ => passAt tk σ) (pa_cons (pv 0) pa_nil))))) pss_nil)
      (pss_cons (ps_set (i := 2) nd rfl (Or.inl rfl) (by exact (pe_callS F_program_of (hr.mono (by decide)) rfl T.g_program_of T.k_program_of T.b_program_of (fun σ => passAt tk σ) (pa_cons (pv 0) pa_nil))))
      (pss_one (ps_ret (pe_tup (pa_cons pe_str (pa_cons (pe_meth0 (pv 2) T.c_Program T.m_Program_globals_list F_Program_globals_list (hr.mono (by decide)) T.b_Program_globals_list .nil pass0) (pa_cons (pe_meth0 (pv 2) T.c_Program T.m_Program_functions F_Program_functions (hr.mono (by decide)) T.b_Program_functions .nil pass0) pa_nil))))))))) (fun a oe cls d pn hz hf => (pss_cons (ps_if (pt_not (pt_val (pe_callB (show CallR _ _ (Iz.rIsD K a cls d) from Iz.call_isD hz hf) (by rfl) T.n_isinstance (by decide +kernel) (pa_cons (pv 3) (pa_cons (pe_bty (n := "ValueError") T.n_ValueError (by decide +kernel)) pa_nil))) (fun _ => rfl))) (pss_one (ps_ret pe_str)) pss_nil)
      (pss_cons (ps_if (pt_val (pe_callB (show CallR _ _ (Iz.rIsD K a cls d) from Iz.call_isD hz hf) (by rfl) T.n_isinstance (by decide +kernel) (pa_cons (pv 3) (pa_cons (pe_gref T.g_Malformed) pa_nil))) (fun _ => rfl)) (pss_one (ps_ret (pe_tup (pa_cons pe_str (pa_cons (by exact (pe_xf T.xf_Malformed T.x_Malformed.noN hz hf (pv 3))) pa_nil))))) pss_nil)
      (pss_cons (ps_if (pt_val (pe_callB (show CallR _ _ (Iz.rIsD K a cls d) from Iz.call_isD hz hf) (by rfl) T.n_isinstance (by decide +kernel) (pa_cons (pv 3) (pa_cons (pe_gref T.g_Clashing) pa_nil))) (fun _ => rfl)) (pss_one (ps_ret (pe_tup (pa_cons pe_str (pa_cons (by exact (pe_xf T.xf_Clashing T.x_Clashing.noN hz hf (pv 3))) pa_nil))))) pss_nil)
      (pss_cons (ps_if (pt_val (pe_callB (show CallR _ _ (Iz.rIsD K a cls d) from Iz.call_isD hz hf) (by rfl) T.n_isinstance (by decide +kernel) (pa_cons (pv 3) (pa_cons (pe_gref T.g_Unknown) pa_nil))) (fun _ => rfl)) (pss_one (ps_ret (pe_tup (pa_cons pe_str (pa_cons (by exact (pe_xf T.xf_Unknown T.x_Unknown.noN hz hf (pv 3))) pa_nil))))) pss_nil)
      (pss_cons (ps_if (pt_val (pe_callB (show CallR _ _ (Iz.rIsD K a cls d) from Iz.call_isD hz hf) (by rfl) T.n_isinstance (by decide +kernel) (pa_cons (pv 3) (pa_cons (pe_gref T.g_Misused) pa_nil))) (fun _ => rfl)) (pss_one (ps_ret (pe_tup (pa_cons pe_str (pa_cons (by exact (pe_xf T.xf_Misused T.x_Misused.noN hz hf (pv 3))) pa_nil))))) pss_nil)
      (pss_one (ps_ret pe_str)))))))))), ?_⟩
    walk_at "rd"
    rcases hnm with rfl | rfl
    · walk_at "rd"
      refine ⟨x, f, res, rfl, hx, hf, hres, ?_⟩
      cases res with
      | error er =>
        have kq : notBig er ∧ ∀ u H', Kp [] H H' → Dp K H' u (encE er) → Q u H' := k
        obtain ⟨nb, kE⟩ := kq
        intro d H' kk hd
        cases er with
        | big z => exact nb.elim
        | mal n =>
          refine ⟨true, T.xm_Malformed_Refused, fun _ a ha => ?_, fun q => Bool.noConfusion q⟩
          walk_at "rd"
          refine ⟨_, _, _, _, d, _, rfl, rfl, Iz.icB_ok T.ic_Malformed_, fun u h => h, Iz.isB_ok T.is_Malformed_VE, rfl, hd, ?_⟩
          walk_at "rd"
          walk_at "rd"
          refine ⟨_, _, _, _, d, _, rfl, rfl, Iz.icB_ok T.ic_Malformed_, fun u h => h, Iz.isB_ok T.is_Malformed_Malformed, rfl, hd, ?_⟩
          walk_at "rd"
          refine ⟨d, _, _, rfl, hd, rfl, ?_⟩
          refine ⟨szl (Nat.le_of_ble_eq_true rfl), fun p hp => ?_⟩
          exact kE _ _ (kk.trans (Kp.new hp)) (Dp.new (by walk_at "dp") rfl hp)
        | cla z =>
          refine ⟨true, T.xm_Clashing_Refused, fun _ a ha => ?_, fun q => Bool.noConfusion q⟩
          walk_at "rd"
          refine ⟨_, _, _, _, d, _, rfl, rfl, Iz.icB_ok T.ic_Clashing_, fun u h => h, Iz.isB_ok T.is_Clashing_VE, rfl, hd, ?_⟩
          walk_at "rd"
          walk_at "rd"
          refine ⟨_, _, _, _, d, _, rfl, rfl, Iz.icB_ok T.ic_Clashing_, fun u h => h, Iz.isB_ok T.is_Clashing_Malformed, rfl, hd, ?_⟩
          walk_at "rd"
          walk_at "rd"
          refine ⟨_, _, _, _, d, _, rfl, rfl, Iz.icB_ok T.ic_Clashing_, fun u h => h, Iz.isB_ok T.is_Clashing_Clashing, rfl, hd, ?_⟩
          walk_at "rd"
          refine ⟨d, _, _, rfl, hd, rfl, ?_⟩
          refine ⟨szl (Nat.le_of_ble_eq_true rfl), fun p hp => ?_⟩
          exact kE _ _ (kk.trans (Kp.new hp)) (Dp.new (by walk_at "dp") rfl hp)
        | unk z =>
          refine ⟨true, T.xm_Unknown_Refused, fun _ a ha => ?_, fun q => Bool.noConfusion q⟩
          walk_at "rd"
          refine ⟨_, _, _, _, d, _, rfl, rfl, Iz.icB_ok T.ic_Unknown_, fun u h => h, Iz.isB_ok T.is_Unknown_VE, rfl, hd, ?_⟩
          walk_at "rd"
          walk_at "rd"
          refine ⟨_, _, _, _, d, _, rfl, rfl, Iz.icB_ok T.ic_Unknown_, fun u h => h, Iz.isB_ok T.is_Unknown_Malformed, rfl, hd, ?_⟩
          walk_at "rd"
          walk_at "rd"
          refine ⟨_, _, _, _, d, _, rfl, rfl, Iz.icB_ok T.ic_Unknown_, fun u h => h, Iz.isB_ok T.is_Unknown_Clashing, rfl, hd, ?_⟩
          walk_at "rd"
          walk_at "rd"
          refine ⟨_, _, _, _, d, _, rfl, rfl, Iz.icB_ok T.ic_Unknown_, fun u h => h, Iz.isB_ok T.is_Unknown_Unknown, rfl, hd, ?_⟩
          walk_at "rd"
          refine ⟨d, _, _, rfl, hd, rfl, ?_⟩
          refine ⟨szl (Nat.le_of_ble_eq_true rfl), fun p hp => ?_⟩
          exact kE _ _ (kk.trans (Kp.new hp)) (Dp.new (by walk_at "dp") rfl hp)
        | mis z =>
          refine ⟨true, T.xm_Misused_Refused, fun _ a ha => ?_, fun q => Bool.noConfusion q⟩
          walk_at "rd"
          refine ⟨_, _, _, _, d, _, rfl, rfl, Iz.icB_ok T.ic_Misused_, fun u h => h, Iz.isB_ok T.is_Misused_VE, rfl, hd, ?_⟩
          walk_at "rd"
          walk_at "rd"
          refine ⟨_, _, _, _, d, _, rfl, rfl, Iz.icB_ok T.ic_Misused_, fun u h => h, Iz.isB_ok T.is_Misused_Malformed, rfl, hd, ?_⟩
          walk_at "rd"
          walk_at "rd"
          refine ⟨_, _, _, _, d, _, rfl, rfl, Iz.icB_ok T.ic_Misused_, fun u h => h, Iz.isB_ok T.is_Misused_Clashing, rfl, hd, ?_⟩
          walk_at "rd"
          walk_at "rd"
          refine ⟨_, _, _, _, d, _, rfl, rfl, Iz.icB_ok T.ic_Misused_, fun u h => h, Iz.isB_ok T.is_Misused_Unknown, rfl, hd, ?_⟩
          walk_at "rd"
          walk_at "rd"
          refine ⟨_, _, _, _, d, _, rfl, rfl, Iz.icB_ok T.ic_Misused_, fun u h => h, Iz.isB_ok T.is_Misused_Misused, rfl, hd, ?_⟩
          walk_at "rd"
          refine ⟨d, _, _, rfl, hd, rfl, ?_⟩
          refine ⟨szl (Nat.le_of_ble_eq_true rfl), fun p hp => ?_⟩
          exact kE _ _ (kk.trans (Kp.new hp)) (Dp.new (by walk_at "dp") rfl hp)
      | ok its =>
        have kq : ∀ u H', Kp [] H H' → Dp K H' u (.list (its.map Itm.enc)) → Q u H' := by
          unfold TOut at k
          dsimp only at k
          rw [if_pos rfl] at k
          exact k
        intro p xs H' hp kk hpx hd
        exact kq _ _ kk (.lst (SqL.of hpx) hd)
    · walk_at "rd"
      refine ⟨x, f, res, rfl, hx, hf, hres, ?_⟩
      cases res with
      | error er =>
        have kq : notBig er ∧ ∀ u H', Kp [] H H' → Dp K H' u (encE er) → Q u H' := k
        obtain ⟨nb, kE⟩ := kq
        intro d H' kk hd
        cases er with
        | big z => exact nb.elim
        | mal n =>
          refine ⟨true, T.xm_Malformed_Refused, fun _ a ha => ?_, fun q => Bool.noConfusion q⟩
          walk_at "rd"
          refine ⟨_, _, _, _, d, _, rfl, rfl, Iz.icB_ok T.ic_Malformed_, fun u h => h, Iz.isB_ok T.is_Malformed_VE, rfl, hd, ?_⟩
          walk_at "rd"
          walk_at "rd"
          refine ⟨_, _, _, _, d, _, rfl, rfl, Iz.icB_ok T.ic_Malformed_, fun u h => h, Iz.isB_ok T.is_Malformed_Malformed, rfl, hd, ?_⟩
          walk_at "rd"
          refine ⟨d, _, _, rfl, hd, rfl, ?_⟩
          refine ⟨szl (Nat.le_of_ble_eq_true rfl), fun p hp => ?_⟩
          exact kE _ _ (kk.trans (Kp.new hp)) (Dp.new (by walk_at "dp") rfl hp)
        | cla z =>
          refine ⟨true, T.xm_Clashing_Refused, fun _ a ha => ?_, fun q => Bool.noConfusion q⟩
          walk_at "rd"
          refine ⟨_, _, _, _, d, _, rfl, rfl, Iz.icB_ok T.ic_Clashing_, fun u h => h, Iz.isB_ok T.is_Clashing_VE, rfl, hd, ?_⟩
          walk_at "rd"
          walk_at "rd"
          refine ⟨_, _, _, _, d, _, rfl, rfl, Iz.icB_ok T.ic_Clashing_, fun u h => h, Iz.isB_ok T.is_Clashing_Malformed, rfl, hd, ?_⟩
          walk_at "rd"
          walk_at "rd"
          refine ⟨_, _, _, _, d, _, rfl, rfl, Iz.icB_ok T.ic_Clashing_, fun u h => h, Iz.isB_ok T.is_Clashing_Clashing, rfl, hd, ?_⟩
          walk_at "rd"
          refine ⟨d, _, _, rfl, hd, rfl, ?_⟩
          refine ⟨szl (Nat.le_of_ble_eq_true rfl), fun p hp => ?_⟩
          exact kE _ _ (kk.trans (Kp.new hp)) (Dp.new (by walk_at "dp") rfl hp)
        | unk z =>
          refine ⟨true, T.xm_Unknown_Refused, fun _ a ha => ?_, fun q => Bool.noConfusion q⟩
          walk_at "rd"
          refine ⟨_, _, _, _, d, _, rfl, rfl, Iz.icB_ok T.ic_Unknown_, fun u h => h, Iz.isB_ok T.is_Unknown_VE, rfl, hd, ?_⟩
          walk_at "rd"
          walk_at "rd"
          refine ⟨_, _, _, _, d, _, rfl, rfl, Iz.icB_ok T.ic_Unknown_, fun u h => h, Iz.isB_ok T.is_Unknown_Malformed, rfl, hd, ?_⟩
          walk_at "rd"
          walk_at "rd"
          refine ⟨_, _, _, _, d, _, rfl, rfl, Iz.icB_ok T.ic_Unknown_, fun u h => h, Iz.isB_ok T.is_Unknown_Clashing, rfl, hd, ?_⟩
          walk_at "rd"
          walk_at "rd"
          refine ⟨_, _, _, _, d, _, rfl, rfl, Iz.icB_ok T.ic_Unknown_, fun u h => h, Iz.isB_ok T.is_Unknown_Unknown, rfl, hd, ?_⟩
          walk_at "rd"
          refine ⟨d, _, _, rfl, hd, rfl, ?_⟩
          refine ⟨szl (Nat.le_of_ble_eq_true rfl), fun p hp => ?_⟩
          exact kE _ _ (kk.trans (Kp.new hp)) (Dp.new (by walk_at "dp") rfl hp)
        | mis z =>
          refine ⟨true, T.xm_Misused_Refused, fun _ a ha => ?_, fun q => Bool.noConfusion q⟩
          walk_at "rd"
          refine ⟨_, _, _, _, d, _, rfl, rfl, Iz.icB_ok T.ic_Misused_, fun u h => h, Iz.isB_ok T.is_Misused_VE, rfl, hd, ?_⟩
          walk_at "rd"
          walk_at "rd"
          refine ⟨_, _, _, _, d, _, rfl, rfl, Iz.icB_ok T.ic_Misused_, fun u h => h, Iz.isB_ok T.is_Misused_Malformed, rfl, hd, ?_⟩
          walk_at "rd"
          walk_at "rd"
          refine ⟨_, _, _, _, d, _, rfl, rfl, Iz.icB_ok T.ic_Misused_, fun u h => h, Iz.isB_ok T.is_Misused_Clashing, rfl, hd, ?_⟩
          walk_at "rd"
          walk_at "rd"
          refine ⟨_, _, _, _, d, _, rfl, rfl, Iz.icB_ok T.ic_Misused_, fun u h => h, Iz.isB_ok T.is_Misused_Unknown, rfl, hd, ?_⟩
          walk_at "rd"
          walk_at "rd"
          refine ⟨_, _, _, _, d, _, rfl, rfl, Iz.icB_ok T.ic_Misused_, fun u h => h, Iz.isB_ok T.is_Misused_Misused, rfl, hd, ?_⟩
          walk_at "rd"
          refine ⟨d, _, _, rfl, hd, rfl, ?_⟩
          refine ⟨szl (Nat.le_of_ble_eq_true rfl), fun p hp => ?_⟩
          exact kE _ _ (kk.trans (Kp.new hp)) (Dp.new (by walk_at "dp") rfl hp)
      | ok its =>
        unfold TOut at k
        dsimp only at k
        rw [if_neg (show ¬ (("program" : Str) = "parse") by decide +kernel)] at k
        obtain ⟨k1, k2, k3⟩ := k
        refine ⟨k1, k2, ?_⟩
        cases hb : build its with
        | error er =>
          rw [hb] at k3
          have kq : notBig er ∧ ∀ u H', Kp [] H H' → Dp K H' u (encE er) → Q u H' := k3
          obtain ⟨nb, kE⟩ := kq
          intro d H' kk hd
          cases er with
          | big z => exact nb.elim
          | mal n =>
            refine ⟨true, T.xm_Malformed_Refused, fun _ a ha => ?_, fun q => Bool.noConfusion q⟩
            walk_at "rd"
            refine ⟨_, _, _, _, d, _, rfl, rfl, Iz.icB_ok T.ic_Malformed_, fun u h => h, Iz.isB_ok T.is_Malformed_VE, rfl, hd, ?_⟩
            walk_at "rd"
            walk_at "rd"
            refine ⟨_, _, _, _, d, _, rfl, rfl, Iz.icB_ok T.ic_Malformed_, fun u h => h, Iz.isB_ok T.is_Malformed_Malformed, rfl, hd, ?_⟩
            walk_at "rd"
            refine ⟨d, _, _, rfl, hd, rfl, ?_⟩
            refine ⟨szl (Nat.le_of_ble_eq_true rfl), fun p hp => ?_⟩
            exact kE _ _ (kk.trans (Kp.new hp)) (Dp.new (by walk_at "dp") rfl hp)
          | cla z =>
            refine ⟨true, T.xm_Clashing_Refused, fun _ a ha => ?_, fun q => Bool.noConfusion q⟩
            walk_at "rd"
            refine ⟨_, _, _, _, d, _, rfl, rfl, Iz.icB_ok T.ic_Clashing_, fun u h => h, Iz.isB_ok T.is_Clashing_VE, rfl, hd, ?_⟩
            walk_at "rd"
            walk_at "rd"
            refine ⟨_, _, _, _, d, _, rfl, rfl, Iz.icB_ok T.ic_Clashing_, fun u h => h, Iz.isB_ok T.is_Clashing_Malformed, rfl, hd, ?_⟩
            walk_at "rd"
            walk_at "rd"
            refine ⟨_, _, _, _, d, _, rfl, rfl, Iz.icB_ok T.ic_Clashing_, fun u h => h, Iz.isB_ok T.is_Clashing_Clashing, rfl, hd, ?_⟩
            walk_at "rd"
            refine ⟨d, _, _, rfl, hd, rfl, ?_⟩
            refine ⟨szl (Nat.le_of_ble_eq_true rfl), fun p hp => ?_⟩
            exact kE _ _ (kk.trans (Kp.new hp)) (Dp.new (by walk_at "dp") rfl hp)
          | unk z =>
            refine ⟨true, T.xm_Unknown_Refused, fun _ a ha => ?_, fun q => Bool.noConfusion q⟩
            walk_at "rd"
            refine ⟨_, _, _, _, d, _, rfl, rfl, Iz.icB_ok T.ic_Unknown_, fun u h => h, Iz.isB_ok T.is_Unknown_VE, rfl, hd, ?_⟩
            walk_at "rd"
            walk_at "rd"
            refine ⟨_, _, _, _, d, _, rfl, rfl, Iz.icB_ok T.ic_Unknown_, fun u h => h, Iz.isB_ok T.is_Unknown_Malformed, rfl, hd, ?_⟩
            walk_at "rd"
            walk_at "rd"
            refine ⟨_, _, _, _, d, _, rfl, rfl, Iz.icB_ok T.ic_Unknown_, fun u h => h, Iz.isB_ok T.is_Unknown_Clashing, rfl, hd, ?_⟩
            walk_at "rd"
            walk_at "rd"
            refine ⟨_, _, _, _, d, _, rfl, rfl, Iz.icB_ok T.ic_Unknown_, fun u h => h, Iz.isB_ok T.is_Unknown_Unknown, rfl, hd, ?_⟩
            walk_at "rd"
            refine ⟨d, _, _, rfl, hd, rfl, ?_⟩
            refine ⟨szl (Nat.le_of_ble_eq_true rfl), fun p hp => ?_⟩
            exact kE _ _ (kk.trans (Kp.new hp)) (Dp.new (by walk_at "dp") rfl hp)
          | mis z =>
            refine ⟨true, T.xm_Misused_Refused, fun _ a ha => ?_, fun q => Bool.noConfusion q⟩
            walk_at "rd"
            refine ⟨_, _, _, _, d, _, rfl, rfl, Iz.icB_ok T.ic_Misused_, fun u h => h, Iz.isB_ok T.is_Misused_VE, rfl, hd, ?_⟩
            walk_at "rd"
            walk_at "rd"
            refine ⟨_, _, _, _, d, _, rfl, rfl, Iz.icB_ok T.ic_Misused_, fun u h => h, Iz.isB_ok T.is_Misused_Malformed, rfl, hd, ?_⟩
            walk_at "rd"
            walk_at "rd"
            refine ⟨_, _, _, _, d, _, rfl, rfl, Iz.icB_ok T.ic_Misused_, fun u h => h, Iz.isB_ok T.is_Misused_Clashing, rfl, hd, ?_⟩
            walk_at "rd"
            walk_at "rd"
            refine ⟨_, _, _, _, d, _, rfl, rfl, Iz.icB_ok T.ic_Misused_, fun u h => h, Iz.isB_ok T.is_Misused_Unknown, rfl, hd, ?_⟩
            walk_at "rd"
            walk_at "rd"
            refine ⟨_, _, _, _, d, _, rfl, rfl, Iz.icB_ok T.ic_Misused_, fun u h => h, Iz.isB_ok T.is_Misused_Misused, rfl, hd, ?_⟩
            walk_at "rd"
            refine ⟨d, _, _, rfl, hd, rfl, ?_⟩
            refine ⟨szl (Nat.le_of_ble_eq_true rfl), fun p hp => ?_⟩
            exact kE _ _ (kk.trans (Kp.new hp)) (Dp.new (by walk_at "dp") rfl hp)
        | ok z =>
          obtain ⟨gs, fs⟩ := z
          rw [hb] at k3
          dsimp only at k3
          intro p H1 kp hP
          have hPx := hP
          obtain ⟨dx, lg, df, kvs, R⟩ := hPx
          walk_at "rd"
          refine ⟨_, _, _, rfl, R.obj, rfl, ?_⟩
          refine ⟨p, gs, fs, rfl, hP, fun l1 xs1 H2 hl1 kk1 h1 d1 => ?_⟩
          have hP2 := hP.kp kk1
          have hPx := hP2
          obtain ⟨dx, lg, df, kvs, R⟩ := hPx
          walk_at "rd"
          refine ⟨_, _, _, rfl, R.obj, rfl, ?_⟩
          refine ⟨p, gs, fs, rfl, hP2, fun l2 xs2 H3 hl2 kk2 h2 d2 => ?_⟩
          have h13 := kk2.keep _ _ (by simp) h1
          have d13 := Dp.kps kk2 _ _ (strs_nl gs) d1
          walk_at "rd"
          refine ⟨szl (Nat.le_of_ble_eq_true rfl), fun t ht => ?_⟩
          have kn : Kp [] H3 (upd H3 t (.tup [.str "program", .ref l1, .ref l2])) := Kp.new ht
          refine k3 _ _ (((kp.trans kk1).trans kk2).trans kn) (.tup (SqT.of upd_same) (.cons (.str _) (.cons ?_ (.cons ?_ .nil))))
          · exact .lst (SqL.of (kn.keep _ _ (by simp) h13)) (Dp.kps kn _ _ (strs_nl gs) d13)
          · exact .lst (SqL.of (kn.keep _ _ (by simp) h2)) (Dp.kps kn _ _ (fds_nl fs) d2)
end
end K7


set_option Elab.async false
set_option linter.all false
set_option maxRecDepth 100000
set_option maxHeartbeats 4000000
/-! plain: shapes, the law's check is the program's -/
namespace Pa
open PySem Lx Px Gx Wx
/-! ### shapes -/
def Sok (n : Nat) (d : PyData) : Prop := d.canLay0 = true ∧ d.depth ≤ n
theorem Sok.mono {n m : Nat} {d : PyData} (h : Sok n d) (l : n ≤ m) : Sok m d := ⟨h.1, Nat.le_trans h.2 l⟩
theorem Sok.str {x : Str} (h : PyData.strOk x = true) : Sok 0 (.str x) := ⟨h, Nat.le_refl _⟩
theorem Sok.int {i : Int} : Sok 0 (.int i) := ⟨rfl, Nat.le_refl _⟩
theorem sok_all {n : Nat} : ∀ {ds : List PyData}, (∀ d ∈ ds, Sok n d) → PyData.canLayAll0 ds = true ∧ PyData.depthAll ds ≤ n
  | [], _ => ⟨rfl, Nat.zero_le _⟩
  | d :: ds, h => by
    obtain ⟨a1, a2⟩ := h d List.mem_cons_self
    obtain ⟨b1, b2⟩ := sok_all fun x m => h x (List.mem_cons_of_mem _ m)
    refine ⟨?_, Nat.max_le.mpr ⟨a2, b2⟩⟩
    show (d.canLay0 && PyData.canLayAll0 ds) = true
    rw [a1, b1]
    rfl
theorem Sok.tup {n : Nat} {ds : List PyData} (h : ∀ d ∈ ds, Sok n d) : Sok (n + 1) (.tuple ds) := ⟨(sok_all h).1, Nat.succ_le_succ (sok_all h).2⟩
theorem Sok.lst {n : Nat} {ds : List PyData} (h : ∀ d ∈ ds, Sok n d) : Sok (n + 1) (.list ds) := ⟨(sok_all h).1, Nat.succ_le_succ (sok_all h).2⟩
theorem Sok.shaped {n : Nat} {d : PyData} (h : Sok n d) (l : n ≤ 64) : SeqAt.shaped d = true := by
  unfold SeqAt.shaped
  rw [h.1, decide_eq_true (Nat.le_trans h.2 l)]
  rfl
theorem Sok.refl {n : Nat} {d : PyData} (h : Sok n d) : PyData.eqv d d = true := SeqAt.eqv_refl d h.1
theorem mem2 {α : Type} {a b : α} {p : α → Prop} (ha : p a) (hb : p b) : ∀ x ∈ [a, b], p x := by
  intro x m
  rcases List.mem_cons.mp m with rfl | m
  · exact ha
  · rw [List.mem_singleton.mp m]
    exact hb
theorem mem_cons_all {α : Type} {a : α} {l : List α} {p : α → Prop} (ha : p a) (hl : ∀ x ∈ l, p x) : ∀ x ∈ a :: l, p x := by
  intro x m
  rcases List.mem_cons.mp m with rfl | m
  · exact ha
  · exact hl x m
theorem nil_all {α : Type} {p : α → Prop} : ∀ x ∈ ([] : List α), p x := fun x m => absurd m List.not_mem_nil
theorem sokA (L : List Str) (h : L.all PyData.strOk = true) {x : Str} (m : x ∈ L) : PyData.strOk x = true := List.all_eq_true.mp h x m
def AA : List Str := A2 ++ (A7 ++ (A5 ++ (A6 ++ (A3 ++ (AH ++ (["count"] : List Str))))))
theorem AA_ok : AA.all PyData.strOk = true := by decide +kernel
theorem in2 {x : Str} (m : x ∈ A2) : x ∈ AA := List.mem_append_left _ m
theorem in7 {x : Str} (m : x ∈ A7) : x ∈ AA := List.mem_append_right _ (List.mem_append_left _ m)
theorem in5 {x : Str} (m : x ∈ A5) : x ∈ AA := List.mem_append_right _ (List.mem_append_right _ (List.mem_append_left _ m))
theorem in6 {x : Str} (m : x ∈ A6) : x ∈ AA := List.mem_append_right _ (List.mem_append_right _ (List.mem_append_right _ (List.mem_append_left _ m)))
theorem in3 {x : Str} (m : x ∈ A3) : x ∈ AA := List.mem_append_right _ (List.mem_append_right _ (List.mem_append_right _ (List.mem_append_right _ (List.mem_append_left _ m))))
theorem inH {x : Str} (m : x ∈ AH) : x ∈ AA := List.mem_append_right _ (List.mem_append_right _ (List.mem_append_right _ (List.mem_append_right _ (List.mem_append_right _ (List.mem_append_left _ m)))))
theorem aok {x : Str} (m : x ∈ AA) : Sok 0 (.str x) := .str (sokA AA AA_ok m)
theorem sok_c (x : Str) (h : PyData.strOk x = true) {n : Nat} : Sok n (.str x) := (Sok.str h).mono (Nat.zero_le _)
theorem sok_nm {v : Str} (m : v ∈ AA) : Sok 1 (Vl.nm v).enc := .tup (mem2 (sok_c _ (by decide +kernel)) (aok m))
theorem sok_s {hs : List (Str × Nat)} {k : Nat} {s : Sm} (hh : OkHs hs) (h : OkS hs k s) : Sok 3 s.enc := by
  cases h with
  | new x hx => exact (Sok.tup (n := 0) (mem_cons_all (sok_c _ (by decide +kernel)) (mem2 (aok (in2 hx)) .int))).mono (by omega)
  | set x v hx hv => exact (Sok.tup (n := 1) (mem_cons_all (sok_c _ (by decide +kernel)) (mem_cons_all ((aok (in2 hx)).mono (by omega)) (mem2 (sok_nm (in7 hv)) (Sok.int.mono (by omega)))))).mono (by omega)
  | out v hv => exact (Sok.tup (n := 0) (mem_cons_all (sok_c _ (by decide +kernel)) (mem2 (aok (in7 hv)) .int))).mono (by omega)
  | ret v hv => exact (Sok.tup (n := 1) (mem_cons_all (sok_c _ (by decide +kernel)) (mem2 (sok_nm (in7 hv)) (Sok.int.mono (by omega))))).mono (by omega)
  | call x g c us hx hg hu hl =>
    refine Sok.tup (n := 2) (mem_cons_all (sok_c _ (by decide +kernel)) (mem_cons_all ((aok (in2 hx)).mono (by omega)) (mem_cons_all ((aok (inH (hh.2 _ hg).1)).mono (by omega)) (mem2 (Sok.tup (n := 1) fun d m => ?_) (Sok.int.mono (by omega))))))
    rw [List.map_map] at m
    obtain ⟨u, hu2, rfl⟩ := List.mem_map.mp m
    exact sok_nm (in5 (hu u hu2))
theorem sok_fd {hs : List (Str × Nat)} {f : Fd} (hh : OkHs hs) (h : OkFd hs f) : Sok 5 f.enc := by
  obtain ⟨c, hc, _⟩ := h.nm
  refine Sok.tup (n := 4) (mem_cons_all ((aok (inH (hh.2 _ hc).1)).mono (by omega)) (mem2 ((Sok.tup (n := 0) fun d m => ?_).mono (by omega)) (Sok.tup (n := 3) fun d m => ?_)))
  · obtain ⟨p, hp, rfl⟩ := List.mem_map.mp m
    exact aok (in6 (h.ps p hp))
  · rw [encs_map] at m
    obtain ⟨s, hs', rfl⟩ := List.mem_map.mp m
    obtain ⟨i, hi, rfl⟩ := List.getElem_of_mem hs'
    exact sok_s hh (h.st i hi)
theorem sok_i {hs : List (Str × Nat)} {it : Itm} (hh : OkHs hs) (h : OkI hs it) : Sok 6 it.enc := by
  cases h with
  | glo x hx => exact (Sok.tup (n := 0) (mem2 (sok_c _ (by decide +kernel)) (aok (in3 hx)))).mono (by omega)
  | fn f hf => exact Sok.tup (n := 5) (mem2 (sok_c _ (by decide +kernel)) (sok_fd hh hf))
theorem sok_its {hs : List (Str × Nat)} {its : List Itm} (hh : OkHs hs) (h : ∀ it ∈ its, OkI hs it) : Sok 7 (.list (its.map Itm.enc)) := .lst fun d m => by
  obtain ⟨it, hi, rfl⟩ := List.mem_map.mp m
  exact sok_i hh (h it hi)
def glos : List Itm → List Str
  | [] => []
  | .glo x :: r => x :: glos r
  | .fn _ :: r => glos r
def fns : List Itm → List Fd
  | [] => []
  | .glo _ :: r => fns r
  | .fn f :: r => f :: fns r
theorem sok_prog {hs : List (Str × Nat)} {its : List Itm} (hh : OkHs hs) (h : ∀ it ∈ its, OkI hs it) : Sok 7 (.tuple [.str "program", .list ((glos its).map .str), .list ((fns its).map Fd.enc)]) := by
  refine .tup (mem_cons_all (sok_c _ (by decide +kernel)) (mem2 ((Sok.lst (n := 0) fun d m => ?_).mono (by omega)) (Sok.lst (n := 5) fun d m => ?_)))
  · obtain ⟨x, hx, rfl⟩ := List.mem_map.mp m
    have : ∀ its : List Itm, (∀ it ∈ its, OkI hs it) → ∀ x ∈ glos its, x ∈ A3 := by
      intro its
      induction its with
      | nil => exact fun _ x m => absurd m List.not_mem_nil
      | cons it r ih =>
        intro h x m
        have h1 := h it List.mem_cons_self
        have h2 := ih fun y my => h y (List.mem_cons_of_mem _ my)
        cases h1 with
        | glo y hy =>
          rcases List.mem_cons.mp m with rfl | m
          · exact hy
          · exact h2 x m
        | fn f hf => exact h2 x m
    exact aok (in3 (this its h x hx))
  · obtain ⟨f, hf, rfl⟩ := List.mem_map.mp m
    have : ∀ its : List Itm, (∀ it ∈ its, OkI hs it) → ∀ f ∈ fns its, OkFd hs f := by
      intro its
      induction its with
      | nil => exact fun _ x m => absurd m List.not_mem_nil
      | cons it r ih =>
        intro h x m
        have h1 := h it List.mem_cons_self
        have h2 := ih fun y my => h y (List.mem_cons_of_mem _ my)
        cases h1 with
        | glo y hy => exact h2 x m
        | fn f hf =>
          rcases List.mem_cons.mp m with rfl | m
          · exact hf
          · exact h2 x m
    exact sok_fd hh (this its h f hf)
/-! ### the law's check is the program's -/
theorem mem_locF {gs ps : List Str} {x : Str} : ∀ (ss : List Sm) (found : List Str), x ∈ locF gs ps found ss ↔ x ∈ found ∨ (x ∈ ss.filterMap asg ∧ x ∉ ps ∧ x ∉ gs)
  | [], found => by
    rw [locF]
    exact ⟨fun h => .inl h, fun h => h.elim id fun z => absurd z.1 List.not_mem_nil⟩
  | s :: ss, found => by
    rw [locF, List.filterMap_cons]
    cases hs : asg s with
    | none => exact mem_locF ss found
    | some y =>
      dsimp only
      split
      · rename_i hy
        rw [mem_locF ss found]
        constructor
        · rintro (h | ⟨h, h2⟩)
          · exact .inl h
          · exact .inr ⟨List.mem_cons_of_mem _ h, h2⟩
        · rintro (h | ⟨h, h2, h3⟩)
          · exact .inl h
          · rcases List.mem_cons.mp h with rfl | h
            · rcases hy with hy | hy | hy
              · exact .inl hy
              · exact absurd hy h2
              · exact absurd hy h3
            · exact .inr ⟨h, h2, h3⟩
      · rename_i hy
        rw [mem_locF ss (found ++ [y]), List.mem_append, List.mem_singleton]
        constructor
        · rintro ((h | rfl) | ⟨h, h2⟩)
          · exact .inl h
          · exact .inr ⟨List.mem_cons_self, fun z => hy (.inr (.inl z)), fun z => hy (.inr (.inr z))⟩
          · exact .inr ⟨List.mem_cons_of_mem _ h, h2⟩
        · rintro (h | ⟨h, h2, h3⟩)
          · exact .inl (.inl h)
          · rcases List.mem_cons.mp h with rfl | h
            · exact .inl (.inr rfl)
            · exact .inr ⟨h, h2, h3⟩
theorem asg_row {s : Sm} (h : OkR s) : asg s = asg3 s := by
  rcases h with ⟨x, k, rfl⟩ | ⟨x, v, k, rfl⟩ | ⟨v, k, rfl⟩ | ⟨v, k, rfl⟩ | ⟨x, g, us, k, rfl, _⟩ <;> rfl
theorem fm_congr {α β : Type} {f g : α → Option β} : ∀ l : List α, (∀ x ∈ l, f x = g x) → l.filterMap f = l.filterMap g
  | [], _ => rfl
  | a :: l, h => by rw [List.filterMap_cons, List.filterMap_cons, h a List.mem_cons_self, fm_congr l fun x m => h x (List.mem_cons_of_mem _ m)]
theorem known_iff {gs : List Str} {f : Fd} (h : OkG f) (x : Str) : x ∈ f.ps ++ locals gs f ++ gs ↔ x ∈ lkn gs f := by
  have e : f.body.filterMap asg = f.body.filterMap asg3 := fm_congr f.body fun s m => asg_row (h.st s m)
  unfold lkn locals
  rw [List.mem_append, List.mem_append, mem_locF, List.mem_append, List.mem_append, e]
  constructor
  · rintro ((h | h | h) | h)
    · exact .inl (.inl h)
    · exact absurd h List.not_mem_nil
    · exact .inr h.1
    · exact .inl (.inr h)
  · rintro ((h | h) | h)
    · exact .inl (.inl h)
    · exact .inr h
    · by_cases h1 : x ∈ f.ps
      · exact .inl (.inl h1)
      · by_cases h2 : x ∈ gs
        · exact .inr h2
        · exact .inl (.inr (.inr ⟨h, h1, h2⟩))
theorem ckU_congr {k1 k2 : List Str} (h : ∀ x, x ∈ k1 ↔ x ∈ k2) : ∀ l, ckU k1 l = ckU k2 l
  | [] => rfl
  | x :: l => by
    rw [ckU, ckU, ckU_congr h l]
    by_cases hx : x ∈ k1
    · rw [if_pos hx, if_pos ((h x).mp hx)]
    · rw [if_neg hx, if_neg fun z => hx ((h x).mpr z)]
theorem ckU_cons {k : List Str} {x : Str} {l : List Str} (h : x ∈ k) : ckU k (x :: l) = ckU k l := by rw [ckU, if_pos h]
theorem vns_nm : ∀ us : List Str, vns (us.map Vl.nm) = us
  | [] => rfl
  | u :: us => by
    show [u] ++ vns (us.map Vl.nm) = u :: us
    rw [vns_nm us]
    rfl
theorem ckS_eq {fs : List Fd} {k1 k2 : List Str} (h : ∀ x, x ∈ k1 ↔ x ∈ k2) {s : Sm} (hr : OkR s) (ht : ∀ x, asg3 s = some x → x ∈ k2) : ckS fs k1 s = lckS fs k2 s := by
  have e : ckU k1 (uses s) = ckU k2 (usd s) := by
    rw [ckU_congr h]
    rcases hr with ⟨x, k, rfl⟩ | ⟨x, v, k, rfl⟩ | ⟨v, k, rfl⟩ | ⟨v, k, rfl⟩ | ⟨x, g, us, k, rfl, _⟩
    · exact ckU_cons (ht x rfl)
    · exact ckU_cons (ht x rfl)
    · rfl
    · rfl
    · show ckU k2 (x :: vns (us.map Vl.nm)) = ckU k2 ((us.map Vl.nm).map nmOf)
      rw [vns_nm, map_nm]
      exact ckU_cons (ht x rfl)
  unfold ckS lckS
  rw [e] <;> (cases ckG fs s <;> rfl)
theorem ckB_eq {fs : List Fd} {k1 k2 : List Str} (h : ∀ x, x ∈ k1 ↔ x ∈ k2) : ∀ (ss : List Sm), (∀ s ∈ ss, OkR s) → (∀ s ∈ ss, ∀ x, asg3 s = some x → x ∈ k2) → ckB fs k1 ss = lckB fs k2 ss
  | [], _, _ => rfl
  | s :: ss, h1, h2 => by
    rw [ckB, lckB, ckS_eq h (h1 s List.mem_cons_self) (h2 s List.mem_cons_self), ckB_eq h ss (fun s m => h1 s (List.mem_cons_of_mem _ m)) fun s m => h2 s (List.mem_cons_of_mem _ m)] <;> (cases lckS fs k2 s <;> rfl)
theorem ckF_eq {gs : List Str} {fs : List Fd} {f : Fd} (h : OkG f) : ckF gs fs f = lckF gs fs f := by
  have e : ckB fs (f.ps ++ locals gs f ++ gs) f.body = lckB fs (lkn gs f) f.body := ckB_eq (known_iff h) f.body h.st fun s m x hx => by
    unfold lkn
    exact List.mem_append_right _ (List.mem_filterMap.mpr ⟨s, m, hx⟩)
  unfold ckF lckF
  rw [e] <;> (cases dup [] f.ps <;> rfl)
theorem ckFs_eq {gs : List Str} {fs : List Fd} : ∀ (l : List Fd), (∀ f ∈ l, OkG f) → ckFs gs fs l = lckFs gs fs l
  | [], _ => rfl
  | f :: l, h => by
    rw [ckFs, lckFs, ckF_eq (h f List.mem_cons_self), ckFs_eq l fun f m => h f (List.mem_cons_of_mem _ m)] <;> (cases lckF gs fs f <;> rfl)
theorem addI_ok : ∀ (its : List Itm) (gs : List Str) (fs : List Fd) (gs' : List Str) (fs' : List Fd), addI gs fs its = .ok (gs', fs') → gs' = gs ++ glos its ∧ fs' = fs ++ fns its
  | [], gs, fs, gs', fs', h => by
    cases h
    simp [glos, fns]
  | .glo x :: r, gs, fs, gs', fs', h => by
    rw [addI] at h
    split at h
    · cases h
    · obtain ⟨rfl, rfl⟩ := addI_ok r _ _ _ _ h
      simp [glos, fns]
  | .fn f :: r, gs, fs, gs', fs', h => by
    rw [addI] at h
    split at h
    · cases h
    · obtain ⟨rfl, rfl⟩ := addI_ok r _ _ _ _ h
      simp [glos, fns]
theorem fns_ok {hs : List (Str × Nat)} (hh : OkHs hs) : ∀ its : List Itm, (∀ it ∈ its, OkI hs it) → ∀ f ∈ fns its, OkFd hs f
  | [], _, f, m => absurd m List.not_mem_nil
  | it :: r, h, f, m => by
    have h1 := h it List.mem_cons_self
    have h2 := fns_ok hh r (fun y my => h y (List.mem_cons_of_mem _ my)) f
    cases h1 with
    | glo y hy => exact h2 m
    | fn g hg =>
      rcases List.mem_cons.mp m with rfl | m
      · exact hg
      · exact h2 m
theorem lf_build {hs : List (Str × Nat)} {its : List Itm} (hh : OkHs hs) (h : ∀ it ∈ its, OkI hs it) : match build its with
    | .error er => lf its = some er
    | .ok (gs, fs) => lf its = none ∧ gs = glos its ∧ fs = fns its := by
  unfold build lf
  cases ha : addI [] [] its with
  | error er => rfl
  | ok z =>
    obtain ⟨gs, fs⟩ := z
    obtain ⟨e1, e2⟩ := addI_ok its [] [] gs fs ha
    rw [List.nil_append] at e1 e2
    have e3 : ckAll gs fs = lckAll gs fs := by
      unfold ckAll lckAll
      rw [ckFs_eq fs fun f m => (fns_ok hh its h f (by rw [← e2]; exact m)).ok hh] <;> (cases lckFs gs fs fs <;> rfl)
    dsimp only
    rw [e3]
    cases lckAll gs fs with
    | some er => rfl
    | none => exact ⟨rfl, e1, e2⟩
/-- an error of names of AA -/
def ErA : Er → Prop
  | .cla x => x ∈ AA
  | .unk x => x ∈ AA
  | .mis x => x ∈ AA
  | _ => False
theorem dup_mem : ∀ (l seen : List Str) (x : Str), dup seen l = some x → x ∈ l
  | [], seen, x, h => by cases h
  | p :: l, seen, x, h => by
    rw [dup] at h
    split at h
    · cases h
      exact List.mem_cons_self
    · exact List.mem_cons_of_mem _ (dup_mem l _ x h)
theorem ckU_mem {k : List Str} : ∀ (l : List Str) (er : Er), ckU k l = some er → ∃ x ∈ l, er = .unk x
  | [], er, h => by cases h
  | x :: l, er, h => by
    rw [ckU] at h
    split at h
    · obtain ⟨y, hy, e⟩ := ckU_mem l er h
      exact ⟨y, List.mem_cons_of_mem _ hy, e⟩
    · cases h
      exact ⟨x, List.mem_cons_self, rfl⟩
theorem lckS_A {hs : List (Str × Nat)} {fs : List Fd} {known : List Str} {k : Nat} {s : Sm} {er : Er} (hh : OkHs hs) (hs' : OkS hs k s) (h : lckS fs known s = some er) : ErA er := by
  unfold lckS at h
  have hu : ∀ x ∈ usd s, x ∈ AA := by
    cases hs' with
    | new x hx => exact nil_all
    | set x v hx hv => exact mem_cons_all (in7 hv) nil_all
    | out v hv => exact mem_cons_all (in7 hv) nil_all
    | ret v hv => exact mem_cons_all (in7 hv) nil_all
    | call x g c us hx hg hu hl =>
      show ∀ y ∈ (us.map Vl.nm).map nmOf, y ∈ AA
      rw [map_nm]
      exact fun y m => in5 (hu y m)
  cases hG : ckG fs s with
  | some e =>
    rw [hG] at h
    cases h
    cases hs' with
    | call x g c us hx hg hu hl =>
      unfold ckG at hG
      dsimp only at hG
      split at hG
      · cases hG
        exact inH (hh.2 _ hg).1
      · cases hG
    | _ => cases hG
  | none =>
    rw [hG] at h
    dsimp only at h
    cases hU : ckU known (usd s) with
    | some e =>
      rw [hU] at h
      cases h
      obtain ⟨x, hx, rfl⟩ := ckU_mem _ _ hU
      exact hu x hx
    | none =>
      rw [hU] at h
      dsimp only at h
      cases hs' with
      | call x g c us hx hg hu hl =>
        unfold ckC at h
        dsimp only at h
        split at h
        · cases h
          exact inH (hh.2 _ hg).1
        · split at h
          · cases h
          · cases h
            show ("count" : Str) ∈ AA
            decide +kernel
      | _ => cases h
theorem lckB_A {hs : List (Str × Nat)} {fs : List Fd} {known : List Str} {er : Er} (hh : OkHs hs) : ∀ ss : List Sm, (∀ s ∈ ss, ∃ k, OkS hs k s) → lckB fs known ss = some er → ErA er
  | [], _, h => by cases h
  | s :: ss, hs', h => by
    rw [lckB] at h
    cases hS : lckS fs known s with
    | some e =>
      rw [hS] at h
      cases h
      obtain ⟨k, hk⟩ := hs' s List.mem_cons_self
      exact lckS_A hh hk hS
    | none =>
      rw [hS] at h
      exact lckB_A hh ss (fun s m => hs' s (List.mem_cons_of_mem _ m)) h
theorem lckFs_A {hs : List (Str × Nat)} {gs : List Str} {fs : List Fd} {er : Er} (hh : OkHs hs) : ∀ l : List Fd, (∀ f ∈ l, OkFd hs f) → lckFs gs fs l = some er → ErA er
  | [], _, h => by cases h
  | f :: l, hl, h => by
    rw [lckFs] at h
    have hf := hl f List.mem_cons_self
    cases hF : lckF gs fs f with
    | some e =>
      rw [hF] at h
      cases h
      unfold lckF at hF
      cases hd : dup [] f.ps with
      | some x =>
        rw [hd] at hF
        cases hF
        exact in6 (hf.ps x (dup_mem _ _ _ hd))
      | none =>
        rw [hd] at hF
        refine lckB_A hh f.body (fun s m => ?_) hF
        obtain ⟨i, hi, rfl⟩ := List.getElem_of_mem m
        exact ⟨i, hf.st i hi⟩
    | none =>
      rw [hF] at h
      exact lckFs_A hh l (fun f m => hl f (List.mem_cons_of_mem _ m)) h
theorem addI_A {hs : List (Str × Nat)} {er : Er} (hh : OkHs hs) : ∀ (its : List Itm) (gs : List Str) (fs : List Fd), (∀ it ∈ its, OkI hs it) → addI gs fs its = .error er → ErA er
  | [], gs, fs, _, h => by cases h
  | it :: r, gs, fs, hi, h => by
    have h1 := hi it List.mem_cons_self
    have h2 := fun gs fs => addI_A (er := er) hh r gs fs fun y my => hi y (List.mem_cons_of_mem _ my)
    cases h1 with
    | glo x hx =>
      rw [addI] at h
      split at h
      · cases h
        exact in3 hx
      · exact h2 _ _ h
    | fn f hf =>
      rw [addI] at h
      split at h
      · cases h
        obtain ⟨c, hc, _⟩ := hf.nm
        exact inH (hh.2 _ hc).1
      · exact h2 _ _ h
theorem lf_A {hs : List (Str × Nat)} {its : List Itm} {er : Er} (hh : OkHs hs) (h : ∀ it ∈ its, OkI hs it) (he : lf its = some er) : ErA er := by
  unfold lf at he
  cases ha : addI [] [] its with
  | error e =>
    rw [ha] at he
    cases he
    exact addI_A hh its [] [] h ha
  | ok z =>
    obtain ⟨gs, fs⟩ := z
    rw [ha] at he
    dsimp only at he
    obtain ⟨e1, e2⟩ := addI_ok its [] [] gs fs ha
    rw [List.nil_append] at e2
    unfold lckAll at he
    cases hF : lckFs gs fs fs with
    | some e =>
      rw [hF] at he
      cases he
      exact lckFs_A hh fs (fun f m => fns_ok hh its h f (by rw [← e2]; exact m)) hF
    | none =>
      rw [hF] at he
      dsimp only at he
      split at he
      · cases he
        show ("main" : Str) ∈ AA
        decide +kernel
      · cases he
theorem sok_er {er : Er} (h : ErA er) : Sok 1 (encE er) := by
  cases er with
  | cla x => exact .tup (mem2 (sok_c _ (by decide +kernel)) (aok h))
  | unk x => exact .tup (mem2 (sok_c _ (by decide +kernel)) (aok h))
  | mis x => exact .tup (mem2 (sok_c _ (by decide +kernel)) (aok h))
  | _ => exact h.elim
theorem its_pl {hs : List (Str × Nat)} {its : List Itm} (hh : OkHs hs) (h : ∀ it ∈ its, OkI hs it) : its.all plI = true := by
  rw [List.all_eq_true]
  intro it m
  cases h it m with
  | glo x hx => rfl
  | fn f hf =>
    have hg := hf.ok hh
    show plF f = true
    unfold plF
    simp only [Bool.and_eq_true, decide_eq_true_eq]
    refine ⟨?_, by have := hg.len; omega, by have := hg.ps; omega, ?_⟩
    · rw [List.all_eq_true]
      intro s ms
      rcases hg.st s ms with ⟨x, k, rfl⟩ | ⟨x, v, k, rfl⟩ | ⟨v, k, rfl⟩ | ⟨v, k, rfl⟩ | ⟨x, g, us, k, rfl, _⟩ <;> rfl
    · rw [List.all_eq_true]
      intro s ms
      refine decide_eq_true ?_
      rcases hg.st s ms with ⟨x, k, rfl⟩ | ⟨x, v, k, rfl⟩ | ⟨v, k, rfl⟩ | ⟨v, k, rfl⟩ | ⟨x, g, us, k, rfl, hl⟩
      · exact Nat.le_of_ble_eq_true rfl
      · exact Nat.le_of_ble_eq_true rfl
      · exact Nat.le_of_ble_eq_true rfl
      · exact Nat.le_of_ble_eq_true rfl
      · show (x :: vns (us.map Vl.nm)).length ≤ 9000
        rw [vns_nm, List.length_cons]
        omega
end Pa


set_option Elab.async false
set_option linter.all false
set_option maxRecDepth 100000
set_option maxHeartbeats 4000000
/-! plain: texts of words between blanks are read back -/
namespace Pb
open PySem Lx Px Gx Wx Pa TL
theorem tok1_le {l : List Nat} {n : Nat} {t : Tk} {k : Nat} (h : tok1 l n = some (t, k)) : 1 ≤ k := (K7.tk_noL h).2
theorem lexF_same : ∀ (a b : Nat) (l : List Nat) (n : Nat), l.length ≤ a → l.length ≤ b → lexF a l n = lexF b l n
  | 0, 0, l, n, _, _ => rfl
  | 0, b + 1, [], n, _, _ => rfl
  | 0, b + 1, c :: r, n, h, _ => by cases h
  | a + 1, 0, [], n, _, _ => rfl
  | a + 1, 0, c :: r, n, _, h => by cases h
  | a + 1, b + 1, [], n, _, _ => rfl
  | a + 1, b + 1, c :: r, n, h1, h2 => by
    rw [List.length_cons] at h1 h2
    rw [lexF, lexF, lexF_same a b r (n + 1) (by omega) (by omega)]
    split
    · rfl
    · cases ht : tok1 (c :: r) n with
      | none => rfl
      | some z =>
        obtain ⟨t, k⟩ := z
        have hk := tok1_le ht
        dsimp only
        rw [lexF_same a b ((c :: r).drop k) (n + k) (by rw [List.length_drop, List.length_cons]; omega) (by rw [List.length_drop, List.length_cons]; omega)]
def lexA (l : List Nat) (n : Nat) : Except Nat (List Tk) := lexF l.length l n
def cat (ts : List Tk) : Except Nat (List Tk) → Except Nat (List Tk)
  | .error e => .error e
  | .ok l => .ok (ts ++ l)
theorem cat_nil : ∀ x, cat [] x = x
  | .error e => rfl
  | .ok l => rfl
theorem cat_cat (a b : List Tk) : ∀ x, cat a (cat b x) = cat (a ++ b) x
  | .error e => rfl
  | .ok l => by
    show Except.ok (a ++ (b ++ l)) = .ok (a ++ b ++ l)
    rw [List.append_assoc]
def Cl (r : List Nat) : Prop := r = [] ∨ ∃ r', r = 32 :: r'
def LXc (l : List Nat) (ts : Nat → List Tk) : Prop := ∀ r n, Cl r → lexA (l ++ r) n = cat (ts n) (lexA r (n + l.length))
theorem lexA_blank (r : List Nat) (n : Nat) : lexA (32 :: r) n = lexA r (n + 1) := rfl
theorem LXc.nil : LXc [] fun _ => [] := fun r n _ => (cat_nil _).symm
theorem LXc.app {a b : List Nat} {ta tb : Nat → List Tk} (ha : LXc a ta) (hb : LXc b tb) : LXc (a ++ (32 :: b)) fun n => ta n ++ tb (n + a.length + 1) := fun r n hr => by
  rw [List.append_assoc, List.cons_append, ha _ n (.inr ⟨b ++ r, rfl⟩), lexA_blank, hb r _ hr, cat_cat, List.length_append, List.length_cons]
  congr 2
  omega
theorem tw {cs r : List Nat} (h : cs.all inW = true) (hr : Cl r) : (cs ++ r).takeWhile inW = cs := by
  induction cs with
  | nil =>
    rcases hr with rfl | ⟨r', rfl⟩
    · rfl
    · rfl
  | cons c cs ih =>
    rw [List.all_cons, Bool.and_eq_true] at h
    rw [List.cons_append, List.takeWhile_cons, if_pos h.1, ih h.2]
/-- a word of letters -/
def wk (w : Str) (n : Nat) : Tk := if w ∈ reserved then ⟨"reserved", .str w, n⟩ else ⟨"name", .str w, n⟩
def okW (w : Str) : Bool := match tl w with
  | [] => false
  | c :: r => isLet c && ((c :: r).all inW && decide (w.length ≤ 10))
theorem blank_no {c : Nat} (h : isLet c = true) : ¬ (c = 32 ∨ c = 10) := by
  intro z
  rcases z with rfl | rfl <;> cases h
theorem lex_tok {c : Nat} {cs r : List Nat} {n k : Nat} {t : Tk} (hb : ¬ (c = 32 ∨ c = 10)) (ht : tok1 (c :: cs ++ r) n = some (t, k)) (hk : k = (c :: cs).length) : lexA (c :: cs ++ r) n = cat [t] (lexA r (n + (c :: cs).length)) := by
  show lexF (cs ++ r).length.succ (c :: (cs ++ r)) n = _
  rw [lexF, if_neg hb]
  have ht' : tok1 (c :: (cs ++ r)) n = some (t, k) := ht
  rw [ht']
  dsimp only
  have e : (c :: (cs ++ r)).drop k = r := by
    rw [hk]
    exact List.drop_left (l₁ := c :: cs) (l₂ := r)
  rw [e, lexF_same (cs ++ r).length r.length r (n + k) (by rw [List.length_append]; omega) (Nat.le_refl _), hk]
  unfold lexA
  cases lexF r.length r (n + (c :: cs).length) <;> rfl
theorem LXc.word {w : Str} (h : okW w = true) : LXc (tl w) fun n => [wk w n] := fun r n hr => by
  unfold okW at h
  cases hc : tl w with
  | nil =>
    rw [hc] at h
    cases h
  | cons c cs =>
    rw [hc] at h
    simp only [Bool.and_eq_true, decide_eq_true_eq] at h
    obtain ⟨h1, h2, h3⟩ := h
    have ht : (c :: cs ++ r).takeWhile inW = c :: cs := tw h2 hr
    have ew : wordOf (c :: cs ++ r) = w := by
      refine ext_tl ?_
      show ((c :: cs ++ r).takeWhile inW).toArray.toList = _
      rw [ht, hc]
    have el : wLen (c :: cs ++ r) = (c :: cs).length := by
      unfold wLen
      rw [ht]
    have ewl : (c :: cs).length = w.length := by
      rw [← hc]
      rfl
    refine lex_tok (k := (c :: cs).length) (blank_no h1) ?_ rfl
    have e1 : tkWord (c :: cs ++ r) n = some (wk w n) := by
      unfold tkWord wk
      rw [ew, el, ewl]
      split
      · rfl
      · rw [if_neg (by omega)]
    show (if isLet c = true then (tkWord (c :: cs ++ r) n).map fun t => (t, wLen (c :: cs ++ r)) else _) = _
    rw [if_pos h1, e1, el]
    rfl
theorem LXc.sign {w : Str} {c : Nat} {cs : List Nat} (hc : tl w = c :: cs) (hb : ¬ (c = 32 ∨ c = 10)) (h : ∀ r n, Cl r → tok1 (c :: cs ++ r) n = some (⟨"sign", .str w, n⟩, (c :: cs).length)) : LXc (tl w) fun n => [⟨"sign", .str w, n⟩] := fun r n hr => by
  rw [hc]
  exact lex_tok hb (h r n hr) rfl
/-! ### words -/
def SG : List Str := ["=", ",", ";", "(", ")", "{", "}"]
theorem sg_lex : ∀ w ∈ SG, LXc (tl w) fun n => [⟨"sign", .str w, n⟩] := by
  unfold SG
  refine mem_cons_all ?_ (mem_cons_all ?_ (mem_cons_all ?_ (mem_cons_all ?_ (mem_cons_all ?_ (mem_cons_all ?_ (mem_cons_all ?_ nil_all))))))
  · refine LXc.sign (c := 61) (cs := []) (by decide +kernel) (by decide) fun r n hr => ?_
    rcases hr with rfl | ⟨r', rfl⟩ <;> rfl
  · refine LXc.sign (c := 44) (cs := []) (by decide +kernel) (by decide) fun r n hr => ?_
    rcases hr with rfl | ⟨r', rfl⟩ <;> rfl
  · refine LXc.sign (c := 59) (cs := []) (by decide +kernel) (by decide) fun r n hr => ?_
    rcases hr with rfl | ⟨r', rfl⟩ <;> rfl
  · refine LXc.sign (c := 40) (cs := []) (by decide +kernel) (by decide) fun r n hr => ?_
    rcases hr with rfl | ⟨r', rfl⟩ <;> rfl
  · refine LXc.sign (c := 41) (cs := []) (by decide +kernel) (by decide) fun r n hr => ?_
    rcases hr with rfl | ⟨r', rfl⟩ <;> rfl
  · refine LXc.sign (c := 123) (cs := []) (by decide +kernel) (by decide) fun r n hr => ?_
    rcases hr with rfl | ⟨r', rfl⟩ <;> rfl
  · refine LXc.sign (c := 125) (cs := []) (by decide +kernel) (by decide) fun r n hr => ?_
    rcases hr with rfl | ⟨r', rfl⟩ <;> rfl
/-- the tokens of a word -/
def wt (w : Str) (n : Nat) : List Tk := if w = "" then [] else if w ∈ SG then [⟨"sign", .str w, n⟩] else if w = "7" then [⟨"number", .int 7, n⟩] else [wk w n]
def Wd (w : Str) : Prop := w = "" ∨ w ∈ SG ∨ w = "7" ∨ okW w = true
theorem okW_no {w : Str} (h : okW w = true) : w ≠ "" ∧ w ∉ SG ∧ w ≠ "7" := by
  refine ⟨fun z => ?_, fun z => ?_, fun z => ?_⟩
  · subst z
    exact absurd h (by decide +kernel)
  · have : SG.all (fun w => !okW w) = true := by decide +kernel
    have z2 := List.all_eq_true.mp this w z
    rw [h] at z2
    cases z2
  · subst z
    exact absurd h (by decide +kernel)
theorem wt_lex {w : Str} (h : Wd w) : LXc (tl w) (wt w) := by
  rcases h with rfl | h | rfl | h
  · exact LXc.nil
  · have e : wt w = fun n => [⟨"sign", .str w, n⟩] := by
      funext n
      unfold wt
      rw [if_neg (fun z => by subst z; exact absurd h (by decide +kernel)), if_pos h]
    rw [e]
    exact sg_lex w h
  · have e : wt "7" = fun n => [⟨"number", .int 7, n⟩] := by
      funext n
      unfold wt
      rw [if_neg (by decide +kernel), if_neg (by decide +kernel), if_pos rfl]
    rw [e]
    intro r n hr
    refine lex_tok (c := 55) (cs := []) (k := 1) (by decide) ?_ rfl
    rcases hr with rfl | ⟨r', rfl⟩ <;> rfl
  · obtain ⟨h1, h2, h3⟩ := okW_no h
    have e : wt w = fun n => [wk w n] := by
      funext n
      unfold wt
      rw [if_neg h1, if_neg h2, if_neg h3]
    rw [e]
    exact LXc.word h
def tks : List Str → Nat → List Tk
  | [], _ => []
  | [w], n => wt w n
  | w :: v :: r, n => wt w n ++ tks (v :: r) (n + w.length + 1)
def txt (ws : List Str) : List Nat := joinL [32] (ws.map tl)
theorem txt_cons (w v : Str) (r : List Str) : txt (w :: v :: r) = tl w ++ (32 :: txt (v :: r)) := rfl
theorem txt_lex : ∀ ws : List Str, (∀ w ∈ ws, Wd w) → LXc (txt ws) (tks ws)
  | [], _ => LXc.nil
  | [w], h => wt_lex (h w List.mem_cons_self)
  | w :: v :: r, h => by
    rw [txt_cons]
    exact LXc.app (wt_lex (h w List.mem_cons_self)) (txt_lex (v :: r) fun x m => h x (List.mem_cons_of_mem _ m))
theorem txt_app : ∀ (a b : List Str), a ≠ [] → b ≠ [] → txt (a ++ b) = txt a ++ (32 :: txt b)
  | [], b, h, _ => absurd rfl h
  | [w], v :: r, _, _ => rfl
  | [w], [], _, h => absurd rfl h
  | w :: v :: r, b, _, hb => by
    rw [List.cons_append, List.cons_append, txt_cons, txt_cons, List.append_assoc, ← List.cons_append, txt_app (v :: r) b (by simp) hb, List.cons_append]
theorem tks_app : ∀ (a b : List Str) (n : Nat), a ≠ [] → b ≠ [] → tks (a ++ b) n = tks a n ++ tks b (n + (txt a).length + 1)
  | [], b, n, h, _ => absurd rfl h
  | [w], v :: r, n, _, _ => rfl
  | [w], [], n, _, h => absurd rfl h
  | w :: v :: r, b, n, _, hb => by
    have e : tks (w :: v :: r ++ b) n = wt w n ++ tks (v :: r ++ b) (n + w.length + 1) := rfl
    rw [e, tks_app (v :: r) b _ (by simp) hb, txt_cons, List.length_append, List.length_cons]
    show _ = wt w n ++ tks (v :: r) (n + w.length + 1) ++ _
    rw [List.append_assoc]
    have e2 : (tl w).length = w.length := rfl
    rw [e2]
    congr 3
    omega
theorem lex_words {x : Str} {ws : List Str} (hx : tl x = txt ws) (hw : ∀ w ∈ ws, Wd w) (hl : x.length ≤ 6000) : lex x.cps.toList = .ok (tks ws 0) := by
  have h := txt_lex ws hw [] 0 (.inl rfl)
  rw [List.append_nil] at h
  unfold lex
  have e : x.cps.toList.length = x.length := rfl
  rw [if_neg (by omega)]
  have e2 : lexF x.cps.toList.length x.cps.toList 0 = lexA (tl x) 0 := rfl
  rw [e2, hx, h]
  have e3 : cat (tks ws 0) (lexA [] (0 + (txt ws).length)) = .ok (tks ws 0) := by
    show Except.ok (tks ws 0 ++ []) = _
    rw [List.append_nil]
  rw [e3]
end Pb


set_option Elab.async false
set_option linter.all false
set_option maxRecDepth 100000
set_option maxHeartbeats 4000000
/-! plain: the law's texts are parsed back -/
namespace Pc
open PySem Lx Px Gx Wx Pa TL Pb
/-! ### texts as words -/
theorem txt_cons' (w : Str) : ∀ (ws : List Str), ws ≠ [] → txt (w :: ws) = tl w ++ (32 :: txt ws)
  | [], h => absurd rfl h
  | v :: r, _ => rfl
def csep : List Str → List Str
  | [] => [""]
  | [u] => [u]
  | u :: v :: r => u :: "," :: csep (v :: r)
theorem csep_ne : ∀ us, csep us ≠ []
  | [] => by simp [csep]
  | [u] => by simp [csep]
  | u :: v :: r => by simp [csep]
theorem tl_e : tl "" = [] := by decide +kernel
theorem tl_csep : ∀ us : List Str, tl (Txt.join " , " us) = txt (csep us) := by
  intro us
  rw [join_eq, tl_join, show tl " , " = [32, 44, 32] by decide +kernel]
  induction us with
  | nil => exact tl_e.symm
  | cons u r ih =>
    cases r with
    | nil => rfl
    | cons v r =>
      rw [csep, txt_cons' _ _ (by simp), txt_cons' _ _ (csep_ne _), ← ih, show tl "," = [44] by decide +kernel]
      rfl
def jw : List (List Str) → List Str
  | [] => [""]
  | [a] => a
  | a :: b :: r => a ++ jw (b :: r)
theorem jw_ne : ∀ ls : List (List Str), (∀ a ∈ ls, a ≠ []) → jw ls ≠ []
  | [], _ => by simp [jw]
  | [a], h => h a List.mem_cons_self
  | a :: b :: r, h => by
    rw [jw]
    intro z
    exact h a List.mem_cons_self (List.append_eq_nil_iff.mp z).1
theorem tl_jw {α : Type} {f : α → Str} {g : α → List Str} : ∀ l : List α, (∀ x ∈ l, tl (f x) = txt (g x) ∧ g x ≠ []) → tl (Txt.join " " (l.map f)) = txt (jw (l.map g)) := by
  intro l h
  rw [join_eq, tl_join, show tl " " = [32] by decide +kernel]
  induction l with
  | nil => exact tl_e.symm
  | cons a r ih =>
    cases r with
    | nil => exact (h a List.mem_cons_self).1
    | cons b r =>
      have ih := ih fun x m => h x (List.mem_cons_of_mem _ m)
      have e : jw ((a :: b :: r).map g) = g a ++ jw ((b :: r).map g) := rfl
      rw [e, txt_app _ _ (h a List.mem_cons_self).2 (jw_ne _ fun x m => by
        obtain ⟨y, hy, rfl⟩ := List.mem_map.mp m
        exact (h y (List.mem_cons_of_mem _ hy)).2), ← ih, ← (h a List.mem_cons_self).1]
      rfl
def sW : Sm → List Str
  | .new x _ => [x, "=", "new", ";"]
  | .set x v _ => [x, "=", nmOf v, ";"]
  | .out v _ => ["out", v, ";"]
  | .ret v _ => ["return", nmOf v, ";"]
  | .call x g us _ => ([x, "=", g, "("] : List Str) ++ (csep (us.map nmOf) ++ ([")", ";"] : List Str))
  | _ => [""]
def fW (f : Fd) : List Str := (["fn", f.name, "("] : List Str) ++ (csep f.ps ++ (([")", "{"] : List Str) ++ (jw (f.body.map sW) ++ (["}"] : List Str))))
def iW : Itm → List Str
  | .glo x => ["global", x, ";"]
  | .fn f => fW f
theorem sW_ne (s : Sm) : sW s ≠ [] := by cases s <;> simp [sW]
theorem iW_ne (i : Itm) : iW i ≠ [] := by cases i <;> simp [iW, fW]
theorem sW_txt {s : Sm} (h : OkR s) : tl (sText s) = txt (sW s) := by
  rcases h with ⟨x, k, rfl⟩ | ⟨x, v, k, rfl⟩ | ⟨v, k, rfl⟩ | ⟨v, k, rfl⟩ | ⟨x, g, us, k, rfl, _⟩
  · show tl (x ++ " = new ;") = tl x ++ (32 :: txt ["=", "new", ";"])
    rw [tl_append, show tl " = new ;" = 32 :: txt ["=", "new", ";"] by decide +kernel]
  · show tl (x ++ " = " ++ v ++ " ;") = tl x ++ (32 :: (tl "=" ++ (32 :: (tl v ++ (32 :: tl ";")))))
    rw [tl_append, tl_append, tl_append, show tl " = " = 32 :: (tl "=" ++ [32]) by decide +kernel, show tl " ;" = 32 :: tl ";" by decide +kernel]
    simp
  · show tl ("out " ++ v ++ " ;") = tl "out" ++ (32 :: (tl v ++ (32 :: tl ";")))
    rw [tl_append, tl_append, show tl "out " = tl "out" ++ [32] by decide +kernel, show tl " ;" = 32 :: tl ";" by decide +kernel]
    simp
  · show tl ("return " ++ v ++ " ;") = tl "return" ++ (32 :: (tl v ++ (32 :: tl ";")))
    rw [tl_append, tl_append, show tl "return " = tl "return" ++ [32] by decide +kernel, show tl " ;" = 32 :: tl ";" by decide +kernel]
    simp
  · show tl (x ++ " = " ++ g ++ " ( " ++ jc ((us.map Vl.nm).map nmOf) ++ " ) ;") = txt (([x, "=", g, "("] : List Str) ++ (csep ((us.map Vl.nm).map nmOf) ++ ([")", ";"] : List Str)))
    unfold jc
    rw [txt_app _ _ (by simp) (by simp), txt_app _ _ (csep_ne _) (by simp), ← tl_csep, tl_append, tl_append, tl_append, tl_append, tl_append, show tl " = " = 32 :: (tl "=" ++ [32]) by decide +kernel, show tl " ( " = 32 :: (tl "(" ++ [32]) by decide +kernel, show tl " ) ;" = 32 :: txt [")", ";"] by decide +kernel]
    show _ = (tl x ++ (32 :: (tl "=" ++ (32 :: (tl g ++ (32 :: tl "(")))))) ++ _
    simp
theorem iW_txt {hs : List (Str × Nat)} {i : Itm} (hh : OkHs hs) (h : OkI hs i) : tl (iText i) = txt (iW i) := by
  cases h with
  | glo x hx =>
    show tl ("global " ++ x ++ " ;") = tl "global" ++ (32 :: (tl x ++ (32 :: tl ";")))
    rw [tl_append, tl_append, show tl "global " = tl "global" ++ [32] by decide +kernel, show tl " ;" = 32 :: tl ";" by decide +kernel]
    simp
  | fn f hf =>
    have hg := hf.ok hh
    show tl (fText f) = txt (fW f)
    unfold fText fW jc
    rw [txt_app _ _ (by simp) (by simp), txt_app _ _ (csep_ne _) (by simp), txt_app _ _ (by simp) (by simp), txt_app _ _ (jw_ne _ fun a m => by
      obtain ⟨y, hy, rfl⟩ := List.mem_map.mp m
      exact sW_ne y) (by simp), ← tl_csep, ← tl_jw f.body fun s m => ⟨sW_txt (hg.st s m), sW_ne s⟩]
    rw [tl_append, tl_append, tl_append, tl_append, tl_append, tl_append, show tl "fn " = tl "fn" ++ [32] by decide +kernel, show tl " ( " = 32 :: (tl "(" ++ [32]) by decide +kernel, show tl " ) { " = 32 :: (txt [")", "{"] ++ [32]) by decide +kernel, show tl " }" = 32 :: txt ["}"] by decide +kernel]
    show _ = (tl "fn" ++ (32 :: (tl f.name ++ (32 :: tl "(")))) ++ _
    simp
/-! ### words are tokens -/
theorem AA_w : AA.all (fun x => okW x && !decide (x ∈ reserved)) = true := by decide +kernel
theorem aw {x : Str} (m : x ∈ AA) : okW x = true ∧ x ∉ reserved := by
  have z := List.all_eq_true.mp AA_w x m
  simp only [Bool.and_eq_true, Bool.not_eq_true', decide_eq_false_iff_not] at z
  exact z
theorem wd_a {x : Str} (m : x ∈ AA) : Wd x := .inr (.inr (.inr (aw m).1))
abbrev nt (x : Str) (n : Nat) : Tk := ⟨"name", .str x, n⟩
abbrev sg (x : Str) (n : Nat) : Tk := ⟨"sign", .str x, n⟩
abbrev rv (x : Str) (n : Nat) : Tk := ⟨"reserved", .str x, n⟩
theorem wt_nm {x : Str} {n : Nat} (m : x ∈ AA) : wt x n = [nt x n] := by
  obtain ⟨h1, h2, h3⟩ := okW_no (aw m).1
  unfold wt
  rw [if_neg h1, if_neg h2, if_neg h3]
  unfold wk
  rw [if_neg (aw m).2]
theorem wt_sg {x : Str} {n : Nat} (h : x ≠ "") (m : x ∈ SG) : wt x n = [sg x n] := by
  unfold wt
  rw [if_neg h, if_pos m]
theorem wt_rv {x : Str} {n : Nat} (h : okW x = true) (m : x ∈ reserved) : wt x n = [rv x n] := by
  obtain ⟨h1, h2, h3⟩ := okW_no h
  unfold wt
  rw [if_neg h1, if_neg h2, if_neg h3]
  unfold wk
  rw [if_pos m]
theorem wd_sg {x : Str} (m : x ∈ SG) : Wd x := .inr (.inl m)
theorem wd_w {x : Str} (m : okW x = true) : Wd x := .inr (.inr (.inr m))
theorem wd_csep : ∀ us : List Str, (∀ u ∈ us, u ∈ AA) → ∀ w ∈ csep us, Wd w
  | [], _ => mem_cons_all (.inl rfl) nil_all
  | [u], h => mem_cons_all (wd_a (h u List.mem_cons_self)) nil_all
  | u :: v :: r, h => mem_cons_all (wd_a (h u List.mem_cons_self)) (mem_cons_all (wd_sg (by decide +kernel)) (wd_csep (v :: r) fun x m => h x (List.mem_cons_of_mem _ m)))
theorem app_all {α : Type} {a b : List α} {p : α → Prop} (ha : ∀ x ∈ a, p x) (hb : ∀ x ∈ b, p x) : ∀ x ∈ a ++ b, p x := fun x m => (List.mem_append.mp m).elim (ha x) (hb x)
theorem wd_jw : ∀ ls : List (List Str), (∀ a ∈ ls, ∀ w ∈ a, Wd w) → ∀ w ∈ jw ls, Wd w
  | [], _ => mem_cons_all (.inl rfl) nil_all
  | [a], h => h a List.mem_cons_self
  | a :: b :: r, h => app_all (h a List.mem_cons_self) (wd_jw (b :: r) fun x m => h x (List.mem_cons_of_mem _ m))
theorem wd_s {hs : List (Str × Nat)} {k : Nat} {s : Sm} (hh : OkHs hs) (h : OkS hs k s) : ∀ w ∈ sW s, Wd w := by
  cases h with
  | new x hx => exact mem_cons_all (wd_a (in2 hx)) (mem_cons_all (wd_sg (by decide +kernel)) (mem2 (wd_w (by decide +kernel)) (wd_sg (by decide +kernel))))
  | set x v hx hv => exact mem_cons_all (wd_a (in2 hx)) (mem_cons_all (wd_sg (by decide +kernel)) (mem2 (wd_a (in7 hv)) (wd_sg (by decide +kernel))))
  | out v hv => exact mem_cons_all (wd_w (by decide +kernel)) (mem2 (wd_a (in7 hv)) (wd_sg (by decide +kernel)))
  | ret v hv => exact mem_cons_all (wd_w (by decide +kernel)) (mem2 (wd_a (in7 hv)) (wd_sg (by decide +kernel)))
  | call x g c us hx hg hu hl =>
    refine app_all (mem_cons_all (wd_a (in2 hx)) (mem_cons_all (wd_sg (by decide +kernel)) (mem2 (wd_a (inH (hh.2 _ hg).1)) (wd_sg (by decide +kernel))))) (app_all ?_ (mem2 (wd_sg (by decide +kernel)) (wd_sg (by decide +kernel))))
    rw [map_nm]
    exact wd_csep us fun u m => in5 (hu u m)
theorem wd_i {hs : List (Str × Nat)} {i : Itm} (hh : OkHs hs) (h : OkI hs i) : ∀ w ∈ iW i, Wd w := by
  cases h with
  | glo x hx => exact mem_cons_all (wd_w (by decide +kernel)) (mem2 (wd_a (in3 hx)) (wd_sg (by decide +kernel)))
  | fn f hf =>
    obtain ⟨c, hc, _⟩ := hf.nm
    refine app_all (mem_cons_all (wd_w (by decide +kernel)) (mem2 (wd_a (inH (hh.2 _ hc).1)) (wd_sg (by decide +kernel)))) (app_all (wd_csep _ fun u m => in6 (hf.ps u m)) (app_all (mem2 (wd_sg (by decide +kernel)) (wd_sg (by decide +kernel))) (app_all (wd_jw _ fun a m => ?_) (mem_cons_all (wd_sg (by decide +kernel)) nil_all))))
    obtain ⟨s, hs', rfl⟩ := List.mem_map.mp m
    obtain ⟨j, hj, rfl⟩ := List.getElem_of_mem hs'
    exact wd_s hh (hf.st j hj)
def tj : List (List Str) → Nat → List Tk
  | [], _ => []
  | [a], n => tks a n
  | a :: b :: r, n => tks a n ++ tj (b :: r) (n + (txt a).length + 1)
theorem tj_jw : ∀ (ls : List (List Str)) (n : Nat), (∀ a ∈ ls, a ≠ []) → tks (jw ls) n = tj ls n
  | [], n, _ => rfl
  | [a], n, _ => rfl
  | a :: b :: r, n, h => by
    have h2 : ∀ x ∈ b :: r, x ≠ [] := fun x m => h x (List.mem_cons_of_mem _ m)
    rw [jw, tks_app _ _ _ (h a List.mem_cons_self) (jw_ne _ h2), tj_jw _ _ h2, tj]
theorem tj_cons (a : List Str) (r : List (List Str)) (n : Nat) : ∃ n', tj (a :: r) n = tks a n ++ tj r n' := by
  cases r with
  | nil => exact ⟨0, (List.append_nil _).symm⟩
  | cons b r => exact ⟨_, rfl⟩
/-! ### values, names -/
def mt : List Str → Nat → List Tk
  | [], _ => []
  | v :: r, n => sg "," n :: nt v (n + 2) :: mt r (n + 2 + v.length + 1)
theorem tks_csep : ∀ (u : Str) (r : List Str) (n : Nat), u ∈ AA → (∀ x ∈ r, x ∈ AA) → tks (csep (u :: r)) n = nt u n :: mt r (n + u.length + 1)
  | u, [], n, hu, _ => wt_nm hu
  | u, v :: r, n, hu, h => by
    have e1 := csep_ne (v :: r)
    have e : tks (csep (u :: v :: r)) n = wt u n ++ (wt "," (n + u.length + 1) ++ tks (csep (v :: r)) (n + u.length + 1 + ("," : Str).length + 1)) := by
      rw [csep]
      cases hc : csep (v :: r) with
      | nil => exact absurd hc e1
      | cons a b => rfl
    rw [e, tks_csep v r _ (h v List.mem_cons_self) fun x m => h x (List.mem_cons_of_mem _ m), wt_nm hu, wt_sg (x := ",") (by decide +kernel) (by decide +kernel)]
    rfl
theorem p_val {e : Nat} {u : Str} {n : Nat} {rest : List Tk} : rdVal e (nt u n :: rest) = .ok (.nm u, rest) := rfl
theorem p_more {e : Nat} : ∀ (r : List Str) (n f m : Nat) (rest : List Tk), r.length < f → rdMore e f (mt r n ++ sg ")" m :: rest) = some (.ok (r.map Vl.nm, sg ")" m :: rest))
  | [], n, f + 1, m, rest, _ => rfl
  | v :: r, n, f + 1, m, rest, h => by
    rw [List.length_cons] at h
    have ih := p_more (e := e) r (n + 2 + v.length + 1) f m rest (by omega)
    show (match rdMore e f (mt r (n + 2 + v.length + 1) ++ sg ")" m :: rest) with
      | none => none
      | some (Except.error x) => some (Except.error x)
      | some (Except.ok (vs, r3)) => some (Except.ok (Vl.nm v :: vs, r3))) = _
    rw [ih]
    rfl
theorem p_vals {e : Nat} {us : List Str} {n m f : Nat} {rest : List Tk} (h : ∀ u ∈ us, u ∈ AA) (hf : us.length < f) : rdVals e f (tks (csep us) n ++ sg ")" m :: rest) = some (.ok (us.map Vl.nm, rest)) := by
  cases us with
  | nil => rfl
  | cons u r =>
    rw [List.length_cons] at hf
    rw [tks_csep u r n (h u List.mem_cons_self) fun x mx => h x (List.mem_cons_of_mem _ mx)]
    have ih := p_more (e := e) r (n + u.length + 1) f m rest (by omega)
    show (match rdMore e f (mt r (n + u.length + 1) ++ sg ")" m :: rest) with
      | none => none
      | some (Except.error x) => some (Except.error x)
      | some (Except.ok (vs, r2)) => match expct e ")" r2 with
        | Except.error x => some (Except.error x)
        | Except.ok r3 => some (Except.ok (Vl.nm u :: vs, r3))) = _
    rw [ih]
    rfl
theorem p_nms {e : Nat} : ∀ (r : List Str) (n f m : Nat) (rest : List Tk), r.length < f → rdNms e f (mt r n ++ sg ")" m :: rest) = some (.ok (r, sg ")" m :: rest))
  | [], n, f + 1, m, rest, _ => rfl
  | v :: r, n, f + 1, m, rest, h => by
    rw [List.length_cons] at h
    have ih := p_nms (e := e) r (n + 2 + v.length + 1) f m rest (by omega)
    show (match rdNms e f (mt r (n + 2 + v.length + 1) ++ sg ")" m :: rest) with
      | none => none
      | some (Except.error x) => some (Except.error x)
      | some (Except.ok (vs, r3)) => some (Except.ok (v :: vs, r3))) = _
    rw [ih]
theorem p_ps {e : Nat} {us : List Str} {n m f : Nat} {rest : List Tk} (h : ∀ u ∈ us, u ∈ AA) (hf : us.length < f) : rdPs e f (tks (csep us) n ++ sg ")" m :: rest) = some (.ok (us, rest)) := by
  cases us with
  | nil => rfl
  | cons u r =>
    rw [List.length_cons] at hf
    rw [tks_csep u r n (h u List.mem_cons_self) fun x mx => h x (List.mem_cons_of_mem _ mx)]
    have ih := p_nms (e := e) r (n + u.length + 1) f m rest (by omega)
    show (match rdNms e f (mt r (n + u.length + 1) ++ sg ")" m :: rest) with
      | none => none
      | some (Except.error x) => some (Except.error x)
      | some (Except.ok (vs, r2)) => match expct e ")" r2 with
        | Except.error x => some (Except.error x)
        | Except.ok r3 => some (Except.ok (u :: vs, r3))) = _
    rw [ih]
    rfl
/-! ### statements -/
theorem p_stm {hs : List (Str × Nat)} {e k lv f n : Nat} {s : Sm} {rest : List Tk} (hh : OkHs hs) (h : OkS hs k s) : rdStm e (f + 10) lv (tks (sW s) n ++ rest) k = some (.ok (s, rest, k + 1)) := by
  cases h with
  | new x hx =>
    have e1 : tks (sW (.new x k)) n = [nt x n, sg "=" (n + x.length + 1), rv "new" (n + x.length + 1 + ("=" : Str).length + 1), sg ";" (n + x.length + 1 + ("=" : Str).length + 1 + ("new" : Str).length + 1)] := by
      show wt x n ++ (wt "=" _ ++ (wt "new" _ ++ wt ";" _)) = _
      rw [wt_nm (in2 hx), wt_sg (x := "=") (by decide +kernel) (by decide +kernel), wt_rv (x := "new") (by decide +kernel) (by decide +kernel), wt_sg (x := ";") (by decide +kernel) (by decide +kernel)]
      rfl
    rw [e1, rdStm]
    rfl
  | set x v hx hv =>
    have e1 : tks (sW (.set x (.nm v) k)) n = [nt x n, sg "=" (n + x.length + 1), nt v (n + x.length + 1 + ("=" : Str).length + 1), sg ";" (n + x.length + 1 + ("=" : Str).length + 1 + v.length + 1)] := by
      show wt x n ++ (wt "=" _ ++ (wt v _ ++ wt ";" _)) = _
      rw [wt_nm (in2 hx), wt_sg (x := "=") (by decide +kernel) (by decide +kernel), wt_nm (in7 hv), wt_sg (x := ";") (by decide +kernel) (by decide +kernel)]
      rfl
    rw [e1, rdStm]
    rfl
  | out v hv =>
    have e1 : tks (sW (.out v k)) n = [rv "out" n, nt v (n + ("out" : Str).length + 1), sg ";" (n + ("out" : Str).length + 1 + v.length + 1)] := by
      show wt "out" n ++ (wt v _ ++ wt ";" _) = _
      rw [wt_rv (x := "out") (by decide +kernel) (by decide +kernel), wt_nm (in7 hv), wt_sg (x := ";") (by decide +kernel) (by decide +kernel)]
      rfl
    rw [e1, rdStm]
    rfl
  | ret v hv =>
    have e1 : tks (sW (.ret (.nm v) k)) n = [rv "return" n, nt v (n + ("return" : Str).length + 1), sg ";" (n + ("return" : Str).length + 1 + v.length + 1)] := by
      show wt "return" n ++ (wt v _ ++ wt ";" _) = _
      rw [wt_rv (x := "return") (by decide +kernel) (by decide +kernel), wt_nm (in7 hv), wt_sg (x := ";") (by decide +kernel) (by decide +kernel)]
      rfl
    rw [e1, rdStm]
    rfl
  | call x g c us hx hg hu hl =>
    have hgc := hh.2 _ hg
    have hc4 : us.length < f + 9 := by
      have := hgc.2
      dsimp only at this
      omega
    have ea : tks ([x, "=", g, "("] : List Str) n = [nt x n, sg "=" (n + x.length + 1), nt g (n + x.length + 1 + ("=" : Str).length + 1), sg "(" (n + x.length + 1 + ("=" : Str).length + 1 + g.length + 1)] := by
      show wt x n ++ (wt "=" _ ++ (wt g _ ++ wt "(" _)) = _
      rw [wt_nm (in2 hx), wt_sg (x := "=") (by decide +kernel) (by decide +kernel), wt_nm (inH hgc.1), wt_sg (x := "(") (by decide +kernel) (by decide +kernel)]
      rfl
    have eb : ∀ m, tks ([")", ";"] : List Str) m = [sg ")" m, sg ";" (m + (")" : Str).length + 1)] := fun m => by
      show wt ")" m ++ wt ";" _ = _
      rw [wt_sg (x := ")") (by decide +kernel) (by decide +kernel), wt_sg (x := ";") (by decide +kernel) (by decide +kernel)]
      rfl
    have e1 : tks (sW (.call x g (us.map Vl.nm) k)) n = tks ([x, "=", g, "("] : List Str) n ++ (tks (csep us) (n + (txt ([x, "=", g, "("] : List Str)).length + 1) ++ tks ([")", ";"] : List Str) (n + (txt ([x, "=", g, "("] : List Str)).length + 1 + (txt (csep us)).length + 1)) := by
      show tks (([x, "=", g, "("] : List Str) ++ (csep ((us.map Vl.nm).map nmOf) ++ ([")", ";"] : List Str))) n = _
      rw [map_nm, tks_app _ _ _ (by simp) (by simp), tks_app _ _ _ (csep_ne _) (by simp)]
    rw [e1, ea, eb]
    generalize n + (txt ([x, "=", g, "("] : List Str)).length + 1 = n4
    generalize n4 + (txt (csep us)).length + 1 = n5
    generalize n5 + (")" : Str).length + 1 = n6
    generalize n + x.length + 1 + ("=" : Str).length + 1 + g.length + 1 = n3
    generalize n + x.length + 1 + ("=" : Str).length + 1 = n2
    generalize n + x.length + 1 = n1
    have ih := p_vals (e := e) (us := us) (n := n4) (m := n5) (f := f + 9) (rest := sg ";" n6 :: rest) (fun u m => in5 (hu u m)) hc4
    have e2 : [nt x n, sg "=" n1, nt g n2, sg "(" n3] ++ (tks (csep us) n4 ++ [sg ")" n5, sg ";" n6]) ++ rest = nt x n :: sg "=" n1 :: nt g n2 :: sg "(" n3 :: (tks (csep us) n4 ++ sg ")" n5 :: sg ";" n6 :: rest) := by simp
    rw [e2, rdStm]
    show (match (match rdVals e (f + 9) (tks (csep us) n4 ++ sg ")" n5 :: sg ";" n6 :: rest) with
      | none => none
      | some (Except.error x) => some (Except.error x)
      | some (Except.ok (vs, r3)) => some (Except.ok (Sm.call x g vs k, r3))) with
      | none => none
      | some (Except.error x) => some (Except.error x)
      | some (Except.ok (s, r)) => match expct e ";" r with
        | Except.error x => some (Except.error x)
        | Except.ok r2 => some (Except.ok (s, r2, k + 1))) = _
    rw [ih]
    rfl
/-! ### blocks, functions, items -/
theorem s_head {hs : List (Str × Nat)} {k n : Nat} {s : Sm} (h : OkS hs k s) : ∃ t ts, tks (sW s) n = t :: ts ∧ t.kind ≠ "sign" := by
  cases h with
  | new x hx => exact ⟨nt x n, _, by show wt x n ++ _ = _; rw [wt_nm (in2 hx)]; rfl, by show ("name" : Str) ≠ "sign"; decide +kernel⟩
  | set x v hx hv => exact ⟨nt x n, _, by show wt x n ++ _ = _; rw [wt_nm (in2 hx)]; rfl, by show ("name" : Str) ≠ "sign"; decide +kernel⟩
  | out v hv => exact ⟨rv "out" n, _, by show wt "out" n ++ _ = _; rw [wt_rv (x := "out") (by decide +kernel) (by decide +kernel)]; rfl, by show ("reserved" : Str) ≠ "sign"; decide +kernel⟩
  | ret v hv => exact ⟨rv "return" n, _, by show wt "return" n ++ _ = _; rw [wt_rv (x := "return") (by decide +kernel) (by decide +kernel)]; rfl, by show ("reserved" : Str) ≠ "sign"; decide +kernel⟩
  | call x g c us hx hg hu hl => exact ⟨nt x n, _, by show wt x n ++ _ = _; rw [wt_nm (in2 hx)]; rfl, by show ("name" : Str) ≠ "sign"; decide +kernel⟩
theorem acc_no {k v : Str} {t : Tk} {ts : List Tk} (h : t.kind ≠ k) : acc k v (t :: ts) = none := by
  refine K7.acc_f ?_
  show (decide (t.kind = k) && _) = false
  rw [decide_eq_false h]
  rfl
theorem p_stms {hs : List (Str × Nat)} {e lv m : Nat} {rest : List Tk} (hh : OkHs hs) : ∀ (ss : List Sm) (k f n : Nat), (∀ (j : Nat) (h : j < ss.length), OkS hs (k + j) ss[j]) → rdStms e (f + ss.length + 11) lv (tj (ss.map sW) n ++ sg "}" m :: rest) k = some (.ok (ss, rest, k + ss.length))
  | [], k, f, n, _ => by
    rw [rdStms]
    rfl
  | s :: ss, k, f, n, h => by
    obtain ⟨n', en⟩ := tj_cons (sW s) (ss.map sW) n
    have h0 := h 0 (Nat.zero_lt_succ _)
    have h1 : ∀ (j : Nat) (hj : j < ss.length), OkS hs (k + 1 + j) ss[j] := fun j hj => by
      have z := h (j + 1) (Nat.succ_lt_succ hj)
      rw [show k + 1 + j = k + (j + 1) by omega]
      exact z
    have ih := p_stms (e := e) (lv := lv) (m := m) (rest := rest) hh ss (k + 1) f n' h1
    have hst := p_stm (e := e) (lv := lv) (f := f + ss.length + 1) (n := n) (rest := tj (ss.map sW) n' ++ sg "}" m :: rest) hh h0
    have hna : acc "sign" "}" (tks (sW s) n ++ (tj (ss.map sW) n' ++ sg "}" m :: rest)) = none := by
      obtain ⟨t, ts, e1, e2⟩ := s_head (n := n) (show OkS hs (k + 0) s from h0)
      rw [e1]
      exact acc_no e2
    rw [List.map_cons, en, List.append_assoc, show f + (s :: ss).length + 11 = (f + ss.length + 11) + 1 by rw [List.length_cons]; omega, rdStms, hna]
    dsimp only
    rw [show f + ss.length + 11 = f + ss.length + 1 + 10 by omega, show rdStm e (f + ss.length + 1 + 10) lv (tks (sW s) n ++ (tj (ss.map sW) n' ++ sg "}" m :: rest)) k = _ from hst]
    dsimp only
    rw [show f + ss.length + 1 + 10 = f + ss.length + 11 by omega, show rdStms e (f + ss.length + 11) lv (tj (ss.map sW) n' ++ sg "}" m :: rest) (k + 0 + 1) = _ from ih]
    dsimp only
    rw [List.length_cons, show k + 0 + 1 + ss.length = k + (ss.length + 1) by omega]
    rfl
theorem p_fn {hs : List (Str × Nat)} {e n f : Nat} {g : Fd} {rest : List Tk} (hh : OkHs hs) (h : OkFd hs g) : ∃ k, wrd e "fn" (tks (fW g) n ++ rest) = .ok ((tks (fW g) n ++ rest).tail) ∧ acc "reserved" "global" (tks (fW g) n ++ rest) = none ∧ rdFn e (f + 30) ((tks (fW g) n ++ rest).tail) = some (.ok (g, rest, k)) := by
  obtain ⟨c, hc, hcl⟩ := h.nm
  have hgc := hh.2 _ hc
  have hps : g.ps.length ≤ 3 := by rw [hcl]; exact hgc.2
  have hln := h.len
  have hjn : jw (g.body.map sW) ≠ [] := jw_ne _ fun a m => by
    obtain ⟨y, hy, rfl⟩ := List.mem_map.mp m
    exact sW_ne y
  have ea : ∀ m, ∃ m1 m2, tks (["fn", g.name, "("] : List Str) m = [rv "fn" m, nt g.name m1, sg "(" m2] := fun m => by
    refine ⟨m + ("fn" : Str).length + 1, m + ("fn" : Str).length + 1 + g.name.length + 1, ?_⟩
    show wt "fn" m ++ (wt g.name _ ++ wt "(" _) = _
    rw [wt_rv (x := "fn") (by decide +kernel) (by decide +kernel), wt_nm (inH hgc.1), wt_sg (x := "(") (by decide +kernel) (by decide +kernel)]
    rfl
  have eb : ∀ m, ∃ m1, tks ([")", "{"] : List Str) m = [sg ")" m, sg "{" m1] := fun m => by
    refine ⟨m + (")" : Str).length + 1, ?_⟩
    show wt ")" m ++ wt "{" _ = _
    rw [wt_sg (x := ")") (by decide +kernel) (by decide +kernel), wt_sg (x := "{") (by decide +kernel) (by decide +kernel)]
    rfl
  have ec : ∀ m, tks (["}"] : List Str) m = [sg "}" m] := fun m => wt_sg (x := "}") (by decide +kernel) (by decide +kernel)
  have e1 : ∃ m1 m2 m3 m4 m5 m6 m7, tks (fW g) n = rv "fn" n :: nt g.name m1 :: sg "(" m2 :: (tks (csep g.ps) m3 ++ sg ")" m4 :: sg "{" m5 :: (tj (g.body.map sW) m6 ++ [sg "}" m7])) := by
    unfold fW
    rw [tks_app _ _ _ (by simp) (by simp), tks_app _ _ _ (csep_ne _) (by simp), tks_app _ _ _ (by simp) (by simp), tks_app _ _ _ hjn (by simp), ec]
    obtain ⟨m1, m2, e2⟩ := ea n
    rw [e2]
    generalize n + (txt (["fn", g.name, "("] : List Str)).length + 1 = m3
    generalize m3 + (txt (csep g.ps)).length + 1 = m4
    obtain ⟨m5, e3⟩ := eb m4
    rw [e3]
    generalize m4 + (txt ([")", "{"] : List Str)).length + 1 = m6
    generalize m6 + (txt (jw (g.body.map sW))).length + 1 = m7
    rw [tj_jw _ _ fun a m => by
      obtain ⟨y, hy, rfl⟩ := List.mem_map.mp m
      exact sW_ne y]
    exact ⟨m1, m2, m3, m4, m5, m6, m7, rfl⟩
  obtain ⟨m1, m2, m3, m4, m5, m6, m7, e1⟩ := e1
  refine ⟨0 + g.body.length, ?_⟩
  rw [e1]
  refine ⟨rfl, rfl, ?_⟩
  have ip := p_ps (e := e) (us := g.ps) (n := m3) (m := m4) (f := f + 30) (rest := sg "{" m5 :: (tj (g.body.map sW) m6 ++ sg "}" m7 :: rest)) (fun u m => in6 (h.ps u m)) (by omega)
  have is := p_stms (e := e) (lv := 1) (m := m7) (rest := rest) hh g.body 0 (f + 29 - g.body.length - 11) m6 fun j hj => by
    rw [Nat.zero_add]
    exact h.st j hj
  rw [show f + 29 - g.body.length - 11 + g.body.length + 11 = f + 29 by omega] at is
  have e2 : (rv "fn" n :: nt g.name m1 :: sg "(" m2 :: (tks (csep g.ps) m3 ++ sg ")" m4 :: sg "{" m5 :: (tj (g.body.map sW) m6 ++ [sg "}" m7])) ++ rest).tail = nt g.name m1 :: sg "(" m2 :: (tks (csep g.ps) m3 ++ sg ")" m4 :: sg "{" m5 :: (tj (g.body.map sW) m6 ++ sg "}" m7 :: rest)) := by simp
  rw [e2]
  show (match rdPs e (f + 30) (tks (csep g.ps) m3 ++ sg ")" m4 :: sg "{" m5 :: (tj (g.body.map sW) m6 ++ sg "}" m7 :: rest)) with
    | none => none
    | some (Except.error x) => some (Except.error x)
    | some (Except.ok (ps, r3)) => match rdBlk e (f + 30) 1 r3 0 with
      | none => none
      | some (Except.error x) => some (Except.error x)
      | some (Except.ok (b, r4, k)) => some (Except.ok (Fd.mk g.name ps b, r4, k))) = _
  rw [ip]
  dsimp only
  rw [show f + 30 = (f + 29) + 1 from rfl, rdBlk, if_neg (fun z => absurd z.1 (by decide))]
  show (match rdStms e (f + 29) 1 (tj (g.body.map sW) m6 ++ sg "}" m7 :: rest) 0 with
      | none => none
      | some (Except.error x) => some (Except.error x)
      | some (Except.ok (b, r4, k)) => some (Except.ok (Fd.mk g.name g.ps b, r4, k))) = _
  rw [is]
def pre (its : List Itm) : Pr (List Itm) → Pr (List Itm)
  | none => none
  | some (.error e) => some (.error e)
  | some (.ok l) => some (.ok (its ++ l))
theorem pre_pre (a b : List Itm) : ∀ x, pre a (pre b x) = pre (a ++ b) x
  | none => rfl
  | some (.error e) => rfl
  | some (.ok l) => by
    show some (Except.ok (a ++ (b ++ l))) = some (Except.ok (a ++ b ++ l))
    rw [List.append_assoc]
theorem p_item {hs : List (Str × Nat)} {e n f : Nat} {i : Itm} {rest : List Tk} (hh : OkHs hs) (h : OkI hs i) : rdItms e (f + 31) (tks (iW i) n ++ rest) = pre [i] (rdItms e (f + 30) rest) := by
  cases h with
  | glo x hx =>
    have e1 : tks (iW (.glo x)) n = [rv "global" n, nt x (n + ("global" : Str).length + 1), sg ";" (n + ("global" : Str).length + 1 + x.length + 1)] := by
      show wt "global" n ++ (wt x _ ++ wt ";" _) = _
      rw [wt_rv (x := "global") (by decide +kernel) (by decide +kernel), wt_nm (in3 hx), wt_sg (x := ";") (by decide +kernel) (by decide +kernel)]
      rfl
    rw [e1, rdItms, if_neg (by simp)]
    show (match rdItms e (f + 30) rest with
      | none => none
      | some (Except.error x) => some (Except.error x)
      | some (Except.ok l) => some (Except.ok (Itm.glo x :: l))) = _
    cases rdItms e (f + 30) rest with
    | none => rfl
    | some z => cases z <;> rfl
  | fn g hg =>
    obtain ⟨k, h1, h2, h3⟩ := p_fn (e := e) (n := n) (f := f) (rest := rest) hh hg
    show rdItms e (f + 30 + 1) (tks (fW g) n ++ rest) = _
    have hne : ¬ tks (fW g) n ++ rest = [] := fun z => by
      rw [z] at h1
      cases h1
    rw [rdItms, if_neg hne, h2]
    dsimp only
    rw [h1]
    dsimp only
    rw [h3]
    dsimp only
    cases rdItms e (f + 30) rest with
    | none => rfl
    | some z => cases z <;> rfl
theorem p_items {hs : List (Str × Nat)} {e f : Nat} {rest : List Tk} (hh : OkHs hs) : ∀ (its : List Itm) (n : Nat), (∀ i ∈ its, OkI hs i) → rdItms e (f + 30 + its.length) (tj (its.map iW) n ++ rest) = pre its (rdItms e (f + 30) rest)
  | [], n, _ => by
    show rdItms e (f + 30) rest = _
    cases rdItms e (f + 30) rest with
    | none => rfl
    | some z => cases z <;> rfl
  | i :: its, n, h => by
    obtain ⟨n', en⟩ := tj_cons (iW i) (its.map iW) n
    rw [List.map_cons, en, List.append_assoc, List.length_cons, show f + 30 + (its.length + 1) = (f + its.length) + 31 by omega, p_item hh (h i List.mem_cons_self), show f + its.length + 30 = f + 30 + its.length by omega, p_items hh its n' fun x m => h x (List.mem_cons_of_mem _ m), pre_pre]
    rfl
theorem tj_app : ∀ (a b : List (List Str)) (n : Nat), (∀ x ∈ a, x ≠ []) → a ≠ [] → b ≠ [] → tj (a ++ b) n = tj a n ++ tj b (n + (txt (jw a)).length + 1)
  | [], b, n, _, h, _ => absurd rfl h
  | [x], y :: r, n, _, _, _ => rfl
  | [x], [], n, _, _, h => absurd rfl h
  | x :: y :: r, b, n, hx, _, hb => by
    have h2 : ∀ z ∈ y :: r, z ≠ [] := fun z m => hx z (List.mem_cons_of_mem _ m)
    have e : tj (x :: y :: r ++ b) n = tks x n ++ tj (y :: r ++ b) (n + (txt x).length + 1) := rfl
    rw [e, tj_app (y :: r) b _ h2 (by simp) hb, jw, txt_app _ _ (hx x List.mem_cons_self) (jw_ne _ h2), List.length_append, List.length_cons]
    show _ = tks x n ++ tj (y :: r) (n + (txt x).length + 1) ++ _
    rw [List.append_assoc]
    congr 3
    omega
theorem jlen2 : ∀ (ps : List Str), (Txt.join " " ps).length ≤ (ps.map (·.length)).sum + ps.length := by
  intro ps
  rw [TL.join_eq]
  induction ps with
  | nil => exact Nat.zero_le _
  | cons p r ih =>
    cases r with
    | nil =>
      show p.length ≤ _
      simp
    | cons q r =>
      show (p ++ " " ++ Str.join " " (q :: r)).length ≤ _
      rw [Str.length_append, Str.length_append, List.map_cons, List.sum_cons, List.length_cons]
      have e6 : (" " : Str).length = 1 := by decide +kernel
      omega
theorem iText_le {hs : List (Str × Nat)} {i : Itm} (hh : OkHs hs) (h : OkI hs i) : (iText i).length ≤ 1000 := by
  cases h with
  | glo x hx =>
    have := Wx.s3 hx
    show ("global " ++ x ++ " ;").length ≤ 1000
    rw [Str.length_append, Str.length_append]
    have e1 : ("global " : Str).length = 7 := by decide +kernel
    have e2 : (" ;" : Str).length = 2 := by decide +kernel
    omega
  | fn f hf => exact fText_le hh hf
theorem sum_le {hs : List (Str × Nat)} {its : List Itm} (hh : OkHs hs) (h : ∀ i ∈ its, OkI hs i) : ((its.map iText).map (·.length)).sum ≤ its.length * 1000 := by
  have z := jsum (y := " ") (B := 1000) (its.map iText) fun u m => by
    obtain ⟨i, hi, rfl⟩ := List.mem_map.mp m
    exact iText_le hh (h i hi)
  rw [List.length_map] at z
  exact z
section
variable {hs : List (Str × Nat)} {its : List Itm}
theorem ne_map (l : List Itm) : ∀ a ∈ l.map iW, a ≠ [] := fun a m => by
  obtain ⟨y, hy, rfl⟩ := List.mem_map.mp m
  exact iW_ne y
theorem wd_map (hh : OkHs hs) (h : ∀ i ∈ its, OkI hs i) : ∀ a ∈ its.map iW, ∀ w ∈ a, Wd w := fun a m => by
  obtain ⟨y, hy, rfl⟩ := List.mem_map.mp m
  exact wd_i hh (h y hy)
/-- a list of texts with words -/
theorem prs_words {l : List (Str × List Str)} {f : Nat} (h : ∀ p ∈ l, tl p.1 = txt p.2 ∧ p.2 ≠ [] ∧ ∀ w ∈ p.2, Wd w) (hl : ((l.map Prod.fst).map (·.length)).sum + l.length ≤ 6000) :
    K7.prs f (Txt.join " " (l.map Prod.fst)) = rdItms (Txt.join " " (l.map Prod.fst)).length f (tj (l.map Prod.snd) 0) := by
  have e := tl_jw (f := Prod.fst) (g := Prod.snd) l fun p m => ⟨(h p m).1, (h p m).2.1⟩
  have hn : ∀ a ∈ l.map Prod.snd, a ≠ [] := fun a m => by
    obtain ⟨y, hy, rfl⟩ := List.mem_map.mp m
    exact (h y hy).2.1
  have z := jlen2 (l.map Prod.fst)
  rw [List.length_map] at z
  have e2 := lex_words e (wd_jw _ fun a m => by
    obtain ⟨y, hy, rfl⟩ := List.mem_map.mp m
    exact (h y hy).2.2) (by omega)
  rw [tj_jw _ _ hn] at e2
  unfold K7.prs
  rw [e2]
def pr (i : Itm) : Str × List Str := (iText i, iW i)
theorem pr_ok (hh : OkHs hs) (h : ∀ i ∈ its, OkI hs i) : ∀ p ∈ its.map pr, tl p.1 = txt p.2 ∧ p.2 ≠ [] ∧ ∀ w ∈ p.2, Wd w := fun p m => by
  obtain ⟨i, hi, rfl⟩ := List.mem_map.mp m
  exact ⟨iW_txt hh (h i hi), iW_ne i, wd_i hh (h i hi)⟩
theorem pr_fst (l : List Itm) : (l.map pr).map Prod.fst = l.map iText := by rw [List.map_map]; rfl
theorem pr_snd (l : List Itm) : (l.map pr).map Prod.snd = l.map iW := by rw [List.map_map]; rfl
theorem prs_ok (hh : OkHs hs) (h : ∀ i ∈ its, OkI hs i) (hl : its.length ≤ 5) : K7.prs 5000 (Txt.join " " (its.map iText)) = some (.ok its) := by
  have hs1 := sum_le hh h
  have e := prs_words (f := 5000) (pr_ok hh h) (by rw [pr_fst, List.length_map]; omega)
  rw [pr_fst, pr_snd] at e
  rw [e]
  have e2 := p_items (e := (Txt.join " " (its.map iText)).length) (f := 4970 - its.length) (rest := []) hh its 0 h
  rw [show 4970 - its.length + 30 + its.length = 5000 by omega, List.append_nil] at e2
  rw [e2, show 4970 - its.length + 30 = (4970 - its.length + 29) + 1 from rfl, rdItms]
  show some (Except.ok (its ++ [])) = _
  rw [List.append_nil]
def T6 : List Str := ["x", ";", "}", "out", "7", "="]
theorem bad : ∀ t ∈ T6, ∀ (e p f : Nat) (rest : List Tk), rdItms e (f + 1) (wt t p ++ rest) = some (.error (.mal p)) := by
  have hw : ∀ (t : Tk) (e p f : Nat) (rest : List Tk), t.at_ = p → isTk "reserved" "global" (t :: rest) = false → isTk "reserved" "fn" (t :: rest) = false → rdItms e (f + 1) (t :: rest) = some (.error (.mal p)) := by
    intro t e p f rest h1 h2 h3
    rw [rdItms, if_neg (by simp), K7.acc_f h2]
    dsimp only
    unfold wrd
    rw [K7.acc_f h3]
    show some (Except.error (Er.mal t.at_)) = _
    rw [h1]
  unfold T6
  refine mem_cons_all ?_ (mem_cons_all ?_ (mem_cons_all ?_ (mem_cons_all ?_ (mem_cons_all ?_ (mem_cons_all ?_ nil_all)))))
  · intro e p f rest
    rw [wt_nm (x := "x") (by decide +kernel)]
    exact hw _ _ _ _ _ rfl rfl rfl
  · intro e p f rest
    rw [wt_sg (x := ";") (by decide +kernel) (by decide +kernel)]
    exact hw _ _ _ _ _ rfl rfl rfl
  · intro e p f rest
    rw [wt_sg (x := "}") (by decide +kernel) (by decide +kernel)]
    exact hw _ _ _ _ _ rfl rfl rfl
  · intro e p f rest
    rw [wt_rv (x := "out") (by decide +kernel) (by decide +kernel)]
    exact hw _ _ _ _ _ rfl rfl rfl
  · intro e p f rest
    rw [show wt "7" p = [⟨"number", .int 7, p⟩] by
      unfold wt
      rw [if_neg (by decide +kernel), if_neg (by decide +kernel), if_pos rfl]]
    exact hw _ _ _ _ _ rfl rfl rfl
  · intro e p f rest
    rw [wt_sg (x := "=") (by decide +kernel) (by decide +kernel)]
    exact hw _ _ _ _ _ rfl rfl rfl
theorem t6_w : ∀ t ∈ T6, Wd t := by
  unfold T6
  exact mem_cons_all (wd_w (by decide +kernel)) (mem_cons_all (wd_sg (by decide +kernel)) (mem_cons_all (wd_sg (by decide +kernel)) (mem_cons_all (wd_w (by decide +kernel)) (mem_cons_all (.inr (.inr (.inl rfl))) (mem_cons_all (wd_sg (by decide +kernel)) nil_all)))))
theorem prs_spoilt (hh : OkHs hs) (h : ∀ i ∈ its, OkI hs i) (hl : its.length ≤ 5) {t : Str} (ht : t ∈ T6) {cut : Nat} (hc : cut ≤ its.length) :
    K7.prs 5000 (Txt.join " " ((its.map iText).take cut ++ [t] ++ (its.map iText).drop cut)) = some (.error (.mal (if 0 < cut then (Txt.join " " ((its.map iText).take cut ++ ([""] : List Str))).length else 0))) := by
  have hA : ∀ i ∈ its.take cut, OkI hs i := fun i m => h i (List.mem_of_mem_take m)
  have hB : ∀ i ∈ its.drop cut, OkI hs i := fun i m => h i (List.mem_of_mem_drop m)
  have s1 := sum_le hh hA
  have s2 := sum_le hh hB
  rw [List.length_take] at s1
  rw [List.length_drop] at s2
  have ht4 : t.length ≤ 4 := short T6 (by decide +kernel) ht
  have ef : ((its.take cut).map pr ++ [(t, [t])] ++ (its.drop cut).map pr).map Prod.fst = (its.map iText).take cut ++ [t] ++ (its.map iText).drop cut := by
    rw [List.map_append, List.map_append, pr_fst, pr_fst, List.map_take, List.map_drop]
    rfl
  have es : ((its.take cut).map pr ++ [(t, [t])] ++ (its.drop cut).map pr).map Prod.snd = (its.take cut).map iW ++ ([t] :: (its.drop cut).map iW) := by
    rw [List.map_append, List.map_append, pr_snd, pr_snd, List.append_assoc]
    rfl
  have e := prs_words (f := 5000) (l := (its.take cut).map pr ++ [(t, [t])] ++ (its.drop cut).map pr) (app_all (app_all (pr_ok hh hA) (mem_cons_all ⟨rfl, by simp, mem_cons_all (t6_w t ht) nil_all⟩ nil_all)) (pr_ok hh hB)) (by
    rw [List.map_append, List.map_append, List.map_append, List.map_append, pr_fst, pr_fst, List.sum_append, List.sum_append, List.length_append, List.length_append, List.length_map, List.length_map, List.length_take, List.length_drop]
    show _ + (t.length + 0) + _ + (_ + 1 + _) ≤ 6000
    omega)
  rw [ef, es] at e
  rw [e]
  generalize (Txt.join " " ((its.map iText).take cut ++ [t] ++ (its.map iText).drop cut)).length = ee
  by_cases hc0 : 0 < cut
  · rw [if_pos hc0]
    have hne : (its.take cut).map iW ≠ [] := by
      intro z
      have z2 := congrArg List.length z
      rw [List.length_map, List.length_take] at z2
      have : ([] : List (List Str)).length = 0 := rfl
      omega
    have epl : (Txt.join " " ((its.map iText).take cut ++ ([""] : List Str))).length = (txt (jw ((its.take cut).map iW))).length + 1 := by
      have e3 := tl_jw (f := Prod.fst) (g := Prod.snd) ((its.take cut).map pr ++ ([("", [""])] : List (Str × List Str))) (app_all (fun p m => ⟨(pr_ok hh hA p m).1, (pr_ok hh hA p m).2.1⟩) (mem_cons_all ⟨rfl, by simp⟩ nil_all))
      rw [List.map_append, pr_fst, List.map_append, pr_snd, List.map_take] at e3
      have e4 : ∀ (a : List (List Str)), (∀ x ∈ a, x ≠ []) → a ≠ [] → txt (jw (a ++ ([[""]] : List (List Str)))) = txt (jw a) ++ [32] := by
        intro a
        induction a with
        | nil => exact fun _ z => absurd rfl z
        | cons x a ih =>
          intro hx _
          cases a with
          | nil =>
            show txt (x ++ ([""] : List Str)) = txt x ++ [32]
            rw [txt_app _ _ (hx x List.mem_cons_self) (by simp)]
            rfl
          | cons y a =>
            have h2 : ∀ z ∈ y :: a, z ≠ [] := fun z m => hx z (List.mem_cons_of_mem _ m)
            have ih := ih h2 (by simp)
            have e5 : jw (x :: y :: a ++ ([[""]] : List (List Str))) = x ++ jw (y :: a ++ ([[""]] : List (List Str))) := rfl
            rw [e5, txt_app _ _ (hx x List.mem_cons_self) (jw_ne _ (app_all h2 (mem_cons_all (by simp) nil_all))), ih, jw, txt_app _ _ (hx x List.mem_cons_self) (jw_ne _ h2), List.append_assoc]
            rfl
      have e6 : (tl (Txt.join " " ((its.map iText).take cut ++ ([""] : List Str)))).length = _ := congrArg List.length (e3.trans (e4 _ (ne_map _) hne))
      rw [List.length_append] at e6
      exact e6
    rw [epl, tj_app _ _ _ (ne_map _) hne (by simp)]
    have e2 := p_items (e := ee) (f := 4970 - (its.take cut).length) (rest := tj ([t] :: (its.drop cut).map iW) (0 + (txt (jw ((its.take cut).map iW))).length + 1)) hh (its.take cut) 0 hA
    have hlt : (its.take cut).length ≤ 5 := by rw [List.length_take]; omega
    rw [show 4970 - (its.take cut).length + 30 + (its.take cut).length = 5000 by omega] at e2
    rw [e2]
    obtain ⟨n', en⟩ := tj_cons [t] ((its.drop cut).map iW) (0 + (txt (jw ((its.take cut).map iW))).length + 1)
    rw [en]
    show pre _ (rdItms ee (4970 - (its.take cut).length + 29 + 1) (wt t _ ++ _)) = _
    rw [bad t ht, Nat.zero_add]
    rfl
  · rw [if_neg hc0]
    have hc1 : cut = 0 := by omega
    subst hc1
    show rdItms ee 5000 (tj ([t] :: (its.drop 0).map iW) 0) = _
    obtain ⟨n', en⟩ := tj_cons [t] ((its.drop 0).map iW) 0
    rw [en]
    exact bad t ht ee 0 4999 _
def T5 : List Str := ["global", "fn", "fn f", "fn f ( ) {", "global h"]
theorem endw : ∀ t ∈ T5, ∃ ws : List Str, tl t = txt ws ∧ ws ≠ [] ∧ (∀ w ∈ ws, Wd w) ∧ ∀ (e p f : Nat), rdItms e (f + 30) (tks ws p) = some (.error (.mal e)) := by
  unfold T5
  have hg : ∀ n, wt "global" n = [rv "global" n] := fun n => wt_rv (by decide +kernel) (by decide +kernel)
  have hf : ∀ n, wt "fn" n = [rv "fn" n] := fun n => wt_rv (by decide +kernel) (by decide +kernel)
  have hff : ∀ n, wt "f" n = [nt "f" n] := fun n => wt_nm (by decide +kernel)
  have hhh : ∀ n, wt "h" n = [nt "h" n] := fun n => wt_nm (by decide +kernel)
  refine mem_cons_all ?_ (mem_cons_all ?_ (mem_cons_all ?_ (mem_cons_all ?_ (mem_cons_all ?_ nil_all))))
  · refine ⟨["global"], rfl, by simp, mem_cons_all (wd_w (by decide +kernel)) nil_all, fun e p f => ?_⟩
    show rdItms e (f + 30) (wt "global" p) = _
    rw [hg, rdItms, if_neg (by simp)]
    rfl
  · refine ⟨["fn"], rfl, by simp, mem_cons_all (wd_w (by decide +kernel)) nil_all, fun e p f => ?_⟩
    show rdItms e (f + 30) (wt "fn" p) = _
    rw [hf, rdItms, if_neg (by simp)]
    rfl
  · refine ⟨["fn", "f"], by decide +kernel, by simp, mem2 (wd_w (by decide +kernel)) (wd_w (by decide +kernel)), fun e p f => ?_⟩
    show rdItms e (f + 30) (wt "fn" p ++ wt "f" _) = _
    rw [hf, hff, rdItms, if_neg (by simp)]
    rfl
  · refine ⟨["fn", "f", "(", ")", "{"], by decide +kernel, by simp, mem_cons_all (wd_w (by decide +kernel)) (mem_cons_all (wd_w (by decide +kernel)) (mem_cons_all (wd_sg (by decide +kernel)) (mem2 (wd_sg (by decide +kernel)) (wd_sg (by decide +kernel))))), fun e p f => ?_⟩
    show rdItms e (f + 30) (wt "fn" p ++ (wt "f" _ ++ (wt "(" _ ++ (wt ")" _ ++ wt "{" _)))) = _
    rw [hf, hff, wt_sg (x := "(") (by decide +kernel) (by decide +kernel), wt_sg (x := ")") (by decide +kernel) (by decide +kernel), wt_sg (x := "{") (by decide +kernel) (by decide +kernel), rdItms, if_neg (by simp)]
    show (match rdFn e (f + 29) [nt "f" _, sg "(" _, sg ")" _, sg "{" _] with
      | none => none
      | some (Except.error x) => some (Except.error x)
      | some (Except.ok (g, r2, _)) => match rdItms e (f + 29) r2 with
        | none => none
        | some (Except.error x) => some (Except.error x)
        | some (Except.ok l) => some (Except.ok (Itm.fn g :: l))) = _
    have z : ∀ n1 n2 n3 n4, rdFn e (f + 29) [nt "f" n1, sg "(" n2, sg ")" n3, sg "{" n4] = some (.error (.mal e)) := by
      intro n1 n2 n3 n4
      show (match rdBlk e (f + 29) 1 [sg "{" n4] 0 with
        | none => none
        | some (Except.error x) => some (Except.error x)
        | some (Except.ok (b, r4, k)) => some (Except.ok (Fd.mk "f" [] b, r4, k))) = _
      rw [rdBlk, if_neg (fun z => absurd z.1 (by decide))]
      show (match rdStms e (f + 28) 1 [] 0 with
        | none => none
        | some (Except.error x) => some (Except.error x)
        | some (Except.ok (b, r4, k)) => some (Except.ok (Fd.mk "f" [] b, r4, k))) = _
      rw [rdStms]
      show (match (match rdStm e (f + 27) 1 [] 0 with
        | none => none
        | some (Except.error x) => some (Except.error x)
        | some (Except.ok (s, r, k2)) => match rdStms e (f + 27) 1 r k2 with
          | none => none
          | some (Except.error x) => some (Except.error x)
          | some (Except.ok (ss, r2, k3)) => some (Except.ok (s :: ss, r2, k3))) with
        | none => none
        | some (Except.error x) => some (Except.error x)
        | some (Except.ok (b, r4, k)) => some (Except.ok (Fd.mk "f" [] b, r4, k))) = _
      rw [rdStm]
      rfl
    rw [z]
  · refine ⟨["global", "h"], by decide +kernel, by simp, mem2 (wd_w (by decide +kernel)) (wd_w (by decide +kernel)), fun e p f => ?_⟩
    show rdItms e (f + 30) (wt "global" p ++ wt "h" _) = _
    rw [hg, hhh, rdItms, if_neg (by simp)]
    rfl
theorem prs_short (hh : OkHs hs) (h : ∀ i ∈ its, OkI hs i) (hl : its.length ≤ 5) {t : Str} (ht : t ∈ T5) :
    K7.prs 5000 (Txt.join " " (its.map iText ++ [t])) = some (.error (.mal (Txt.join " " (its.map iText ++ [t])).length)) := by
  obtain ⟨ws, h1, h2, h3, h4⟩ := endw t ht
  have s1 := sum_le hh h
  have ht20 : t.length ≤ 20 := of_decide_eq_true (List.all_eq_true.mp (show T5.all (fun x => decide (x.length ≤ 20)) = true by decide +kernel) t ht)
  have ef : (its.map pr ++ [(t, ws)]).map Prod.fst = its.map iText ++ [t] := by
    rw [List.map_append, pr_fst]
    rfl
  have es : (its.map pr ++ [(t, ws)]).map Prod.snd = its.map iW ++ [ws] := by
    rw [List.map_append, pr_snd]
    rfl
  have e := prs_words (f := 5000) (l := its.map pr ++ [(t, ws)]) (app_all (pr_ok hh h) (mem_cons_all ⟨h1, h2, h3⟩ nil_all)) (by
    rw [List.map_append, List.map_append, pr_fst, List.sum_append, List.length_append, List.length_map]
    show _ + (t.length + 0) + (_ + 1) ≤ 6000
    omega)
  rw [ef, es] at e
  rw [e]
  generalize (Txt.join " " (its.map iText ++ [t])).length = ee
  cases its with
  | nil => exact h4 ee 0 4970
  | cons i r =>
    rw [tj_app _ _ _ (ne_map _) (by simp) (by simp)]
    have e2 := p_items (e := ee) (f := 4970 - (i :: r).length) (rest := tj [ws] (0 + (txt (jw ((i :: r).map iW))).length + 1)) hh (i :: r) 0 h
    rw [show 4970 - (i :: r).length + 30 + (i :: r).length = 5000 by omega] at e2
    rw [e2]
    show pre _ (rdItms ee (4970 - (i :: r).length + 30) (tks ws _)) = _
    rw [h4]
    rfl
end
end Pc


set_option Elab.async false
set_option linter.all false
set_option maxRecDepth 100000
set_option maxHeartbeats 4000000
namespace K7
open PySem PySem.Spec PyProof.Rows L2 He Hz Cm Lx Px Gx Wx Pa Pc
local macro_rules | `(tactic| walk_at "rd") => `(tactic| repeat (first | (refine ⟨_, rfl, ?_⟩) | (refine ⟨_, _, rfl, rfl, ?_⟩) | (refine ⟨rfl, ?_⟩) | (refine ⟨szl (by omega), ?_⟩) | (refine ⟨_, _, _, _, _, rfl, (by assumption), (by assumption), (by assumption), (by rfl), ?_⟩) | (refine ⟨_, _, rfl, Or.inl (by assumption), ?_⟩)))
local macro_rules | `(tactic| walk_at "dp") => `(tactic| (repeat' (first | exact DpAll.nil | apply DpAll.cons | exact Dp.str _ | exact Dp.int _ | exact Dp.non | exact Dp.bl _ | assumption)))
local macro_rules | `(tactic| walk_at "st") => `(tactic| repeat (first | (refine ⟨_, rfl, ?_⟩) | (refine ⟨_, _, rfl, rfl, ?_⟩) | (refine ⟨rfl, ?_⟩) | (refine ⟨szl (by omega), ?_⟩) | (refine ⟨szl (by simp only [PySem.Str.length_append]; omega), ?_⟩)))
section
variable {P : Program} {w : World} {K : PySem.W.Frag} {mg : Str → Option Value} {base : Heap} {H H1 H' : Hp} {Q : VK} {E : XK}
theorem sq_st {sc st : Addr} {xs : List V} {o : HO} (h : SqL K H sc xs) (n : H st = none) (k : Kp [st] (upd H st o) H') : SqL K H' sc xs := by
  have kn : Kp [st] H (upd H st o) := Kp.new n
  rcases h with (h | ⟨q, h⟩) | h
  · exact .inl (.inl ((kn.trans k).keep _ _ (by simpa using ne_of_none h n) h))
  · exact .inl (.inr ⟨q, (kn.trans k).keep _ _ (by simpa using ne_of_none h n) h⟩)
  · exact .inr h
theorem cut_suf {xs : List V} {i : Nat} (h : i ≤ xs.length) : cutV xs (some (i : Int)) none = xs.drop i := by
  have e : HT.sIx xs.length 0 (some (i : Int)) = i := by rw [HT.sIx_nat]; omega
  unfold cutV
  rw [e]
  show (xs.drop i).take (xs.length - i) = _
  rw [List.take_of_length_le (by rw [List.length_drop]; omega)]
theorem join_le (l : List Str) (h : ∀ p ∈ l, p.length ≤ 1000) (hl : l.length ≤ 10) : (Txt.join " " l).length ≤ 100000 := by
  have z := jlen (y := " ") l h
  have e6 : (" " : Str).length = 1 := by decide +kernel
  rw [e6] at z
  have z2 : l.length * (1000 + 1) ≤ 10 * 1001 := Nat.mul_le_mul hl (by omega)
  omega
theorem glos_app : ∀ a b : List Itm, glos (a ++ b) = glos a ++ glos b
  | [], b => rfl
  | .glo x :: a, b => by
    show x :: glos (a ++ b) = x :: glos a ++ glos b
    rw [glos_app a b]
    rfl
  | .fn f :: a, b => glos_app a b
theorem fns_app : ∀ a b : List Itm, fns (a ++ b) = fns a ++ fns b
  | [], b => rfl
  | .glo x :: a, b => fns_app a b
  | .fn f :: a, b => by
    show f :: fns (a ++ b) = f :: fns a ++ fns b
    rw [fns_app a b]
    rfl
theorem glos_len : ∀ a : List Itm, (glos a).length ≤ a.length
  | [] => Nat.le_refl _
  | .glo x :: a => Nat.succ_le_succ (glos_len a)
  | .fn f :: a => Nat.le_succ_of_le (glos_len a)
theorem fns_len : ∀ a : List Itm, (fns a).length ≤ a.length
  | [] => Nat.le_refl _
  | .glo x :: a => Nat.le_succ_of_le (fns_len a)
  | .fn f :: a => Nat.succ_le_succ (fns_len a)
theorem er_nl (er : Er) : noL (encE er) = true := by cases er <;> rfl
theorem er_nb {er : Er} (h : ErA er) : notBig er := by
  cases er <;> first | trivial | exact h.elim
def spLaw : Sp := fun vs H Q _ => ∃ a ns, vs = [.ref a] ∧ SqL K H a ((ns : List Int).map V.int) ∧ ∀ H', Q (.bl true) H'
theorem ok_law (T : Tx P K mg) : OkF P w K mg base CX0 37 a_law ["script"] (spLaw (K := K)) := by
  have nd := sc_law.nd
  have F__law_draw := ok_law_draw (P := P) (w := w) (base := base) T
  have F__law_function := ok_law_function (P := P) (w := w) (base := base) T
  have F__law_fault := ok_law_fault (P := P) (w := w) (base := base) T
  have F__law_told := ok_law_told (P := P) (w := w) (base := base) T
  refine T.f_law.ok (CX := CX0) sc_law (fun vs H Q E h => ?_) (fun cdv A outer s H vs Q E hr h => ?_)
  · obtain ⟨_, _, rfl, _⟩ := h
    rfl
  · obtain ⟨sc, ns, rfl, hS, k⟩ := h
    refine ⟨_, PSs.nox (pss_cons (ps_set (i := 1) nd rfl (Or.inl rfl) (pe_lst (pa_cons (pv 0) (pa_cons pe_int (pa_cons pe_int (pa_cons pe_int pa_nil))))))
      (pss_cons (ps_set (i := 2) nd rfl (Or.inl rfl) (pe_lst (pa_cons (pe_tup (pa_cons pe_str (pa_cons (pe_call F__law_draw (hr.mono (by decide)) rfl T.g__law_draw T.k__law_draw T.b__law_draw .nil pass0 (pa_cons (pv 1) (pa_cons pe_int pa_nil))) pa_nil))) (pa_cons (pe_tup (pa_cons pe_str (pa_cons (pe_call F__law_draw (hr.mono (by decide)) rfl T.g__law_draw T.k__law_draw T.b__law_draw .nil pass0 (pa_cons (pv 1) (pa_cons pe_int pa_nil))) pa_nil))) (pa_cons (pe_tup (pa_cons pe_str (pa_cons pe_int pa_nil))) pa_nil)))))
      (pss_cons (ps_set (i := 3) nd rfl (Or.inl rfl) (pe_lst pa_nil))
      (pss_cons (ps_set (i := 4) nd rfl (Or.inl rfl) (pe_lst pa_nil))
      (pss_cons (ps_for PassesOwn.never rfl (pi_range1 rfl T.n_range (pa_cons (pe_op op_add pe_int (pe_call F__law_draw (hr.mono (by decide)) rfl T.g__law_draw T.k__law_draw T.b__law_draw .nil pass0 (pa_cons (pv 1) (pa_cons pe_int pa_nil)))) pa_nil)) (pg_name (i := 5) nd rfl (Or.inl rfl)) (pss_one (ps_if (pt_cmpR op_eq (pe_call F__law_draw (hr.mono (by decide)) rfl T.g__law_draw T.k__law_draw T.b__law_draw .nil pass0 (pa_cons (pv 1) (pa_cons pe_int pa_nil))) pe_int (nomark _)) (pss_cons (ps_set (i := 6) nd rfl (Or.inl rfl) (pe_ix ix_list (pe_lst (pa_cons pe_str (pa_cons pe_str (pa_cons pe_str pa_nil)))) (pe_call F__law_draw (hr.mono (by decide)) rfl T.g__law_draw T.k__law_draw T.b__law_draw .nil pass0 (pa_cons (pv 1) (pa_cons pe_int pa_nil))) (fun _ _ => rfl)))
      (pss_cons (ps_expr (pe_bm PySem.F.plainAttrs_list PySem.F.slot_list_append PySem.F.type_list_append mt_append (pv 3) (pa_cons (pe_op op_add_str (pe_op op_add_str pe_str (pv 6)) pe_str) pa_nil)))
      (pss_one (ps_expr (pe_bm PySem.F.plainAttrs_list PySem.F.slot_list_append PySem.F.type_list_append mt_append (pv 4) (pa_cons (pe_tup (pa_cons pe_str (pa_cons (pv 6) pa_nil))) pa_nil)))))) (pss_cons (ps_asg (pe_ix ix_list (pv 2) (pe_ix ix_list (pe_lst (pa_cons pe_int (pa_cons pe_int (pa_cons pe_int (pa_cons pe_int pa_nil))))) (pe_call F__law_draw (hr.mono (by decide)) rfl T.g__law_draw T.k__law_draw T.b__law_draw .nil pass0 (pa_cons (pv 1) (pa_cons pe_int pa_nil))) (fun _ _ => rfl)) (fun _ _ => rfl)) (pg_tup rfl (pgs_cons (pg_name (i := 6) nd rfl (Or.inl rfl)) (pgs_cons (pg_name (i := 7) nd rfl (Or.inl rfl)) pgs_nil))))
      (pss_cons (ps_asg (pe_call F__law_function (hr.mono (by decide)) rfl T.g__law_function T.k__law_function T.b__law_function .nil pass0 (pa_cons (pv 1) (pa_cons (pv 6) (pa_cons (pv 7) (pa_cons (pv 2) pa_nil))))) (pg_tup rfl (pgs_cons (pg_name (i := 8) nd rfl (Or.inl rfl)) (pgs_cons (pg_name (i := 9) nd rfl (Or.inl rfl)) pgs_nil))))
      (pss_cons (ps_expr (pe_bm PySem.F.plainAttrs_list PySem.F.slot_list_append PySem.F.type_list_append mt_append (pv 3) (pa_cons (pv 8) pa_nil)))
      (pss_one (ps_expr (pe_bm PySem.F.plainAttrs_list PySem.F.slot_list_append PySem.F.type_list_append mt_append (pv 4) (pa_cons (pe_tup (pa_cons pe_str (pa_cons (pv 9) pa_nil))) pa_nil))))))))))
      (pss_cons (ps_set (i := 8) nd rfl (Or.inl rfl) (pe_bm PySem.F.plainAttrs_str PySem.F.slot_str_join PySem.F.type_str_join mt_join pe_str (pa_cons (pv 3) pa_nil)))
      (pss_cons (ps_if (pt_cmpR (op_neD hr.units) (pe_call F__law_told (hr.mono (by decide)) rfl T.g__law_told T.k__law_told T.b__law_told .nil pass0 (pa_cons (pv 8) (pa_cons pe_str pa_nil))) (pv 4) (nomark _)) (pss_one (ps_ret pe_bl)) pss_nil)
      (pss_cons (ps_set (i := 10) nd rfl (Or.inl rfl) (pe_call F__law_fault (hr.mono (by decide)) rfl T.g__law_fault T.k__law_fault T.b__law_fault .nil pass0 (pa_cons (pv 4) pa_nil)))
      (pss_cons (ps_if (pt_cmpR op_isN (pv 10) pe_non (nomark _)) (pss_one (ps_set (i := 10) nd rfl (Or.inl rfl) (pe_tup (pa_cons pe_str (pa_cons (pe_lc (own := [("one", 17)]) (g := gName 17)  rfl nd (pi_list (pv 4)) (blkOk_by (N := (["script", "state", "heads", "texts", "items", "k", "name", "count", "text", "function", "due", "cut", "front", "place", "token", "spoilt", "short", "one"] : List Str)) (sc := defScope s_law) (by decide +kernel)) (fun _ _ _ _ _ => pg_name (i := 17) nd rfl (Or.inl rfl)) (fun _ _ _ _ _ => pts_one (pt_cmpR op_eq (pe_ix (show IxR _ (rIxT K) from ix_tup) (pv 17) pe_int (fun _ _ => rfl)) pe_str (nomark _))) (fun _ _ _ _ _ => by exact (pe_ix (show IxR _ (rIxT K) from ix_tup) (pv 17) pe_int (fun _ _ => rfl)))) (pa_cons (pe_lc (own := [("one", 17)]) (g := gName 17)  rfl nd (pi_list (pv 4)) (blkOk_by (N := (["script", "state", "heads", "texts", "items", "k", "name", "count", "text", "function", "due", "cut", "front", "place", "token", "spoilt", "short", "one"] : List Str)) (sc := defScope s_law) (by decide +kernel)) (fun _ _ _ _ _ => pg_name (i := 17) nd rfl (Or.inl rfl)) (fun _ _ _ _ _ => pts_one (pt_cmpR op_eq (pe_ix (show IxR _ (rIxT K) from ix_tup) (pv 17) pe_int (fun _ _ => rfl)) pe_str (nomark _))) (fun _ _ _ _ _ => by exact (pe_ix (show IxR _ (rIxT K) from ix_tup) (pv 17) pe_int (fun _ _ => rfl)))) pa_nil)))))) pss_nil)
      (pss_cons (ps_if (pt_cmpR (op_neD hr.units) (pe_call F__law_told (hr.mono (by decide)) rfl T.g__law_told T.k__law_told T.b__law_told .nil pass0 (pa_cons (pv 8) (pa_cons pe_str pa_nil))) (pv 10) (nomark _)) (pss_one (ps_ret pe_bl)) pss_nil)
      (pss_cons (ps_set (i := 11) nd rfl (Or.inl rfl) (pe_call F__law_draw (hr.mono (by decide)) rfl T.g__law_draw T.k__law_draw T.b__law_draw .nil pass0 (pa_cons (pv 1) (pa_cons (pe_op op_add (pe_callB call_len_seq (by rfl) T.n_len PySem.boot_len (pa_cons (pv 3) pa_nil)) pe_int) pa_nil))))
      (pss_cons (ps_set (i := 12) nd rfl (Or.inl rfl) (pe_bm PySem.F.plainAttrs_str PySem.F.slot_str_join PySem.F.type_str_join mt_join pe_str (pa_cons (pe_op op_cat (pe_slice sl_list (pv 3) po_none (po_some (pv 11))) (pe_lst (pa_cons pe_str pa_nil))) pa_nil)))
      (pss_cons (ps_set (i := 13) nd rfl (Or.inl rfl) (pe_ifExp (pt_cmpR op_gt (pv 11) pe_int (nomark _)) (pe_callB call_len_str (by rfl) T.n_len PySem.boot_len (pa_cons (pv 12) pa_nil)) pe_int))
      (pss_cons (ps_set (i := 14) nd rfl (Or.inl rfl) (pe_ix ix_list (pe_lst (pa_cons pe_str (pa_cons pe_str (pa_cons pe_str (pa_cons pe_str (pa_cons pe_str (pa_cons pe_str pa_nil))))))) (pe_call F__law_draw (hr.mono (by decide)) rfl T.g__law_draw T.k__law_draw T.b__law_draw .nil pass0 (pa_cons (pv 1) (pa_cons pe_int pa_nil))) (fun _ _ => rfl)))
      (pss_cons (ps_set (i := 15) nd rfl (Or.inl rfl) (pe_bm PySem.F.plainAttrs_str PySem.F.slot_str_join PySem.F.type_str_join mt_join pe_str (pa_cons (pe_op op_cat (pe_op op_cat (pe_slice sl_list (pv 3) po_none (po_some (pv 11))) (pe_lst (pa_cons (pv 14) pa_nil))) (pe_slice sl_list (pv 3) (po_some (pv 11)) po_none)) pa_nil)))
      (pss_cons (ps_if (PW.pt (pw_or (pt_cmpR (op_neD hr.units) (pe_call F__law_told (hr.mono (by decide)) rfl T.g__law_told T.k__law_told T.b__law_told .nil pass0 (pa_cons (pv 15) (pa_cons pe_str pa_nil))) (pe_tup (pa_cons pe_str (pa_cons (pv 13) pa_nil))) (nomark _)) (pw_or1 (pt_cmpR (op_neD hr.units) (pe_call F__law_told (hr.mono (by decide)) rfl T.g__law_told T.k__law_told T.b__law_told .nil pass0 (pa_cons (pv 15) (pa_cons pe_str pa_nil))) (pe_tup (pa_cons pe_str (pa_cons (pv 13) pa_nil))) (nomark _))))) (pss_one (ps_ret pe_bl)) pss_nil)
      (pss_cons (ps_set (i := 16) nd rfl (Or.inl rfl) (pe_bm PySem.F.plainAttrs_str PySem.F.slot_str_join PySem.F.type_str_join mt_join pe_str (pa_cons (pe_op op_cat (pv 3) (pe_lst (pa_cons (pe_ix ix_list (pe_lst (pa_cons pe_str (pa_cons pe_str (pa_cons pe_str (pa_cons pe_str (pa_cons pe_str pa_nil)))))) (pe_call F__law_draw (hr.mono (by decide)) rfl T.g__law_draw T.k__law_draw T.b__law_draw .nil pass0 (pa_cons (pv 1) (pa_cons pe_int pa_nil))) (fun _ _ => rfl)) pa_nil))) pa_nil)))
      (pss_one (ps_ret (pe_and (pe_cmpR (op_eqD hr.units) (pe_call F__law_told (hr.mono (by decide)) rfl T.g__law_told T.k__law_told T.b__law_told .nil pass0 (pa_cons (pv 16) (pa_cons pe_str pa_nil))) (pe_tup (pa_cons pe_str (pa_cons (pe_callB call_len_str (by rfl) T.n_len PySem.boot_len (pa_cons (pv 16) pa_nil)) pa_nil))) (nomark _)) (pe_one (pe_cmpR (op_eqD hr.units) (pe_call F__law_told (hr.mono (by decide)) rfl T.g__law_told T.k__law_told T.b__law_told .nil pass0 (pa_cons (pv 16) (pa_cons pe_str pa_nil))) (pe_tup (pa_cons pe_str (pa_cons (pe_callB call_len_str (by rfl) T.n_len PySem.boot_len (pa_cons (pv 16) pa_nil)) pa_nil))) (nomark _))))))))))))))))))))))), ?_⟩
    walk_at "rd"
    refine ⟨szl (Nat.le_of_ble_eq_true rfl), fun st hst => ?_⟩
    have s0 : StAt K (upd H st (.lst [.ref sc, .int 0, .int 0, .int 1])) st sc := ⟨ns, 0, 0, 1, upd_same, fun H2 k2 => sq_st hS hst k2, trivial, by decide⟩
    generalize upd H st (.lst [.ref sc, .int 0, .int 0, .int 1]) = B at s0
    have k0 : Kp [st] B B := Kp.refl
    have hsB := s0
    walk_at "rd"
    refine ⟨st, sc, 3, rfl, by decide, by decide, s0, fun t1 ht1 H1 r1 s1 => ?_⟩
    have k1 := k0.trans r1
    walk_at "rd"
    first | refine ⟨szl (Nat.le_of_ble_eq_true rfl), fun p2 hp2 => ?_⟩ | intro p2 hp2
    have r2 : Kp [st] H1 (upd H1 p2 (.tup [.str "main", .int (t1 : Nat)])) := Kp.new hp2
    have k2 : Kp [st] B (upd H1 p2 (.tup [.str "main", .int (t1 : Nat)])) := k1.trans r2
    have s2 : StAt K (upd H1 p2 (.tup [.str "main", .int (t1 : Nat)])) st sc := s1.kp (Kp.new hp2)
    have l2 : (upd H1 p2 (.tup [.str "main", .int (t1 : Nat)])) p2 = some (.tup [.str "main", .int (t1 : Nat)]) := upd_same
    have o2 : p2 ≠ st := s1.old hp2
    generalize upd H1 p2 (.tup [.str "main", .int (t1 : Nat)]) = H2 at r2 k2 s2 l2
    walk_at "rd"
    refine ⟨st, sc, 4, rfl, by decide, by decide, s2, fun t3 ht3 H3 r3 s3 => ?_⟩
    have k3 := k2.trans r3
    walk_at "rd"
    first | refine ⟨szl (Nat.le_of_ble_eq_true rfl), fun p4 hp4 => ?_⟩ | intro p4 hp4
    have r4 : Kp [st] H3 (upd H3 p4 (.tup [.str "f", .int (t3 : Nat)])) := Kp.new hp4
    have k4 : Kp [st] B (upd H3 p4 (.tup [.str "f", .int (t3 : Nat)])) := k3.trans r4
    have s4 : StAt K (upd H3 p4 (.tup [.str "f", .int (t3 : Nat)])) st sc := s3.kp (Kp.new hp4)
    have l4 : (upd H3 p4 (.tup [.str "f", .int (t3 : Nat)])) p4 = some (.tup [.str "f", .int (t3 : Nat)]) := upd_same
    have o4 : p4 ≠ st := s3.old hp4
    generalize upd H3 p4 (.tup [.str "f", .int (t3 : Nat)]) = H4 at r4 k4 s4 l4
    walk_at "rd"
    first | refine ⟨szl (Nat.le_of_ble_eq_true rfl), fun p5 hp5 => ?_⟩ | intro p5 hp5
    have r5 : Kp [st] H4 (upd H4 p5 (.tup [.str "k", .int 1])) := Kp.new hp5
    have k5 : Kp [st] B (upd H4 p5 (.tup [.str "k", .int 1])) := k4.trans r5
    have s5 : StAt K (upd H4 p5 (.tup [.str "k", .int 1])) st sc := s4.kp (Kp.new hp5)
    have l5 : (upd H4 p5 (.tup [.str "k", .int 1])) p5 = some (.tup [.str "k", .int 1]) := upd_same
    have o5 : p5 ≠ st := s4.old hp5
    generalize upd H4 p5 (.tup [.str "k", .int 1]) = H5 at r5 k5 s5 l5
    walk_at "rd"
    first | refine ⟨szl (Nat.le_of_ble_eq_true rfl), fun p6 hp6 => ?_⟩ | intro p6 hp6
    have r6 : Kp [st] H5 (upd H5 p6 (.lst [.ref p2, .ref p4, .ref p5])) := Kp.new hp6
    have k6 : Kp [st] B (upd H5 p6 (.lst [.ref p2, .ref p4, .ref p5])) := k5.trans r6
    have s6 : StAt K (upd H5 p6 (.lst [.ref p2, .ref p4, .ref p5])) st sc := s5.kp (Kp.new hp6)
    have l6 : (upd H5 p6 (.lst [.ref p2, .ref p4, .ref p5])) p6 = some (.lst [.ref p2, .ref p4, .ref p5]) := upd_same
    have o6 : p6 ≠ st := s5.old hp6
    generalize upd H5 p6 (.lst [.ref p2, .ref p4, .ref p5]) = H6 at r6 k6 s6 l6
    walk_at "rd"
    have hh6 : HdAt K H6 p6 [("main", t1), ("f", t3), ("k", 1)] := ⟨_, l6, .cons (.tup (ds := [.str "main", .int (t1 : Nat)]) ((((r3.trans r4).trans r5).trans r6).sqt (SqT.of l2)) (by walk_at "dp")) (.cons (.tup (ds := [.str "f", .int (t3 : Nat)]) ((r5.trans r6).sqt (SqT.of l4)) (by walk_at "dp")) (.cons (.tup (ds := [.str "k", .int (1 : Nat)]) (r6.sqt (SqT.of l5)) (by exact .cons (.str _) (.cons (.int _) .nil))) .nil))⟩
    have hok : OkHs [("main", t1), ("f", t3), ("k", 1)] := ⟨rfl, mem_cons_all ⟨by show ("main" : Str) ∈ AH; decide +kernel, by show t1 ≤ 3; omega⟩ (mem2 ⟨by show ("f" : Str) ∈ AH; decide +kernel, by show t3 ≤ 3; omega⟩ ⟨by show ("k" : Str) ∈ AH; decide +kernel, by decide⟩)⟩
    obtain ⟨hd, hhd⟩ : ∃ hd, hd = p6 := ⟨_, rfl⟩
    rw [← hhd] at hh6 o6 ⊢
    generalize hhs : ([("main", t1), ("f", t3), ("k", 1)] : List (Str × Nat)) = hs at hh6 hok
    first | refine ⟨Nat.zero_le _, fun pt hpt => ?_⟩ | intro pt hpt
    have r7 : Kp [st] H6 (upd H6 pt (.lst [])) := Kp.new hpt
    have k7 : Kp [st] B (upd H6 pt (.lst [])) := k6.trans r7
    have s7 : StAt K (upd H6 pt (.lst [])) st sc := s6.kp (Kp.new hpt)
    have l7 : (upd H6 pt (.lst [])) pt = some (.lst []) := upd_same
    have opt : pt ≠ st := s6.old hpt
    generalize upd H6 pt (.lst []) = H7 at r7 k7 s7 l7
    walk_at "rd"
    have hh7 := hh6.kp r7 (by simpa using o6)
    have hptB := k6.fresh (by simpa using opt) hpt
    first | refine ⟨Nat.zero_le _, fun pi hpi => ?_⟩ | intro pi hpi
    have r8 : Kp [st] H7 (upd H7 pi (.lst [])) := Kp.new hpi
    have k8 : Kp [st] B (upd H7 pi (.lst [])) := k7.trans r8
    have s8 : StAt K (upd H7 pi (.lst [])) st sc := s7.kp (Kp.new hpi)
    have l8 : (upd H7 pi (.lst [])) pi = some (.lst []) := upd_same
    have opi : pi ≠ st := s7.old hpi
    generalize upd H7 pi (.lst []) = H8 at r8 k8 s8 l8
    walk_at "rd"
    have hh8 := hh7.kp r8 (by simpa using o6)
    have hpiB := k7.fresh (by simpa using opi) hpi
    have npi : pi ≠ pt := fun z => by rw [z, l7] at hpi; cases hpi
    have nhp : hd ≠ pt := fun z => by
      obtain ⟨vs, h1, _⟩ := hh6
      rw [z, hpt] at h1
      cases h1
    have nhi : hd ≠ pi := fun z => by
      obtain ⟨vs, h1, _⟩ := hh7
      rw [z, hpi] at h1
      cases h1
    have lt8 := r8.keep _ _ (by simpa using opt) l7
    refine ⟨st, sc, 5, rfl, by decide, by decide, s8, fun t9 ht9 H9 r9 s9 => ?_⟩
    have k9 := k8.trans r9
    walk_at "rd"
    have hh9 := hh8.kp r9 (by simpa using o6)
    have lt9 := r9.keep _ _ (by simpa using opt) lt8
    have li9 := r9.keep _ _ (by simpa using opi) l8
    have hnn : t9 + 1 ≤ 5 := by omega
    refine ⟨rng_lo (1 + t9), rng_hi (n := 1 + t9) (by omega), for_range (n := 1 + t9) (lo := 0) (fun i σ H' => ∃ (its : List Itm) (xs : List V) (z5 z6 z7 z8 z9 : Option V), σ = [some (.ref sc), some (.ref st), some (.ref hd), some (.ref pt), some (.ref pi), z5, z6, z7, z8, z9, none, none, none, none, none, none, none, none] ∧ its.length = i ∧ (∀ it ∈ its, OkI hs it) ∧ Kp [st] B H' ∧ StAt K H' st sc ∧ H' pt = some (.lst ((its.map iText).map V.str)) ∧ H' pi = some (.lst xs) ∧ DpAll K H' xs (its.map Itm.enc) ∧ HdAt K H' hd hs) ⟨[], [], _, _, _, _, _, rfl, rfl, fun it m => absurd m List.not_mem_nil, k9, s9, lt9, li9, .nil, hh9⟩ ?_ ?_⟩
    · rintro i σ H20 hi ⟨its, xs, z5, z6, z7, z8, z9, rfl, hil, hI, k20, s20, T20, I20, D20, h20⟩
      have hxl : xs.length = its.length := by rw [DpAll.length D20, List.length_map]
      have app1 : ∀ (it : Itm) (u : V) (Hn Hm : Hp), OkI hs it → Kp [st] B Hn → StAt K Hn st sc → Hn pt = some (.lst ((its.map iText).map V.str)) → Hn pi = some (.lst xs) → DpAll K Hn xs (its.map Itm.enc) → HdAt K Hn hd hs → Kp [] (upd Hn pt (.lst ((its.map iText).map V.str ++ [.str (iText it)]))) Hm → Dp K Hm u it.enc →
          Hm pi = some (.lst xs) ∧ Kp [st] B (upd Hm pi (.lst (xs ++ [u]))) ∧ StAt K (upd Hm pi (.lst (xs ++ [u]))) st sc ∧ (upd Hm pi (.lst (xs ++ [u]))) pt = some (.lst (((its ++ [it]).map iText).map V.str)) ∧ (upd Hm pi (.lst (xs ++ [u]))) pi = some (.lst (xs ++ [u])) ∧ DpAll K (upd Hm pi (.lst (xs ++ [u]))) (xs ++ [u]) ((its ++ [it]).map Itm.enc) ∧ HdAt K (upd Hm pi (.lst (xs ++ [u]))) hd hs := fun it u Hn Hm oi a1 a2 a3 a4 a5 a6 a7 a8 => by
        have b1 : Kp [pt] Hn (upd Hn pt (.lst ((its.map iText).map V.str ++ [.str (iText it)]))) := Kp.put a3 nt_lst (by simp)
        have b2 : Hm pi = some (.lst xs) := a7.keep _ _ (by simp) (b1.keep _ _ (by simpa using npi) a4)
        have b3 : Kp [pi] Hm (upd Hm pi (.lst (xs ++ [u]))) := Kp.put b2 nt_lst (by simp)
        have c1 := (a1.mine (o := .lst ((its.map iText).map V.str ++ [.str (iText it)])) hptB).trans a7.nil
        have c2 := (hsB.mine (o := .lst ((its.map iText).map V.str ++ [.str (iText it)])) hptB a1 a2).kp a7
        refine ⟨b2, c1.mine hpiB, hsB.mine hpiB c1 c2, ?_, upd_same, ?_, ?_⟩
        · rw [upd_ne npi.symm, a7.keep _ _ (by simp) upd_same, List.map_append, List.map_append]
          rfl
        · rw [List.map_append]
          exact DpAll.snoc (Dp.kps b3 _ _ (Itms.nl _) (Dp.kps a7 _ _ (Itms.nl _) (Dp.kps b1 _ _ (Itms.nl _) a5))) (Dp.kp b3 _ _ (Itm.nl it) a8)
        · exact ((a6.kp b1 (by simpa using nhp)).kp a7 (by simp)).kp b3 (by simpa using nhi)
      have fin1 : ∀ (it : Itm), OkI hs it → (∀ x ∈ its ++ [it], OkI hs x) ∧ (its ++ [it]).length = i + 1 := fun it oi => ⟨app_all hI (mem_cons_all oi nil_all), by rw [List.length_append, hil]; rfl⟩
      walk_at "rd"
      refine ⟨st, sc, 3, rfl, by decide, by decide, s20, fun t21 ht21 H21 r21 s21 => ?_⟩
      have k21 := k20.trans r21
      walk_at "rd"
      have T21 := r21.keep _ _ (by simpa using opt) T20
      have I21 := r21.keep _ _ (by simpa using opi) I20
      have D21 := Dp.kps r21 _ _ (Itms.nl _) D20
      have h21 := h20.kp r21 (by simpa using o6)
      refine iteB (fun h => ?_) (fun h => ?_)
      · walk_at "rd"
        first | refine ⟨szl (Nat.le_of_ble_eq_true rfl), fun p22 hp22 => ?_⟩ | intro p22 hp22
        have r22 : Kp [st] H21 (upd H21 p22 (.lst [.str "g", .str "h", .str "f"])) := Kp.new hp22
        have k22 : Kp [st] B (upd H21 p22 (.lst [.str "g", .str "h", .str "f"])) := k21.trans r22
        have s22 : StAt K (upd H21 p22 (.lst [.str "g", .str "h", .str "f"])) st sc := s21.kp (Kp.new hp22)
        have l22 : (upd H21 p22 (.lst [.str "g", .str "h", .str "f"])) p22 = some (.lst ((A3 : List Str).map V.str)) := upd_same
        have o22 : p22 ≠ st := s21.old hp22
        generalize upd H21 p22 (.lst [.str "g", .str "h", .str "f"]) = H22 at r22 k22 s22 l22
        walk_at "rd"
        refine ⟨st, sc, 3, rfl, by decide, by decide, s22, fun t23 ht23 H23 r23 s23 => ?_⟩
        have k23 := k22.trans r23
        walk_at "rd"
        obtain ⟨x, x0, xm⟩ := pick_at A3 (t := t23) ht23
        have x1 : (A3.map V.str)[t23]? = some (.str x) := by rw [List.getElem?_map, x0]; rfl
        refine ⟨_, _, _, _, rfl, rfl, SqL.of (r23.keep _ _ (by simpa using o22) l22), atI_nat x1, ?_⟩
        walk_at "rd"
        have T23 := r23.keep _ _ (by simpa using opt) (r22.keep _ _ (by simpa using opt) T21)
        have I23 := r23.keep _ _ (by simpa using opi) (r22.keep _ _ (by simpa using opi) I21)
        have D23 := Dp.kps r23 _ _ (Itms.nl _) (Dp.kps r22 _ _ (Itms.nl _) D21)
        have h23 := (h21.kp r22 (by simpa using o6)).kp r23 (by simpa using o6)
        refine ⟨.inl ⟨rfl, _, SqL.of T23⟩, ?_⟩
        have hx4 := Wx.s3 xm
        have eg1 : ("global " : Str).length = 7 := by decide +kernel
        have eg2 : (" ;" : Str).length = 2 := by decide +kernel
        walk_at "st"
        refine ⟨_, _, _, rfl, rfl, T23, (by rw [List.length_map, List.length_map]; exact szt (by omega)), ?_⟩
        have I24 := (upd_ne (H := H23) (o := .lst ((its.map iText).map V.str ++ [.str (iText (.glo x))])) npi).trans I23
        walk_at "rd"
        refine ⟨.inl ⟨rfl, _, SqL.of I24⟩, ?_⟩
        walk_at "rd"
        refine ⟨szl (Nat.le_of_ble_eq_true rfl), fun q hq => ?_⟩
        obtain ⟨e1, e2, e3, e4, e5, e6, e7⟩ := app1 (.glo x) (.ref q) H23 (upd (upd H23 pt (.lst ((its.map iText).map V.str ++ [.str (iText (.glo x))]))) q (.tup [.str "global", .str x])) (.glo x xm) k23 s23 T23 I23 D23 h23 (Kp.new hq) (Dp.new (ds := [.str "global", .str x]) (by walk_at "dp") rfl hq)
        refine ⟨_, _, _, rfl, rfl, e1, szt (by omega), ?_⟩
        obtain ⟨f1, f2⟩ := fin1 (.glo x) (.glo x xm)
        exact ⟨_, _, _, _, _, _, _, rfl, f2, f1, e2, e3, e4, e5, e6, e7⟩
      · walk_at "rd"
        first | refine ⟨szl (Nat.le_of_ble_eq_true rfl), fun p22 hp22 => ?_⟩ | intro p22 hp22
        have r22 : Kp [st] H21 (upd H21 p22 (.lst [.int 0, .int 0, .int 1, .int 2])) := Kp.new hp22
        have k22 : Kp [st] B (upd H21 p22 (.lst [.int 0, .int 0, .int 1, .int 2])) := k21.trans r22
        have s22 : StAt K (upd H21 p22 (.lst [.int 0, .int 0, .int 1, .int 2])) st sc := s21.kp (Kp.new hp22)
        have l22 : (upd H21 p22 (.lst [.int 0, .int 0, .int 1, .int 2])) p22 = some (.lst [.int 0, .int 0, .int 1, .int 2]) := upd_same
        have o22 : p22 ≠ st := s21.old hp22
        generalize upd H21 p22 (.lst [.int 0, .int 0, .int 1, .int 2]) = H22 at r22 k22 s22 l22
        walk_at "rd"
        refine ⟨st, sc, 4, rfl, by decide, by decide, s22, fun t23 ht23 H23 r23 s23 => ?_⟩
        have k23 := k22.trans r23
        walk_at "rd"
        have hix : ∃ j : Nat, j < 3 ∧ ([.int 0, .int 0, .int 1, .int 2] : List V)[t23]? = some (.int (j : Nat)) := by
          match t23, ht23 with
          | 0, _ => exact ⟨0, by decide, rfl⟩
          | 1, _ => exact ⟨0, by decide, rfl⟩
          | 2, _ => exact ⟨1, by decide, rfl⟩
          | 3, _ => exact ⟨2, by decide, rfl⟩
        obtain ⟨j, hj3, hj⟩ := hix
        have T23 := r23.keep _ _ (by simpa using opt) (r22.keep _ _ (by simpa using opt) T21)
        have I23 := r23.keep _ _ (by simpa using opi) (r22.keep _ _ (by simpa using opi) I21)
        have D23 := Dp.kps r23 _ _ (Itms.nl _) (Dp.kps r22 _ _ (Itms.nl _) D21)
        have h23 := (h21.kp r22 (by simpa using o6)).kp r23 (by simpa using o6)
        refine ⟨_, _, _, _, rfl, rfl, SqL.of (r23.keep _ _ (by simpa using o22) l22), atI_nat hj, ?_⟩
        have h23' := h23
        obtain ⟨hvs, hl23, hd23⟩ := h23'
        have hjl : j < hs.length := by rw [hok.1]; exact hj3
        obtain ⟨hv, hhv, hdv⟩ := DpAll.get hd23 (i := j) (d := .tuple [.str hs[j].1, .int (hs[j].2 : Nat)]) (by rw [List.getElem?_map, List.getElem?_eq_getElem hjl]; rfl)
        have hmem : (hs[j].1, hs[j].2) ∈ hs := List.getElem_mem hjl
        generalize hs[j].1 = g at hdv hmem
        generalize hs[j].2 = c at hdv hmem
        obtain ⟨hq, hus, rfl, hsq, hall⟩ := Dp.tupOf hdv
        obtain rfl := dp2 hall
        refine ⟨_, _, _, _, rfl, rfl, SqL.of hl23, atI_nat hhv, ?_⟩
        refine ⟨_, _, rfl, hsq, rfl, ?_⟩
        refine ⟨_, _, rfl, _, _, rfl, rfl, ?_⟩
        walk_at "rd"
        refine ⟨st, sc, hd, hs, g, c, rfl, s23, h23, o6, hok, hmem, fun f hf u H24 r24 s24 d24 => ?_⟩
        have k24 := k23.trans r24
        have T24 := r24.keep _ _ (by simpa using opt) T23
        have I24 := r24.keep _ _ (by simpa using opi) I23
        have D24 := Dp.kps r24 _ _ (Itms.nl _) D23
        have h24 := h23.kp r24 (by simpa using o6)
        obtain ⟨q, us, rfl, hsq, hall⟩ := Dp.tupOf d24
        obtain ⟨v, rfl, hv⟩ := dp2s hall
        refine ⟨_, _, rfl, hsq, rfl, ?_⟩
        refine ⟨_, _, rfl, _, _, rfl, rfl, ?_⟩
        walk_at "rd"
        refine ⟨.inl ⟨rfl, _, SqL.of T24⟩, ?_⟩
        walk_at "rd"
        refine ⟨_, _, _, rfl, rfl, T24, (by rw [List.length_map, List.length_map]; exact szt (by omega)), ?_⟩
        have I25 := (upd_ne (H := H24) (o := .lst ((its.map iText).map V.str ++ [.str (iText (.fn f))])) npi).trans I24
        walk_at "rd"
        refine ⟨.inl ⟨rfl, _, SqL.of I25⟩, ?_⟩
        walk_at "rd"
        refine ⟨szl (Nat.le_of_ble_eq_true rfl), fun q2 hq2 => ?_⟩
        have kpt : Kp [pt] H24 (upd H24 pt (.lst ((its.map iText).map V.str ++ [.str (iText (.fn f))]))) := Kp.put T24 nt_lst (by simp)
        have hv2 := Dp.kp kpt _ _ (Fd.nl f) hv
        obtain ⟨e1, e2, e3, e4, e5, e6, e7⟩ := app1 (.fn f) (.ref q2) H24 (upd (upd H24 pt (.lst ((its.map iText).map V.str ++ [.str (iText (.fn f))]))) q2 (.tup [.str "fn", v])) (.fn f hf) k24 s24 T24 I24 D24 h24 (Kp.new hq2) (Dp.new (ds := [.str "fn", f.enc]) (by walk_at "dp") (Itm.nl (.fn f)) hq2)
        refine ⟨_, _, _, rfl, rfl, e1, szt (by omega), ?_⟩
        obtain ⟨f1, f2⟩ := fin1 (.fn f) (.fn f hf)
        exact ⟨_, _, _, _, _, _, _, rfl, f2, f1, e2, e3, e4, e5, e6, e7⟩
    · rintro σ H10 ⟨its, xs, z5, z6, z7, z8, z9, rfl, hil, hI, k10, s10, T10, I10, D10, h10⟩
      have hle : its.length ≤ 5 := by omega
      have hTl : ∀ p ∈ its.map iText, p.length ≤ 1000 := fun p m => by
        obtain ⟨it, hi, rfl⟩ := List.mem_map.mp m
        exact iText_le hok (hI it hi)
      have hprs := prs_ok hok hI hle
      have htx := join_le _ hTl (by rw [List.length_map]; omega)
      have hxl : xs.length = its.length := by rw [DpAll.length D10, List.length_map]
      walk_at "rd"
      refine ⟨_, _, its.map iText, rfl, rfl, .inl (SqL.of T10), jok _ hTl (by omega) (by decide +kernel) (by rw [List.length_map]; omega), ?_⟩
      generalize Txt.join " " (its.map iText) = text at hprs htx ⊢
      walk_at "rd"
      refine ⟨text, "parse", 5000, .ok its, rfl, .inl rfl, htx, by decide, hprs, ?_⟩
      unfold TOut
      dsimp only
      rw [if_pos rfl]
      intro u11 H11 rr11 d11
      have r11 : Kp [st] H10 H11 := rr11.nil
      have k11 := k10.trans r11
      have s11 := s10.kp rr11
      have T11 := r11.keep _ _ (by simpa using opt) T10
      have I11 := r11.keep _ _ (by simpa using opi) I10
      have D11 := Dp.kps r11 _ _ (Itms.nl _) D10
      have soI := sok_its hok hI
      walk_at "rd"
      refine ⟨_, _, d11, .lst (SqL.of I11) D11, soI.shaped (by decide), soI.shaped (by decide), _, rfl, ?_⟩
      rw [soI.refl]
      walk_at "rd"
      refine ⟨pi, xs, its, rfl, I11, D11, by omega, fun it m => ?_, fun uD H12 rr12 dD => ?_⟩
      · cases hI it m with
        | glo x hx => exact trivial
        | fn f hf => exact hf.ok hok
      have r12 : Kp [st] H11 H12 := rr12.nil
      have k12 := k11.trans r12
      have s12 := s11.kp rr12
      have T12 := r12.keep _ _ (by simpa using opt) T11
      have I12 := r12.keep _ _ (by simpa using opi) I11
      have D12 := Dp.kps r12 _ _ (Itms.nl _) D11
      have hlb := lf_build hok hI
      walk_at "rd"
      cases hb : build its with
      | error er =>
        rw [hb] at hlb
        dsimp only at hlb
        rw [hlb] at dD
        have hA := lf_A hok hI hlb
        have soE := sok_er hA
        rw [decide_eq_false (enc_ne dD)]
        walk_at "rd"
        refine ⟨text, "program", 5000, .ok its, rfl, .inr rfl, htx, by decide, hprs, ?_⟩
        unfold TOut
        dsimp only
        rw [if_neg (show ¬ (("program" : Str) = "parse") by decide +kernel)]
        refine ⟨its_pl hok hI, by omega, ?_⟩
        rw [hb]
        refine ⟨er_nb hA, ?_⟩
        intro u13 H13 rr13 d13
        have r13 : Kp [st] H12 H13 := rr13.nil
        have k13 := k12.trans r13
        have s13 := s12.kp rr13
        have T13 := r13.keep _ _ (by simpa using opt) T12
        have dD13 := Dp.kp r13 _ _ (er_nl er) dD
        walk_at "rd"
        refine ⟨_, _, d13, dD13, soE.shaped (by decide), soE.shaped (by decide), _, rfl, ?_⟩
        rw [soE.refl]
        walk_at "rd"
        refine ⟨_, _, rfl, .inl (SqL.of T13), ?_⟩
        rw [List.length_map, List.length_map]
        walk_at "rd"
        refine ⟨st, sc, its.length + 1, rfl, by omega, by omega, s13, fun cut hct H14 r14 s14 => ?_⟩
        have k14 := k13.trans r14
        have hcut : cut ≤ its.length := by omega
        have cpre := cut_pre (xs := (its.map iText).map V.str) (i := cut) (by rw [List.length_map, List.length_map]; exact hcut)
        have T14 := r14.keep _ _ (by simpa using opt) T13
        walk_at "rd"
        refine ⟨_, _, rfl, SqL.of T14, fun p15 hp15 => ?_⟩
        rw [cpre.2, ← List.map_take]
        have r15 : Kp [st] H14 (upd H14 p15 (.lst (((its.map iText).take cut).map V.str))) := Kp.new hp15
        have k15 := k14.trans r15
        have s15 := s14.kp (Kp.new (o := .lst (((its.map iText).take cut).map V.str)) hp15)
        have l15 : (upd H14 p15 (.lst (((its.map iText).take cut).map V.str))) p15 = some (.lst (((its.map iText).take cut).map V.str)) := upd_same
        have o15 : p15 ≠ st := s14.old hp15
        have T15 := r15.keep _ _ (by simpa using opt) T14
        generalize upd H14 p15 (.lst (((its.map iText).take cut).map V.str)) = H15 at r15 k15 s15 l15 T15
        walk_at "rd"
        first | refine ⟨szl (Nat.le_of_ble_eq_true rfl), fun p16 hp16 => ?_⟩ | intro p16 hp16
        have r16 : Kp [st] H15 (upd H15 p16 (.lst [.str ""])) := Kp.new hp16
        have k16 : Kp [st] B (upd H15 p16 (.lst [.str ""])) := k15.trans r16
        have s16 : StAt K (upd H15 p16 (.lst [.str ""])) st sc := s15.kp (Kp.new hp16)
        have l16 : (upd H15 p16 (.lst [.str ""])) p16 = some (.lst (([""] : List Str).map V.str)) := upd_same
        have o16 : p16 ≠ st := s15.old hp16
        generalize upd H15 p16 (.lst [.str ""]) = H16 at r16 k16 s16 l16
        walk_at "rd"
        have T16 := r16.keep _ _ (by simpa using opt) T15
        have ll16 := r16.keep _ _ (by simpa using o15) l15
        refine ⟨_, _, _, _, rfl, rfl, ll16, l16, szl (by rw [List.length_map, List.length_map, List.length_take, List.length_map]; show _ + 1 ≤ 100000; omega), fun p17 hp17 => ?_⟩
        have r17 : Kp [st] H16 (upd H16 p17 (.lst ((((its.map iText).take cut).map V.str) ++ (([""] : List Str).map V.str)))) := Kp.new hp17
        have k17 := k16.trans r17
        have s17 := s16.kp (Kp.new (o := .lst ((((its.map iText).take cut).map V.str) ++ (([""] : List Str).map V.str))) hp17)
        have l17 : (upd H16 p17 (.lst ((((its.map iText).take cut).map V.str) ++ (([""] : List Str).map V.str)))) p17 = some (.lst (((its.map iText).take cut ++ ([""] : List Str)).map V.str)) := by rw [upd_same, List.map_append]
        have T17 := r17.keep _ _ (by simpa using opt) T16
        generalize upd H16 p17 (.lst ((((its.map iText).take cut).map V.str) ++ (([""] : List Str).map V.str))) = H17 at r17 k17 s17 l17 T17
        walk_at "rd"
        have ha4 : ∀ p ∈ (its.map iText).take cut ++ ([""] : List Str), p.length ≤ 1000 := app_all (fun p m => hTl p (List.mem_of_mem_take m)) (mem_cons_all (Nat.zero_le _) nil_all)
        have hn4 : ((its.map iText).take cut ++ ([""] : List Str)).length ≤ 6 := by
          rw [List.length_append, List.length_take, List.length_map]
          show _ + 1 ≤ 6
          omega
        refine ⟨_, _, (its.map iText).take cut ++ ([""] : List Str), rfl, rfl, .inl (SqL.of l17), jok _ ha4 (by omega) (by decide +kernel) (by omega), ?_⟩
        have hfl : (Txt.join " " ((its.map iText).take cut ++ ([""] : List Str))).length ≤ 100000 := join_le _ ha4 (by omega)
        generalize hfr : Txt.join " " ((its.map iText).take cut ++ ([""] : List Str)) = fr at hfl ⊢
        walk_at "rd"
        refine iteB (fun h => ?_) (fun h => ?_)
        · have hc0 : 0 < cut := by
            have := of_decide_eq_true h
            omega
          have hpl : (if 0 < cut then (Txt.join " " ((its.map iText).take cut ++ ([""] : List Str))).length else 0) = fr.length := by rw [if_pos hc0, hfr]
          walk_at "rd"
          walk_at "rd"
          first | refine ⟨szl (Nat.le_of_ble_eq_true rfl), fun p18 hp18 => ?_⟩ | intro p18 hp18
          have r18 : Kp [st] H17 (upd H17 p18 (.lst [.str "x", .str ";", .str "}", .str "out", .str "7", .str "="])) := Kp.new hp18
          have k18 : Kp [st] B (upd H17 p18 (.lst [.str "x", .str ";", .str "}", .str "out", .str "7", .str "="])) := k17.trans r18
          have s18 : StAt K (upd H17 p18 (.lst [.str "x", .str ";", .str "}", .str "out", .str "7", .str "="])) st sc := s17.kp (Kp.new hp18)
          have l18 : (upd H17 p18 (.lst [.str "x", .str ";", .str "}", .str "out", .str "7", .str "="])) p18 = some (.lst ((T6 : List Str).map V.str)) := upd_same
          have o18 : p18 ≠ st := s17.old hp18
          generalize upd H17 p18 (.lst [.str "x", .str ";", .str "}", .str "out", .str "7", .str "="]) = H18 at r18 k18 s18 l18
          walk_at "rd"
          refine ⟨st, sc, 6, rfl, by decide, by decide, s18, fun t19 ht19 H19 r19 s19 => ?_⟩
          have k19 := k18.trans r19
          walk_at "rd"
          obtain ⟨tk, tk0, tkm⟩ := pick_at T6 (t := t19) ht19
          have tk1 : (T6.map V.str)[t19]? = some (.str tk) := by rw [List.getElem?_map, tk0]; rfl
          refine ⟨_, _, _, _, rfl, rfl, SqL.of (r19.keep _ _ (by simpa using o18) l18), atI_nat tk1, ?_⟩
          walk_at "rd"
          have T18 := r18.keep _ _ (by simpa using opt) T17
          have T19 := r19.keep _ _ (by simpa using opt) T18
          refine ⟨_, _, rfl, SqL.of T19, fun p20 hp20 => ?_⟩
          rw [cpre.2, ← List.map_take]
          have r20 : Kp [st] H19 (upd H19 p20 (.lst (((its.map iText).take cut).map V.str))) := Kp.new hp20
          have k20 := k19.trans r20
          have s20 := s19.kp (Kp.new (o := .lst (((its.map iText).take cut).map V.str)) hp20)
          have l20 : (upd H19 p20 (.lst (((its.map iText).take cut).map V.str))) p20 = some (.lst (((its.map iText).take cut).map V.str)) := upd_same
          have o20 : p20 ≠ st := s19.old hp20
          have T20 := r20.keep _ _ (by simpa using opt) T19
          generalize upd H19 p20 (.lst (((its.map iText).take cut).map V.str)) = H20 at r20 k20 s20 l20 T20
          walk_at "rd"
          first | refine ⟨szl (Nat.le_of_ble_eq_true rfl), fun p21 hp21 => ?_⟩ | intro p21 hp21
          have r21 : Kp [st] H20 (upd H20 p21 (.lst [.str tk])) := Kp.new hp21
          have k21 : Kp [st] B (upd H20 p21 (.lst [.str tk])) := k20.trans r21
          have s21 : StAt K (upd H20 p21 (.lst [.str tk])) st sc := s20.kp (Kp.new hp21)
          have l21 : (upd H20 p21 (.lst [.str tk])) p21 = some (.lst (([tk] : List Str).map V.str)) := upd_same
          have o21 : p21 ≠ st := s20.old hp21
          generalize upd H20 p21 (.lst [.str tk]) = H21 at r21 k21 s21 l21
          walk_at "rd"
          have T21 := r21.keep _ _ (by simpa using opt) T20
          have ll21 := r21.keep _ _ (by simpa using o20) l20
          refine ⟨_, _, _, _, rfl, rfl, ll21, l21, szl (by rw [List.length_map, List.length_map, List.length_take, List.length_map]; show _ + 1 ≤ 100000; omega), fun p22 hp22 => ?_⟩
          have r22 : Kp [st] H21 (upd H21 p22 (.lst ((((its.map iText).take cut).map V.str) ++ (([tk] : List Str).map V.str)))) := Kp.new hp22
          have k22 := k21.trans r22
          have s22 := s21.kp (Kp.new (o := .lst ((((its.map iText).take cut).map V.str) ++ (([tk] : List Str).map V.str))) hp22)
          have l22 : (upd H21 p22 (.lst ((((its.map iText).take cut).map V.str) ++ (([tk] : List Str).map V.str)))) p22 = some (.lst (((its.map iText).take cut ++ [tk]).map V.str)) := by rw [upd_same, List.map_append]
          have o22 : p22 ≠ st := s21.old hp22
          have T22 := r22.keep _ _ (by simpa using opt) T21
          generalize upd H21 p22 (.lst ((((its.map iText).take cut).map V.str) ++ (([tk] : List Str).map V.str))) = H22 at r22 k22 s22 l22 T22
          walk_at "rd"
          refine ⟨_, _, rfl, SqL.of T22, fun p23 hp23 => ?_⟩
          rw [cut_suf (xs := (its.map iText).map V.str) (i := cut) (by rw [List.length_map, List.length_map]; exact hcut), ← List.map_drop]
          have r23 : Kp [st] H22 (upd H22 p23 (.lst (((its.map iText).drop cut).map V.str))) := Kp.new hp23
          have k23 := k22.trans r23
          have s23 := s22.kp (Kp.new (o := .lst (((its.map iText).drop cut).map V.str)) hp23)
          have l23 : (upd H22 p23 (.lst (((its.map iText).drop cut).map V.str))) p23 = some (.lst (((its.map iText).drop cut).map V.str)) := upd_same
          have ll23 := r23.keep _ _ (by simpa using o22) l22
          have T23 := r23.keep _ _ (by simpa using opt) T22
          generalize upd H22 p23 (.lst (((its.map iText).drop cut).map V.str)) = H23 at r23 k23 s23 l23 ll23 T23
          walk_at "rd"
          refine ⟨_, _, _, _, rfl, rfl, ll23, l23, szl (by rw [List.length_map, List.length_map, List.length_append, List.length_take, List.length_drop, List.length_map]; show _ + 1 + _ ≤ 100000; omega), fun p24 hp24 => ?_⟩
          have r24 : Kp [st] H23 (upd H23 p24 (.lst ((((its.map iText).take cut ++ [tk]).map V.str) ++ (((its.map iText).drop cut).map V.str)))) := Kp.new hp24
          have k24 := k23.trans r24
          have s24 := s23.kp (Kp.new (o := .lst ((((its.map iText).take cut ++ [tk]).map V.str) ++ (((its.map iText).drop cut).map V.str))) hp24)
          have l24 : (upd H23 p24 (.lst ((((its.map iText).take cut ++ [tk]).map V.str) ++ (((its.map iText).drop cut).map V.str)))) p24 = some (.lst (((its.map iText).take cut ++ [tk] ++ (its.map iText).drop cut).map V.str)) := by
            rw [upd_same]
            simp only [List.map_append]
          have T24 := r24.keep _ _ (by simpa using opt) T23
          generalize upd H23 p24 (.lst ((((its.map iText).take cut ++ [tk]).map V.str) ++ (((its.map iText).drop cut).map V.str))) = H24 at r24 k24 s24 l24 T24
          walk_at "rd"
          have tk4 : tk.length ≤ 4 := short T6 (by decide +kernel) tkm
          have ha5 : ∀ p ∈ (its.map iText).take cut ++ [tk] ++ (its.map iText).drop cut, p.length ≤ 1000 := app_all (app_all (fun p m => hTl p (List.mem_of_mem_take m)) (mem_cons_all (by omega) nil_all)) (fun p m => hTl p (List.mem_of_mem_drop m))
          have hn5 : ((its.map iText).take cut ++ [tk] ++ (its.map iText).drop cut).length ≤ 6 := by
            rw [List.length_append, List.length_append, List.length_take, List.length_drop, List.length_map]
            show _ + 1 + _ ≤ 6
            omega
          refine ⟨_, _, (its.map iText).take cut ++ [tk] ++ (its.map iText).drop cut, rfl, rfl, .inl (SqL.of l24), jok _ ha5 (by omega) (by decide +kernel) (by omega), ?_⟩
          walk_at "rd"
          have hps := prs_spoilt hok hI hle tkm hcut
          have hxl : (Txt.join " " ((its.map iText).take cut ++ [tk] ++ (its.map iText).drop cut)).length ≤ 100000 := join_le _ ha5 (by omega)
          generalize Txt.join " " ((its.map iText).take cut ++ [tk] ++ (its.map iText).drop cut) = spo at hps hxl ⊢
          rw [hpl] at hps
          refine ⟨spo, "parse", 5000, (.error (.mal fr.length)), rfl, .inl rfl, hxl, by decide, hps, ?_⟩
          refine ⟨trivial, ?_⟩
          intro u25 H25 rr25 d25
          have r25 : Kp [st] H24 H25 := rr25.nil
          have k25 := k24.trans r25
          have s25 := s24.kp rr25
          walk_at "rd"
          first | refine ⟨szl (Nat.le_of_ble_eq_true rfl), fun p26 hp26 => ?_⟩ | intro p26 hp26
          have r26 : Kp [st] H25 (upd H25 p26 (.tup [.str "malformed", .int (fr.length : Nat)])) := Kp.new hp26
          have k26 : Kp [st] B (upd H25 p26 (.tup [.str "malformed", .int (fr.length : Nat)])) := k25.trans r26
          have s26 : StAt K (upd H25 p26 (.tup [.str "malformed", .int (fr.length : Nat)])) st sc := s25.kp (Kp.new hp26)
          have l26 : (upd H25 p26 (.tup [.str "malformed", .int (fr.length : Nat)])) p26 = some (.tup [.str "malformed", .int (fr.length : Nat)]) := upd_same
          have o26 : p26 ≠ st := s25.old hp26
          generalize upd H25 p26 (.tup [.str "malformed", .int (fr.length : Nat)]) = H26 at r26 k26 s26 l26
          walk_at "rd"
          have dm26 := Dp.kp r26 _ _ (show noL (encE (.mal fr.length)) = true from rfl) d25
          have se26 : Sok 1 (encE (.mal fr.length)) := .tup (mem2 (sok_c _ (by decide +kernel)) .int)
          refine ⟨_, _, dm26, .tup (ds := [.str "malformed", .int (fr.length : Nat)]) (SqT.of l26) (by walk_at "dp"), se26.shaped (by decide), se26.shaped (by decide), _, rfl, ?_⟩
          rw [show PyData.eqv (encE (.mal fr.length)) (.tuple [.str "malformed", .int (fr.length : Nat)]) = true from se26.refl]
          walk_at "rd"
          have T25 := r25.keep _ _ (by simpa using opt) T24
          have T26 := r26.keep _ _ (by simpa using opt) T25
          refine ⟨spo, "program", 5000, (.error (.mal fr.length)), rfl, .inr rfl, hxl, by decide, hps, ?_⟩
          refine ⟨trivial, ?_⟩
          intro u27 H27 rr27 d27
          have r27 : Kp [st] H26 H27 := rr27.nil
          have k27 := k26.trans r27
          have s27 := s26.kp rr27
          walk_at "rd"
          first | refine ⟨szl (Nat.le_of_ble_eq_true rfl), fun p28 hp28 => ?_⟩ | intro p28 hp28
          have r28 : Kp [st] H27 (upd H27 p28 (.tup [.str "malformed", .int (fr.length : Nat)])) := Kp.new hp28
          have k28 : Kp [st] B (upd H27 p28 (.tup [.str "malformed", .int (fr.length : Nat)])) := k27.trans r28
          have s28 : StAt K (upd H27 p28 (.tup [.str "malformed", .int (fr.length : Nat)])) st sc := s27.kp (Kp.new hp28)
          have l28 : (upd H27 p28 (.tup [.str "malformed", .int (fr.length : Nat)])) p28 = some (.tup [.str "malformed", .int (fr.length : Nat)]) := upd_same
          have o28 : p28 ≠ st := s27.old hp28
          generalize upd H27 p28 (.tup [.str "malformed", .int (fr.length : Nat)]) = H28 at r28 k28 s28 l28
          walk_at "rd"
          have dm28 := Dp.kp r28 _ _ (show noL (encE (.mal fr.length)) = true from rfl) d27
          have se28 : Sok 1 (encE (.mal fr.length)) := .tup (mem2 (sok_c _ (by decide +kernel)) .int)
          refine ⟨_, _, dm28, .tup (ds := [.str "malformed", .int (fr.length : Nat)]) (SqT.of l28) (by walk_at "dp"), se28.shaped (by decide), se28.shaped (by decide), _, rfl, ?_⟩
          rw [show PyData.eqv (encE (.mal fr.length)) (.tuple [.str "malformed", .int (fr.length : Nat)]) = true from se28.refl]
          walk_at "rd"
          have T27 := r27.keep _ _ (by simpa using opt) T26
          have T28 := r28.keep _ _ (by simpa using opt) T27
          first | refine ⟨szl (Nat.le_of_ble_eq_true rfl), fun p29 hp29 => ?_⟩ | intro p29 hp29
          have r29 : Kp [st] H28 (upd H28 p29 (.lst [.str "global", .str "fn", .str "fn f", .str "fn f ( ) {", .str "global h"])) := Kp.new hp29
          have k29 : Kp [st] B (upd H28 p29 (.lst [.str "global", .str "fn", .str "fn f", .str "fn f ( ) {", .str "global h"])) := k28.trans r29
          have s29 : StAt K (upd H28 p29 (.lst [.str "global", .str "fn", .str "fn f", .str "fn f ( ) {", .str "global h"])) st sc := s28.kp (Kp.new hp29)
          have l29 : (upd H28 p29 (.lst [.str "global", .str "fn", .str "fn f", .str "fn f ( ) {", .str "global h"])) p29 = some (.lst ((T5 : List Str).map V.str)) := upd_same
          have o29 : p29 ≠ st := s28.old hp29
          generalize upd H28 p29 (.lst [.str "global", .str "fn", .str "fn f", .str "fn f ( ) {", .str "global h"]) = H29 at r29 k29 s29 l29
          walk_at "rd"
          refine ⟨st, sc, 5, rfl, by decide, by decide, s29, fun t30 ht30 H30 r30 s30 => ?_⟩
          have k30 := k29.trans r30
          walk_at "rd"
          obtain ⟨te, te0, tem⟩ := pick_at T5 (t := t30) ht30
          have te1 : (T5.map V.str)[t30]? = some (.str te) := by rw [List.getElem?_map, te0]; rfl
          refine ⟨_, _, _, _, rfl, rfl, SqL.of (r30.keep _ _ (by simpa using o29) l29), atI_nat te1, ?_⟩
          walk_at "rd"
          have T29 := r29.keep _ _ (by simpa using opt) T28
          have T30 := r30.keep _ _ (by simpa using opt) T29
          first | refine ⟨szl (Nat.le_of_ble_eq_true rfl), fun p31 hp31 => ?_⟩ | intro p31 hp31
          have r31 : Kp [st] H30 (upd H30 p31 (.lst [.str te])) := Kp.new hp31
          have k31 : Kp [st] B (upd H30 p31 (.lst [.str te])) := k30.trans r31
          have s31 : StAt K (upd H30 p31 (.lst [.str te])) st sc := s30.kp (Kp.new hp31)
          have l31 : (upd H30 p31 (.lst [.str te])) p31 = some (.lst (([te] : List Str).map V.str)) := upd_same
          have o31 : p31 ≠ st := s30.old hp31
          generalize upd H30 p31 (.lst [.str te]) = H31 at r31 k31 s31 l31
          walk_at "rd"
          have T31 := r31.keep _ _ (by simpa using opt) T30
          refine ⟨_, _, _, _, rfl, rfl, T31, l31, szl (by rw [List.length_map, List.length_map, List.length_map]; show _ + 1 ≤ 100000; omega), fun p32 hp32 => ?_⟩
          have r32 : Kp [st] H31 (upd H31 p32 (.lst (((its.map iText).map V.str) ++ (([te] : List Str).map V.str)))) := Kp.new hp32
          have k32 := k31.trans r32
          have s32 := s31.kp (Kp.new (o := .lst (((its.map iText).map V.str) ++ (([te] : List Str).map V.str))) hp32)
          have l32 : (upd H31 p32 (.lst (((its.map iText).map V.str) ++ (([te] : List Str).map V.str)))) p32 = some (.lst (((its.map iText) ++ [te]).map V.str)) := by rw [upd_same, List.map_append]
          generalize upd H31 p32 (.lst (((its.map iText).map V.str) ++ (([te] : List Str).map V.str))) = H32 at r32 k32 s32 l32
          walk_at "rd"
          have te20 : te.length ≤ 20 := of_decide_eq_true (List.all_eq_true.mp (show T5.all (fun x => decide (x.length ≤ 20)) = true by decide +kernel) te tem)
          have ha6 : ∀ p ∈ (its.map iText) ++ [te], p.length ≤ 1000 := app_all hTl (mem_cons_all (by omega) nil_all)
          have hn6 : ((its.map iText) ++ [te]).length ≤ 6 := by
            rw [List.length_append, List.length_map]
            show _ + 1 ≤ 6
            omega
          refine ⟨_, _, (its.map iText) ++ [te], rfl, rfl, .inl (SqL.of l32), jok _ ha6 (by omega) (by decide +kernel) (by omega), ?_⟩
          walk_at "rd"
          have hps2 := prs_short hok hI hle tem
          have hxl2 : (Txt.join " " ((its.map iText) ++ [te])).length ≤ 100000 := join_le _ ha6 (by omega)
          generalize Txt.join " " ((its.map iText) ++ [te]) = sho at hps2 hxl2 ⊢
          refine ⟨sho, "parse", 5000, (.error (.mal sho.length)), rfl, .inl rfl, hxl2, by decide, hps2, ?_⟩
          refine ⟨trivial, ?_⟩
          intro u33 H33 rr33 d33
          have r33 : Kp [st] H32 H33 := rr33.nil
          have k33 := k32.trans r33
          have s33 := s32.kp rr33
          walk_at "rd"
          first | refine ⟨szl (Nat.le_of_ble_eq_true rfl), fun p34 hp34 => ?_⟩ | intro p34 hp34
          have r34 : Kp [st] H33 (upd H33 p34 (.tup [.str "malformed", .int (sho.length : Nat)])) := Kp.new hp34
          have k34 : Kp [st] B (upd H33 p34 (.tup [.str "malformed", .int (sho.length : Nat)])) := k33.trans r34
          have s34 : StAt K (upd H33 p34 (.tup [.str "malformed", .int (sho.length : Nat)])) st sc := s33.kp (Kp.new hp34)
          have l34 : (upd H33 p34 (.tup [.str "malformed", .int (sho.length : Nat)])) p34 = some (.tup [.str "malformed", .int (sho.length : Nat)]) := upd_same
          have o34 : p34 ≠ st := s33.old hp34
          generalize upd H33 p34 (.tup [.str "malformed", .int (sho.length : Nat)]) = H34 at r34 k34 s34 l34
          walk_at "rd"
          have dm34 := Dp.kp r34 _ _ (show noL (encE (.mal sho.length)) = true from rfl) d33
          have se34 : Sok 1 (encE (.mal sho.length)) := .tup (mem2 (sok_c _ (by decide +kernel)) .int)
          refine ⟨_, _, dm34, .tup (ds := [.str "malformed", .int (sho.length : Nat)]) (SqT.of l34) (by walk_at "dp"), se34.shaped (by decide), se34.shaped (by decide), ?_⟩
          rw [show PyData.eqv (encE (.mal sho.length)) (.tuple [.str "malformed", .int (sho.length : Nat)]) = true from se34.refl]
          walk_at "rd"
          refine ⟨sho, "program", 5000, (.error (.mal sho.length)), rfl, .inr rfl, hxl2, by decide, hps2, ?_⟩
          refine ⟨trivial, ?_⟩
          intro u35 H35 rr35 d35
          have r35 : Kp [st] H34 H35 := rr35.nil
          have k35 := k34.trans r35
          have s35 := s34.kp rr35
          walk_at "rd"
          first | refine ⟨szl (Nat.le_of_ble_eq_true rfl), fun p36 hp36 => ?_⟩ | intro p36 hp36
          have r36 : Kp [st] H35 (upd H35 p36 (.tup [.str "malformed", .int (sho.length : Nat)])) := Kp.new hp36
          have k36 : Kp [st] B (upd H35 p36 (.tup [.str "malformed", .int (sho.length : Nat)])) := k35.trans r36
          have s36 : StAt K (upd H35 p36 (.tup [.str "malformed", .int (sho.length : Nat)])) st sc := s35.kp (Kp.new hp36)
          have l36 : (upd H35 p36 (.tup [.str "malformed", .int (sho.length : Nat)])) p36 = some (.tup [.str "malformed", .int (sho.length : Nat)]) := upd_same
          have o36 : p36 ≠ st := s35.old hp36
          generalize upd H35 p36 (.tup [.str "malformed", .int (sho.length : Nat)]) = H36 at r36 k36 s36 l36
          walk_at "rd"
          have dm36 := Dp.kp r36 _ _ (show noL (encE (.mal sho.length)) = true from rfl) d35
          have se36 : Sok 1 (encE (.mal sho.length)) := .tup (mem2 (sok_c _ (by decide +kernel)) .int)
          refine ⟨_, _, dm36, .tup (ds := [.str "malformed", .int (sho.length : Nat)]) (SqT.of l36) (by walk_at "dp"), se36.shaped (by decide), se36.shaped (by decide), ?_⟩
          rw [show PyData.eqv (encE (.mal sho.length)) (.tuple [.str "malformed", .int (sho.length : Nat)]) = true from se36.refl]
          exact k _
        · have hc0 : ¬ 0 < cut := by
            have := of_decide_eq_false h
            omega
          have hpl : (if 0 < cut then (Txt.join " " ((its.map iText).take cut ++ ([""] : List Str))).length else 0) = 0 := if_neg hc0
          walk_at "rd"
          first | refine ⟨szl (Nat.le_of_ble_eq_true rfl), fun p18 hp18 => ?_⟩ | intro p18 hp18
          have r18 : Kp [st] H17 (upd H17 p18 (.lst [.str "x", .str ";", .str "}", .str "out", .str "7", .str "="])) := Kp.new hp18
          have k18 : Kp [st] B (upd H17 p18 (.lst [.str "x", .str ";", .str "}", .str "out", .str "7", .str "="])) := k17.trans r18
          have s18 : StAt K (upd H17 p18 (.lst [.str "x", .str ";", .str "}", .str "out", .str "7", .str "="])) st sc := s17.kp (Kp.new hp18)
          have l18 : (upd H17 p18 (.lst [.str "x", .str ";", .str "}", .str "out", .str "7", .str "="])) p18 = some (.lst ((T6 : List Str).map V.str)) := upd_same
          have o18 : p18 ≠ st := s17.old hp18
          generalize upd H17 p18 (.lst [.str "x", .str ";", .str "}", .str "out", .str "7", .str "="]) = H18 at r18 k18 s18 l18
          walk_at "rd"
          refine ⟨st, sc, 6, rfl, by decide, by decide, s18, fun t19 ht19 H19 r19 s19 => ?_⟩
          have k19 := k18.trans r19
          walk_at "rd"
          obtain ⟨tk, tk0, tkm⟩ := pick_at T6 (t := t19) ht19
          have tk1 : (T6.map V.str)[t19]? = some (.str tk) := by rw [List.getElem?_map, tk0]; rfl
          refine ⟨_, _, _, _, rfl, rfl, SqL.of (r19.keep _ _ (by simpa using o18) l18), atI_nat tk1, ?_⟩
          walk_at "rd"
          have T18 := r18.keep _ _ (by simpa using opt) T17
          have T19 := r19.keep _ _ (by simpa using opt) T18
          refine ⟨_, _, rfl, SqL.of T19, fun p20 hp20 => ?_⟩
          rw [cpre.2, ← List.map_take]
          have r20 : Kp [st] H19 (upd H19 p20 (.lst (((its.map iText).take cut).map V.str))) := Kp.new hp20
          have k20 := k19.trans r20
          have s20 := s19.kp (Kp.new (o := .lst (((its.map iText).take cut).map V.str)) hp20)
          have l20 : (upd H19 p20 (.lst (((its.map iText).take cut).map V.str))) p20 = some (.lst (((its.map iText).take cut).map V.str)) := upd_same
          have o20 : p20 ≠ st := s19.old hp20
          have T20 := r20.keep _ _ (by simpa using opt) T19
          generalize upd H19 p20 (.lst (((its.map iText).take cut).map V.str)) = H20 at r20 k20 s20 l20 T20
          walk_at "rd"
          first | refine ⟨szl (Nat.le_of_ble_eq_true rfl), fun p21 hp21 => ?_⟩ | intro p21 hp21
          have r21 : Kp [st] H20 (upd H20 p21 (.lst [.str tk])) := Kp.new hp21
          have k21 : Kp [st] B (upd H20 p21 (.lst [.str tk])) := k20.trans r21
          have s21 : StAt K (upd H20 p21 (.lst [.str tk])) st sc := s20.kp (Kp.new hp21)
          have l21 : (upd H20 p21 (.lst [.str tk])) p21 = some (.lst (([tk] : List Str).map V.str)) := upd_same
          have o21 : p21 ≠ st := s20.old hp21
          generalize upd H20 p21 (.lst [.str tk]) = H21 at r21 k21 s21 l21
          walk_at "rd"
          have T21 := r21.keep _ _ (by simpa using opt) T20
          have ll21 := r21.keep _ _ (by simpa using o20) l20
          refine ⟨_, _, _, _, rfl, rfl, ll21, l21, szl (by rw [List.length_map, List.length_map, List.length_take, List.length_map]; show _ + 1 ≤ 100000; omega), fun p22 hp22 => ?_⟩
          have r22 : Kp [st] H21 (upd H21 p22 (.lst ((((its.map iText).take cut).map V.str) ++ (([tk] : List Str).map V.str)))) := Kp.new hp22
          have k22 := k21.trans r22
          have s22 := s21.kp (Kp.new (o := .lst ((((its.map iText).take cut).map V.str) ++ (([tk] : List Str).map V.str))) hp22)
          have l22 : (upd H21 p22 (.lst ((((its.map iText).take cut).map V.str) ++ (([tk] : List Str).map V.str)))) p22 = some (.lst (((its.map iText).take cut ++ [tk]).map V.str)) := by rw [upd_same, List.map_append]
          have o22 : p22 ≠ st := s21.old hp22
          have T22 := r22.keep _ _ (by simpa using opt) T21
          generalize upd H21 p22 (.lst ((((its.map iText).take cut).map V.str) ++ (([tk] : List Str).map V.str))) = H22 at r22 k22 s22 l22 T22
          walk_at "rd"
          refine ⟨_, _, rfl, SqL.of T22, fun p23 hp23 => ?_⟩
          rw [cut_suf (xs := (its.map iText).map V.str) (i := cut) (by rw [List.length_map, List.length_map]; exact hcut), ← List.map_drop]
          have r23 : Kp [st] H22 (upd H22 p23 (.lst (((its.map iText).drop cut).map V.str))) := Kp.new hp23
          have k23 := k22.trans r23
          have s23 := s22.kp (Kp.new (o := .lst (((its.map iText).drop cut).map V.str)) hp23)
          have l23 : (upd H22 p23 (.lst (((its.map iText).drop cut).map V.str))) p23 = some (.lst (((its.map iText).drop cut).map V.str)) := upd_same
          have ll23 := r23.keep _ _ (by simpa using o22) l22
          have T23 := r23.keep _ _ (by simpa using opt) T22
          generalize upd H22 p23 (.lst (((its.map iText).drop cut).map V.str)) = H23 at r23 k23 s23 l23 ll23 T23
          walk_at "rd"
          refine ⟨_, _, _, _, rfl, rfl, ll23, l23, szl (by rw [List.length_map, List.length_map, List.length_append, List.length_take, List.length_drop, List.length_map]; show _ + 1 + _ ≤ 100000; omega), fun p24 hp24 => ?_⟩
          have r24 : Kp [st] H23 (upd H23 p24 (.lst ((((its.map iText).take cut ++ [tk]).map V.str) ++ (((its.map iText).drop cut).map V.str)))) := Kp.new hp24
          have k24 := k23.trans r24
          have s24 := s23.kp (Kp.new (o := .lst ((((its.map iText).take cut ++ [tk]).map V.str) ++ (((its.map iText).drop cut).map V.str))) hp24)
          have l24 : (upd H23 p24 (.lst ((((its.map iText).take cut ++ [tk]).map V.str) ++ (((its.map iText).drop cut).map V.str)))) p24 = some (.lst (((its.map iText).take cut ++ [tk] ++ (its.map iText).drop cut).map V.str)) := by
            rw [upd_same]
            simp only [List.map_append]
          have T24 := r24.keep _ _ (by simpa using opt) T23
          generalize upd H23 p24 (.lst ((((its.map iText).take cut ++ [tk]).map V.str) ++ (((its.map iText).drop cut).map V.str))) = H24 at r24 k24 s24 l24 T24
          walk_at "rd"
          have tk4 : tk.length ≤ 4 := short T6 (by decide +kernel) tkm
          have ha5 : ∀ p ∈ (its.map iText).take cut ++ [tk] ++ (its.map iText).drop cut, p.length ≤ 1000 := app_all (app_all (fun p m => hTl p (List.mem_of_mem_take m)) (mem_cons_all (by omega) nil_all)) (fun p m => hTl p (List.mem_of_mem_drop m))
          have hn5 : ((its.map iText).take cut ++ [tk] ++ (its.map iText).drop cut).length ≤ 6 := by
            rw [List.length_append, List.length_append, List.length_take, List.length_drop, List.length_map]
            show _ + 1 + _ ≤ 6
            omega
          refine ⟨_, _, (its.map iText).take cut ++ [tk] ++ (its.map iText).drop cut, rfl, rfl, .inl (SqL.of l24), jok _ ha5 (by omega) (by decide +kernel) (by omega), ?_⟩
          walk_at "rd"
          have hps := prs_spoilt hok hI hle tkm hcut
          have hxl : (Txt.join " " ((its.map iText).take cut ++ [tk] ++ (its.map iText).drop cut)).length ≤ 100000 := join_le _ ha5 (by omega)
          generalize Txt.join " " ((its.map iText).take cut ++ [tk] ++ (its.map iText).drop cut) = spo at hps hxl ⊢
          rw [hpl] at hps
          refine ⟨spo, "parse", 5000, (.error (.mal 0)), rfl, .inl rfl, hxl, by decide, hps, ?_⟩
          refine ⟨trivial, ?_⟩
          intro u25 H25 rr25 d25
          have r25 : Kp [st] H24 H25 := rr25.nil
          have k25 := k24.trans r25
          have s25 := s24.kp rr25
          walk_at "rd"
          first | refine ⟨szl (Nat.le_of_ble_eq_true rfl), fun p26 hp26 => ?_⟩ | intro p26 hp26
          have r26 : Kp [st] H25 (upd H25 p26 (.tup [.str "malformed", .int (0 : Nat)])) := Kp.new hp26
          have k26 : Kp [st] B (upd H25 p26 (.tup [.str "malformed", .int (0 : Nat)])) := k25.trans r26
          have s26 : StAt K (upd H25 p26 (.tup [.str "malformed", .int (0 : Nat)])) st sc := s25.kp (Kp.new hp26)
          have l26 : (upd H25 p26 (.tup [.str "malformed", .int (0 : Nat)])) p26 = some (.tup [.str "malformed", .int (0 : Nat)]) := upd_same
          have o26 : p26 ≠ st := s25.old hp26
          generalize upd H25 p26 (.tup [.str "malformed", .int (0 : Nat)]) = H26 at r26 k26 s26 l26
          walk_at "rd"
          have dm26 := Dp.kp r26 _ _ (show noL (encE (.mal 0)) = true from rfl) d25
          have se26 : Sok 1 (encE (.mal 0)) := .tup (mem2 (sok_c _ (by decide +kernel)) .int)
          refine ⟨_, _, dm26, .tup (ds := [.str "malformed", .int (0 : Nat)]) (SqT.of l26) (by walk_at "dp"), se26.shaped (by decide), se26.shaped (by decide), _, rfl, ?_⟩
          rw [show PyData.eqv (encE (.mal 0)) (.tuple [.str "malformed", .int (0 : Nat)]) = true from se26.refl]
          walk_at "rd"
          have T25 := r25.keep _ _ (by simpa using opt) T24
          have T26 := r26.keep _ _ (by simpa using opt) T25
          refine ⟨spo, "program", 5000, (.error (.mal 0)), rfl, .inr rfl, hxl, by decide, hps, ?_⟩
          refine ⟨trivial, ?_⟩
          intro u27 H27 rr27 d27
          have r27 : Kp [st] H26 H27 := rr27.nil
          have k27 := k26.trans r27
          have s27 := s26.kp rr27
          walk_at "rd"
          first | refine ⟨szl (Nat.le_of_ble_eq_true rfl), fun p28 hp28 => ?_⟩ | intro p28 hp28
          have r28 : Kp [st] H27 (upd H27 p28 (.tup [.str "malformed", .int (0 : Nat)])) := Kp.new hp28
          have k28 : Kp [st] B (upd H27 p28 (.tup [.str "malformed", .int (0 : Nat)])) := k27.trans r28
          have s28 : StAt K (upd H27 p28 (.tup [.str "malformed", .int (0 : Nat)])) st sc := s27.kp (Kp.new hp28)
          have l28 : (upd H27 p28 (.tup [.str "malformed", .int (0 : Nat)])) p28 = some (.tup [.str "malformed", .int (0 : Nat)]) := upd_same
          have o28 : p28 ≠ st := s27.old hp28
          generalize upd H27 p28 (.tup [.str "malformed", .int (0 : Nat)]) = H28 at r28 k28 s28 l28
          walk_at "rd"
          have dm28 := Dp.kp r28 _ _ (show noL (encE (.mal 0)) = true from rfl) d27
          have se28 : Sok 1 (encE (.mal 0)) := .tup (mem2 (sok_c _ (by decide +kernel)) .int)
          refine ⟨_, _, dm28, .tup (ds := [.str "malformed", .int (0 : Nat)]) (SqT.of l28) (by walk_at "dp"), se28.shaped (by decide), se28.shaped (by decide), _, rfl, ?_⟩
          rw [show PyData.eqv (encE (.mal 0)) (.tuple [.str "malformed", .int (0 : Nat)]) = true from se28.refl]
          walk_at "rd"
          have T27 := r27.keep _ _ (by simpa using opt) T26
          have T28 := r28.keep _ _ (by simpa using opt) T27
          first | refine ⟨szl (Nat.le_of_ble_eq_true rfl), fun p29 hp29 => ?_⟩ | intro p29 hp29
          have r29 : Kp [st] H28 (upd H28 p29 (.lst [.str "global", .str "fn", .str "fn f", .str "fn f ( ) {", .str "global h"])) := Kp.new hp29
          have k29 : Kp [st] B (upd H28 p29 (.lst [.str "global", .str "fn", .str "fn f", .str "fn f ( ) {", .str "global h"])) := k28.trans r29
          have s29 : StAt K (upd H28 p29 (.lst [.str "global", .str "fn", .str "fn f", .str "fn f ( ) {", .str "global h"])) st sc := s28.kp (Kp.new hp29)
          have l29 : (upd H28 p29 (.lst [.str "global", .str "fn", .str "fn f", .str "fn f ( ) {", .str "global h"])) p29 = some (.lst ((T5 : List Str).map V.str)) := upd_same
          have o29 : p29 ≠ st := s28.old hp29
          generalize upd H28 p29 (.lst [.str "global", .str "fn", .str "fn f", .str "fn f ( ) {", .str "global h"]) = H29 at r29 k29 s29 l29
          walk_at "rd"
          refine ⟨st, sc, 5, rfl, by decide, by decide, s29, fun t30 ht30 H30 r30 s30 => ?_⟩
          have k30 := k29.trans r30
          walk_at "rd"
          obtain ⟨te, te0, tem⟩ := pick_at T5 (t := t30) ht30
          have te1 : (T5.map V.str)[t30]? = some (.str te) := by rw [List.getElem?_map, te0]; rfl
          refine ⟨_, _, _, _, rfl, rfl, SqL.of (r30.keep _ _ (by simpa using o29) l29), atI_nat te1, ?_⟩
          walk_at "rd"
          have T29 := r29.keep _ _ (by simpa using opt) T28
          have T30 := r30.keep _ _ (by simpa using opt) T29
          first | refine ⟨szl (Nat.le_of_ble_eq_true rfl), fun p31 hp31 => ?_⟩ | intro p31 hp31
          have r31 : Kp [st] H30 (upd H30 p31 (.lst [.str te])) := Kp.new hp31
          have k31 : Kp [st] B (upd H30 p31 (.lst [.str te])) := k30.trans r31
          have s31 : StAt K (upd H30 p31 (.lst [.str te])) st sc := s30.kp (Kp.new hp31)
          have l31 : (upd H30 p31 (.lst [.str te])) p31 = some (.lst (([te] : List Str).map V.str)) := upd_same
          have o31 : p31 ≠ st := s30.old hp31
          generalize upd H30 p31 (.lst [.str te]) = H31 at r31 k31 s31 l31
          walk_at "rd"
          have T31 := r31.keep _ _ (by simpa using opt) T30
          refine ⟨_, _, _, _, rfl, rfl, T31, l31, szl (by rw [List.length_map, List.length_map, List.length_map]; show _ + 1 ≤ 100000; omega), fun p32 hp32 => ?_⟩
          have r32 : Kp [st] H31 (upd H31 p32 (.lst (((its.map iText).map V.str) ++ (([te] : List Str).map V.str)))) := Kp.new hp32
          have k32 := k31.trans r32
          have s32 := s31.kp (Kp.new (o := .lst (((its.map iText).map V.str) ++ (([te] : List Str).map V.str))) hp32)
          have l32 : (upd H31 p32 (.lst (((its.map iText).map V.str) ++ (([te] : List Str).map V.str)))) p32 = some (.lst (((its.map iText) ++ [te]).map V.str)) := by rw [upd_same, List.map_append]
          generalize upd H31 p32 (.lst (((its.map iText).map V.str) ++ (([te] : List Str).map V.str))) = H32 at r32 k32 s32 l32
          walk_at "rd"
          have te20 : te.length ≤ 20 := of_decide_eq_true (List.all_eq_true.mp (show T5.all (fun x => decide (x.length ≤ 20)) = true by decide +kernel) te tem)
          have ha6 : ∀ p ∈ (its.map iText) ++ [te], p.length ≤ 1000 := app_all hTl (mem_cons_all (by omega) nil_all)
          have hn6 : ((its.map iText) ++ [te]).length ≤ 6 := by
            rw [List.length_append, List.length_map]
            show _ + 1 ≤ 6
            omega
          refine ⟨_, _, (its.map iText) ++ [te], rfl, rfl, .inl (SqL.of l32), jok _ ha6 (by omega) (by decide +kernel) (by omega), ?_⟩
          walk_at "rd"
          have hps2 := prs_short hok hI hle tem
          have hxl2 : (Txt.join " " ((its.map iText) ++ [te])).length ≤ 100000 := join_le _ ha6 (by omega)
          generalize Txt.join " " ((its.map iText) ++ [te]) = sho at hps2 hxl2 ⊢
          refine ⟨sho, "parse", 5000, (.error (.mal sho.length)), rfl, .inl rfl, hxl2, by decide, hps2, ?_⟩
          refine ⟨trivial, ?_⟩
          intro u33 H33 rr33 d33
          have r33 : Kp [st] H32 H33 := rr33.nil
          have k33 := k32.trans r33
          have s33 := s32.kp rr33
          walk_at "rd"
          first | refine ⟨szl (Nat.le_of_ble_eq_true rfl), fun p34 hp34 => ?_⟩ | intro p34 hp34
          have r34 : Kp [st] H33 (upd H33 p34 (.tup [.str "malformed", .int (sho.length : Nat)])) := Kp.new hp34
          have k34 : Kp [st] B (upd H33 p34 (.tup [.str "malformed", .int (sho.length : Nat)])) := k33.trans r34
          have s34 : StAt K (upd H33 p34 (.tup [.str "malformed", .int (sho.length : Nat)])) st sc := s33.kp (Kp.new hp34)
          have l34 : (upd H33 p34 (.tup [.str "malformed", .int (sho.length : Nat)])) p34 = some (.tup [.str "malformed", .int (sho.length : Nat)]) := upd_same
          have o34 : p34 ≠ st := s33.old hp34
          generalize upd H33 p34 (.tup [.str "malformed", .int (sho.length : Nat)]) = H34 at r34 k34 s34 l34
          walk_at "rd"
          have dm34 := Dp.kp r34 _ _ (show noL (encE (.mal sho.length)) = true from rfl) d33
          have se34 : Sok 1 (encE (.mal sho.length)) := .tup (mem2 (sok_c _ (by decide +kernel)) .int)
          refine ⟨_, _, dm34, .tup (ds := [.str "malformed", .int (sho.length : Nat)]) (SqT.of l34) (by walk_at "dp"), se34.shaped (by decide), se34.shaped (by decide), ?_⟩
          rw [show PyData.eqv (encE (.mal sho.length)) (.tuple [.str "malformed", .int (sho.length : Nat)]) = true from se34.refl]
          walk_at "rd"
          refine ⟨sho, "program", 5000, (.error (.mal sho.length)), rfl, .inr rfl, hxl2, by decide, hps2, ?_⟩
          refine ⟨trivial, ?_⟩
          intro u35 H35 rr35 d35
          have r35 : Kp [st] H34 H35 := rr35.nil
          have k35 := k34.trans r35
          have s35 := s34.kp rr35
          walk_at "rd"
          first | refine ⟨szl (Nat.le_of_ble_eq_true rfl), fun p36 hp36 => ?_⟩ | intro p36 hp36
          have r36 : Kp [st] H35 (upd H35 p36 (.tup [.str "malformed", .int (sho.length : Nat)])) := Kp.new hp36
          have k36 : Kp [st] B (upd H35 p36 (.tup [.str "malformed", .int (sho.length : Nat)])) := k35.trans r36
          have s36 : StAt K (upd H35 p36 (.tup [.str "malformed", .int (sho.length : Nat)])) st sc := s35.kp (Kp.new hp36)
          have l36 : (upd H35 p36 (.tup [.str "malformed", .int (sho.length : Nat)])) p36 = some (.tup [.str "malformed", .int (sho.length : Nat)]) := upd_same
          have o36 : p36 ≠ st := s35.old hp36
          generalize upd H35 p36 (.tup [.str "malformed", .int (sho.length : Nat)]) = H36 at r36 k36 s36 l36
          walk_at "rd"
          have dm36 := Dp.kp r36 _ _ (show noL (encE (.mal sho.length)) = true from rfl) d35
          have se36 : Sok 1 (encE (.mal sho.length)) := .tup (mem2 (sok_c _ (by decide +kernel)) .int)
          refine ⟨_, _, dm36, .tup (ds := [.str "malformed", .int (sho.length : Nat)]) (SqT.of l36) (by walk_at "dp"), se36.shaped (by decide), se36.shaped (by decide), ?_⟩
          rw [show PyData.eqv (encE (.mal sho.length)) (.tuple [.str "malformed", .int (sho.length : Nat)]) = true from se36.refl]
          exact k _
      | ok z =>
        obtain ⟨gs, fs⟩ := z
        rw [hb] at hlb
        dsimp only at hlb
        obtain ⟨hl0, rfl, rfl⟩ := hlb
        rw [hl0] at dD
        obtain rfl := Dp.nonOf dD
        have soP := sok_prog hok hI
        walk_at "rd"
        refine ⟨⟨_, SqL.of I12⟩, ?_⟩
        intro D1 hD1
        refine lc_list (xs := xs) (fun j Hj => Kp [] H12 Hj ∧ Hj D1 = some (.lst ((glos (its.take j)).map V.str))) ⟨Kp.new hD1, upd_same⟩ ?_ ?_ ?_
        · rintro j Hj _ ⟨a1, a2⟩
          exact SqL.of (a1.keep _ _ (by simp) I12)
        · rintro j y Hj hy ⟨a1, a2⟩
          have hj : j < xs.length := (List.getElem?_eq_some_iff.mp hy).1
          have hj2 : j < its.length := by omega
          obtain ⟨y', hy', hdy⟩ := DpAll.get D12 (i := j) (d := its[j].enc) (by rw [List.getElem?_map, List.getElem?_eq_getElem hj2]; rfl)
          rw [hy] at hy'
          obtain rfl := Option.some.inj hy'
          have e2 : glos (its.take (j + 1)) = glos (its.take j) ++ glos [its[j]] := by rw [List.take_add_one, List.getElem?_eq_getElem hj2, glos_app]; rfl
          have hgl := glos_len (its.take j)
          rw [List.length_take] at hgl
          generalize its[j] = it at hdy e2
          refine ⟨rfl, ?_⟩
          cases it with
          | glo g =>
            obtain ⟨qi, ui, rfl, hsqi, halli⟩ := Dp.tupOf (ds := [.str "global", .str g]) hdy
            obtain ⟨v, rfl, hv⟩ := dp2s halli
            obtain rfl := Dp.strOf hv
            walk_at "rd"
            refine ⟨_, _, _, _, rfl, rfl, a1.sqt hsqi, atI_nat (j := 0) rfl, ?_⟩
            walk_at "rd"
            first | refine iteT' rfl ?_ | skip
            walk_at "rd"
            refine ⟨_, _, _, _, rfl, rfl, a1.sqt hsqi, atI_nat (j := 1) rfl, ?_⟩
            refine ⟨_, a2, by rw [List.length_map]; exact szt (by omega), a1.mine hD1, ?_⟩
            rw [upd_same, e2, List.map_append]
            rfl
          | fn f =>
            obtain ⟨qi, ui, rfl, hsqi, halli⟩ := Dp.tupOf (ds := [.str "fn", f.enc]) hdy
            obtain ⟨v, rfl, hv⟩ := dp2s halli
            walk_at "rd"
            refine ⟨_, _, _, _, rfl, rfl, a1.sqt hsqi, atI_nat (j := 0) rfl, ?_⟩
            walk_at "rd"
            first | refine iteF' rfl ⟨a1, ?_⟩ | refine ⟨a1, ?_⟩
            rw [e2]
            show _ = some (HO.lst ((glos (its.take j) ++ []).map V.str))
            rw [List.append_nil]
            exact a2
        rintro H13 ⟨rr13, l13⟩
        rw [hxl, List.take_length] at l13
        have r13 : Kp [st] H12 H13 := rr13.nil
        have k13 := k12.trans r13
        have s13 := s12.kp rr13
        have oD1 : D1 ≠ st := s12.old hD1
        have T13 := r13.keep _ _ (by simpa using opt) T12
        have I13 := r13.keep _ _ (by simpa using opi) I12
        have D13 := Dp.kps r13 _ _ (Itms.nl _) D12
        walk_at "rd"
        refine ⟨⟨_, SqL.of I13⟩, ?_⟩
        intro D2 hD2
        refine lc_list (xs := xs) (fun j Hj => ∃ vs, Kp [] H13 Hj ∧ Hj D2 = some (.lst vs) ∧ DpAll K Hj vs ((fns (its.take j)).map Fd.enc)) ⟨[], Kp.new hD2, upd_same, .nil⟩ ?_ ?_ ?_
        · rintro j Hj _ ⟨vs, a1, a2, a3⟩
          exact SqL.of (a1.keep _ _ (by simp) I13)
        · rintro j y Hj hy ⟨vs, a1, a2, a3⟩
          have hj : j < xs.length := (List.getElem?_eq_some_iff.mp hy).1
          have hj2 : j < its.length := by omega
          obtain ⟨y', hy', hdy⟩ := DpAll.get D13 (i := j) (d := its[j].enc) (by rw [List.getElem?_map, List.getElem?_eq_getElem hj2]; rfl)
          rw [hy] at hy'
          obtain rfl := Option.some.inj hy'
          have e2 : fns (its.take (j + 1)) = fns (its.take j) ++ fns [its[j]] := by rw [List.take_add_one, List.getElem?_eq_getElem hj2, fns_app]; rfl
          have hvl : vs.length = (fns (its.take j)).length := by rw [DpAll.length a3, List.length_map]
          have hgl := fns_len (its.take j)
          rw [List.length_take] at hgl
          generalize its[j] = it at hdy e2
          refine ⟨rfl, ?_⟩
          cases it with
          | glo g =>
            obtain ⟨qi, ui, rfl, hsqi, halli⟩ := Dp.tupOf (ds := [.str "global", .str g]) hdy
            obtain ⟨v, rfl, hv⟩ := dp2s halli
            walk_at "rd"
            refine ⟨_, _, _, _, rfl, rfl, a1.sqt hsqi, atI_nat (j := 0) rfl, ?_⟩
            walk_at "rd"
            first | refine iteF' rfl ⟨vs, a1, a2, ?_⟩ | refine ⟨vs, a1, a2, ?_⟩
            rw [e2]
            show DpAll K Hj vs ((fns (its.take j) ++ []).map Fd.enc)
            rw [List.append_nil]
            exact a3
          | fn f =>
            obtain ⟨qi, ui, rfl, hsqi, halli⟩ := Dp.tupOf (ds := [.str "fn", f.enc]) hdy
            obtain ⟨v, rfl, hv⟩ := dp2s halli
            walk_at "rd"
            refine ⟨_, _, _, _, rfl, rfl, a1.sqt hsqi, atI_nat (j := 0) rfl, ?_⟩
            walk_at "rd"
            first | refine iteT' rfl ?_ | skip
            walk_at "rd"
            refine ⟨_, _, _, _, rfl, rfl, a1.sqt hsqi, atI_nat (j := 1) rfl, ?_⟩
            have kD : Kp [D2] Hj (upd Hj D2 (.lst (vs ++ [v]))) := Kp.put a2 nt_lst (by simp)
            refine ⟨_, a2, szt (by omega), _, a1.mine hD2, upd_same, ?_⟩
            rw [e2, List.map_append]
            exact DpAll.snoc (Dp.kps kD _ _ (fds_nl _) a3) (Dp.kp kD _ _ (Fd.nl f) (Dp.kp a1 _ _ (Fd.nl f) hv))
        rintro H14 ⟨vs, rr14, l14, d14⟩
        rw [hxl, List.take_length] at d14
        have r14 : Kp [st] H13 H14 := rr14.nil
        have k14 := k13.trans r14
        have s14 := s13.kp rr14
        have oD2 : D2 ≠ st := s13.old hD2
        have T14 := r14.keep _ _ (by simpa using opt) T13
        have l13' := r14.keep _ _ (by simpa using oD1) l13
        walk_at "rd"
        first | refine ⟨szl (Nat.le_of_ble_eq_true rfl), fun p15 hp15 => ?_⟩ | intro p15 hp15
        have r15 : Kp [st] H14 (upd H14 p15 (.tup [.str "program", .ref D1, .ref D2])) := Kp.new hp15
        have k15 : Kp [st] B (upd H14 p15 (.tup [.str "program", .ref D1, .ref D2])) := k14.trans r15
        have s15 : StAt K (upd H14 p15 (.tup [.str "program", .ref D1, .ref D2])) st sc := s14.kp (Kp.new hp15)
        have l15 : (upd H14 p15 (.tup [.str "program", .ref D1, .ref D2])) p15 = some (.tup [.str "program", .ref D1, .ref D2]) := upd_same
        have o15 : p15 ≠ st := s14.old hp15
        generalize upd H14 p15 (.tup [.str "program", .ref D1, .ref D2]) = H15 at r15 k15 s15 l15
        walk_at "rd"
        have T15 := r15.keep _ _ (by simpa using opt) T14
        have l13'' := r15.keep _ _ (by simpa using oD1) l13'
        have l14' := r15.keep _ _ (by simpa using oD2) l14
        have d15 := Dp.kps r15 _ _ (fds_nl _) d14
        walk_at "rd"
        refine ⟨text, "program", 5000, .ok its, rfl, .inr rfl, htx, by decide, hprs, ?_⟩
        unfold TOut
        dsimp only
        rw [if_neg (show ¬ (("program" : Str) = "parse") by decide +kernel)]
        refine ⟨its_pl hok hI, by omega, ?_⟩
        rw [hb]

        intro u16 H16 rr16 d16
        have r16 : Kp [st] H15 H16 := rr16.nil
        have k16 := k15.trans r16
        have s16 := s15.kp rr16
        have T16 := r16.keep _ _ (by simpa using opt) T15
        have dD16 := Dp.tup (K := K) (H := H16) (ds := [.str "program", .list ((glos its).map .str), .list ((fns its).map Fd.enc)]) (SqT.of (r16.keep _ _ (by simpa using o15) l15)) (.cons (.str _) (.cons (.lst (SqL.of (r16.keep _ _ (by simpa using oD1) l13'')) (dp_strs _)) (.cons (.lst (SqL.of (r16.keep _ _ (by simpa using oD2) l14')) (Dp.kps r16 _ _ (fds_nl _) d15)) .nil)))
        walk_at "rd"
        refine ⟨_, _, d16, dD16, soP.shaped (by decide), soP.shaped (by decide), _, rfl, ?_⟩
        rw [soP.refl]
        walk_at "rd"
        refine ⟨_, _, rfl, .inl (SqL.of T16), ?_⟩
        rw [List.length_map, List.length_map]
        walk_at "rd"
        refine ⟨st, sc, its.length + 1, rfl, by omega, by omega, s16, fun cut hct H17 r17 s17 => ?_⟩
        have k17 := k16.trans r17
        have hcut : cut ≤ its.length := by omega
        have cpre := cut_pre (xs := (its.map iText).map V.str) (i := cut) (by rw [List.length_map, List.length_map]; exact hcut)
        have T17 := r17.keep _ _ (by simpa using opt) T16
        walk_at "rd"
        refine ⟨_, _, rfl, SqL.of T17, fun p18 hp18 => ?_⟩
        rw [cpre.2, ← List.map_take]
        have r18 : Kp [st] H17 (upd H17 p18 (.lst (((its.map iText).take cut).map V.str))) := Kp.new hp18
        have k18 := k17.trans r18
        have s18 := s17.kp (Kp.new (o := .lst (((its.map iText).take cut).map V.str)) hp18)
        have l18 : (upd H17 p18 (.lst (((its.map iText).take cut).map V.str))) p18 = some (.lst (((its.map iText).take cut).map V.str)) := upd_same
        have o18 : p18 ≠ st := s17.old hp18
        have T18 := r18.keep _ _ (by simpa using opt) T17
        generalize upd H17 p18 (.lst (((its.map iText).take cut).map V.str)) = H18 at r18 k18 s18 l18 T18
        walk_at "rd"
        first | refine ⟨szl (Nat.le_of_ble_eq_true rfl), fun p19 hp19 => ?_⟩ | intro p19 hp19
        have r19 : Kp [st] H18 (upd H18 p19 (.lst [.str ""])) := Kp.new hp19
        have k19 : Kp [st] B (upd H18 p19 (.lst [.str ""])) := k18.trans r19
        have s19 : StAt K (upd H18 p19 (.lst [.str ""])) st sc := s18.kp (Kp.new hp19)
        have l19 : (upd H18 p19 (.lst [.str ""])) p19 = some (.lst (([""] : List Str).map V.str)) := upd_same
        have o19 : p19 ≠ st := s18.old hp19
        generalize upd H18 p19 (.lst [.str ""]) = H19 at r19 k19 s19 l19
        walk_at "rd"
        have T19 := r19.keep _ _ (by simpa using opt) T18
        have ll19 := r19.keep _ _ (by simpa using o18) l18
        refine ⟨_, _, _, _, rfl, rfl, ll19, l19, szl (by rw [List.length_map, List.length_map, List.length_take, List.length_map]; show _ + 1 ≤ 100000; omega), fun p20 hp20 => ?_⟩
        have r20 : Kp [st] H19 (upd H19 p20 (.lst ((((its.map iText).take cut).map V.str) ++ (([""] : List Str).map V.str)))) := Kp.new hp20
        have k20 := k19.trans r20
        have s20 := s19.kp (Kp.new (o := .lst ((((its.map iText).take cut).map V.str) ++ (([""] : List Str).map V.str))) hp20)
        have l20 : (upd H19 p20 (.lst ((((its.map iText).take cut).map V.str) ++ (([""] : List Str).map V.str)))) p20 = some (.lst (((its.map iText).take cut ++ ([""] : List Str)).map V.str)) := by rw [upd_same, List.map_append]
        have T20 := r20.keep _ _ (by simpa using opt) T19
        generalize upd H19 p20 (.lst ((((its.map iText).take cut).map V.str) ++ (([""] : List Str).map V.str))) = H20 at r20 k20 s20 l20 T20
        walk_at "rd"
        have ha4 : ∀ p ∈ (its.map iText).take cut ++ ([""] : List Str), p.length ≤ 1000 := app_all (fun p m => hTl p (List.mem_of_mem_take m)) (mem_cons_all (Nat.zero_le _) nil_all)
        have hn4 : ((its.map iText).take cut ++ ([""] : List Str)).length ≤ 6 := by
          rw [List.length_append, List.length_take, List.length_map]
          show _ + 1 ≤ 6
          omega
        refine ⟨_, _, (its.map iText).take cut ++ ([""] : List Str), rfl, rfl, .inl (SqL.of l20), jok _ ha4 (by omega) (by decide +kernel) (by omega), ?_⟩
        have hfl : (Txt.join " " ((its.map iText).take cut ++ ([""] : List Str))).length ≤ 100000 := join_le _ ha4 (by omega)
        generalize hfr : Txt.join " " ((its.map iText).take cut ++ ([""] : List Str)) = fr at hfl ⊢
        walk_at "rd"
        refine iteB (fun h => ?_) (fun h => ?_)
        · have hc0 : 0 < cut := by
            have := of_decide_eq_true h
            omega
          have hpl : (if 0 < cut then (Txt.join " " ((its.map iText).take cut ++ ([""] : List Str))).length else 0) = fr.length := by rw [if_pos hc0, hfr]
          walk_at "rd"
          walk_at "rd"
          first | refine ⟨szl (Nat.le_of_ble_eq_true rfl), fun p21 hp21 => ?_⟩ | intro p21 hp21
          have r21 : Kp [st] H20 (upd H20 p21 (.lst [.str "x", .str ";", .str "}", .str "out", .str "7", .str "="])) := Kp.new hp21
          have k21 : Kp [st] B (upd H20 p21 (.lst [.str "x", .str ";", .str "}", .str "out", .str "7", .str "="])) := k20.trans r21
          have s21 : StAt K (upd H20 p21 (.lst [.str "x", .str ";", .str "}", .str "out", .str "7", .str "="])) st sc := s20.kp (Kp.new hp21)
          have l21 : (upd H20 p21 (.lst [.str "x", .str ";", .str "}", .str "out", .str "7", .str "="])) p21 = some (.lst ((T6 : List Str).map V.str)) := upd_same
          have o21 : p21 ≠ st := s20.old hp21
          generalize upd H20 p21 (.lst [.str "x", .str ";", .str "}", .str "out", .str "7", .str "="]) = H21 at r21 k21 s21 l21
          walk_at "rd"
          refine ⟨st, sc, 6, rfl, by decide, by decide, s21, fun t22 ht22 H22 r22 s22 => ?_⟩
          have k22 := k21.trans r22
          walk_at "rd"
          obtain ⟨tk, tk0, tkm⟩ := pick_at T6 (t := t22) ht22
          have tk1 : (T6.map V.str)[t22]? = some (.str tk) := by rw [List.getElem?_map, tk0]; rfl
          refine ⟨_, _, _, _, rfl, rfl, SqL.of (r22.keep _ _ (by simpa using o21) l21), atI_nat tk1, ?_⟩
          walk_at "rd"
          have T21 := r21.keep _ _ (by simpa using opt) T20
          have T22 := r22.keep _ _ (by simpa using opt) T21
          refine ⟨_, _, rfl, SqL.of T22, fun p23 hp23 => ?_⟩
          rw [cpre.2, ← List.map_take]
          have r23 : Kp [st] H22 (upd H22 p23 (.lst (((its.map iText).take cut).map V.str))) := Kp.new hp23
          have k23 := k22.trans r23
          have s23 := s22.kp (Kp.new (o := .lst (((its.map iText).take cut).map V.str)) hp23)
          have l23 : (upd H22 p23 (.lst (((its.map iText).take cut).map V.str))) p23 = some (.lst (((its.map iText).take cut).map V.str)) := upd_same
          have o23 : p23 ≠ st := s22.old hp23
          have T23 := r23.keep _ _ (by simpa using opt) T22
          generalize upd H22 p23 (.lst (((its.map iText).take cut).map V.str)) = H23 at r23 k23 s23 l23 T23
          walk_at "rd"
          first | refine ⟨szl (Nat.le_of_ble_eq_true rfl), fun p24 hp24 => ?_⟩ | intro p24 hp24
          have r24 : Kp [st] H23 (upd H23 p24 (.lst [.str tk])) := Kp.new hp24
          have k24 : Kp [st] B (upd H23 p24 (.lst [.str tk])) := k23.trans r24
          have s24 : StAt K (upd H23 p24 (.lst [.str tk])) st sc := s23.kp (Kp.new hp24)
          have l24 : (upd H23 p24 (.lst [.str tk])) p24 = some (.lst (([tk] : List Str).map V.str)) := upd_same
          have o24 : p24 ≠ st := s23.old hp24
          generalize upd H23 p24 (.lst [.str tk]) = H24 at r24 k24 s24 l24
          walk_at "rd"
          have T24 := r24.keep _ _ (by simpa using opt) T23
          have ll24 := r24.keep _ _ (by simpa using o23) l23
          refine ⟨_, _, _, _, rfl, rfl, ll24, l24, szl (by rw [List.length_map, List.length_map, List.length_take, List.length_map]; show _ + 1 ≤ 100000; omega), fun p25 hp25 => ?_⟩
          have r25 : Kp [st] H24 (upd H24 p25 (.lst ((((its.map iText).take cut).map V.str) ++ (([tk] : List Str).map V.str)))) := Kp.new hp25
          have k25 := k24.trans r25
          have s25 := s24.kp (Kp.new (o := .lst ((((its.map iText).take cut).map V.str) ++ (([tk] : List Str).map V.str))) hp25)
          have l25 : (upd H24 p25 (.lst ((((its.map iText).take cut).map V.str) ++ (([tk] : List Str).map V.str)))) p25 = some (.lst (((its.map iText).take cut ++ [tk]).map V.str)) := by rw [upd_same, List.map_append]
          have o25 : p25 ≠ st := s24.old hp25
          have T25 := r25.keep _ _ (by simpa using opt) T24
          generalize upd H24 p25 (.lst ((((its.map iText).take cut).map V.str) ++ (([tk] : List Str).map V.str))) = H25 at r25 k25 s25 l25 T25
          walk_at "rd"
          refine ⟨_, _, rfl, SqL.of T25, fun p26 hp26 => ?_⟩
          rw [cut_suf (xs := (its.map iText).map V.str) (i := cut) (by rw [List.length_map, List.length_map]; exact hcut), ← List.map_drop]
          have r26 : Kp [st] H25 (upd H25 p26 (.lst (((its.map iText).drop cut).map V.str))) := Kp.new hp26
          have k26 := k25.trans r26
          have s26 := s25.kp (Kp.new (o := .lst (((its.map iText).drop cut).map V.str)) hp26)
          have l26 : (upd H25 p26 (.lst (((its.map iText).drop cut).map V.str))) p26 = some (.lst (((its.map iText).drop cut).map V.str)) := upd_same
          have ll26 := r26.keep _ _ (by simpa using o25) l25
          have T26 := r26.keep _ _ (by simpa using opt) T25
          generalize upd H25 p26 (.lst (((its.map iText).drop cut).map V.str)) = H26 at r26 k26 s26 l26 ll26 T26
          walk_at "rd"
          refine ⟨_, _, _, _, rfl, rfl, ll26, l26, szl (by rw [List.length_map, List.length_map, List.length_append, List.length_take, List.length_drop, List.length_map]; show _ + 1 + _ ≤ 100000; omega), fun p27 hp27 => ?_⟩
          have r27 : Kp [st] H26 (upd H26 p27 (.lst ((((its.map iText).take cut ++ [tk]).map V.str) ++ (((its.map iText).drop cut).map V.str)))) := Kp.new hp27
          have k27 := k26.trans r27
          have s27 := s26.kp (Kp.new (o := .lst ((((its.map iText).take cut ++ [tk]).map V.str) ++ (((its.map iText).drop cut).map V.str))) hp27)
          have l27 : (upd H26 p27 (.lst ((((its.map iText).take cut ++ [tk]).map V.str) ++ (((its.map iText).drop cut).map V.str)))) p27 = some (.lst (((its.map iText).take cut ++ [tk] ++ (its.map iText).drop cut).map V.str)) := by
            rw [upd_same]
            simp only [List.map_append]
          have T27 := r27.keep _ _ (by simpa using opt) T26
          generalize upd H26 p27 (.lst ((((its.map iText).take cut ++ [tk]).map V.str) ++ (((its.map iText).drop cut).map V.str))) = H27 at r27 k27 s27 l27 T27
          walk_at "rd"
          have tk4 : tk.length ≤ 4 := short T6 (by decide +kernel) tkm
          have ha5 : ∀ p ∈ (its.map iText).take cut ++ [tk] ++ (its.map iText).drop cut, p.length ≤ 1000 := app_all (app_all (fun p m => hTl p (List.mem_of_mem_take m)) (mem_cons_all (by omega) nil_all)) (fun p m => hTl p (List.mem_of_mem_drop m))
          have hn5 : ((its.map iText).take cut ++ [tk] ++ (its.map iText).drop cut).length ≤ 6 := by
            rw [List.length_append, List.length_append, List.length_take, List.length_drop, List.length_map]
            show _ + 1 + _ ≤ 6
            omega
          refine ⟨_, _, (its.map iText).take cut ++ [tk] ++ (its.map iText).drop cut, rfl, rfl, .inl (SqL.of l27), jok _ ha5 (by omega) (by decide +kernel) (by omega), ?_⟩
          walk_at "rd"
          have hps := prs_spoilt hok hI hle tkm hcut
          have hxl : (Txt.join " " ((its.map iText).take cut ++ [tk] ++ (its.map iText).drop cut)).length ≤ 100000 := join_le _ ha5 (by omega)
          generalize Txt.join " " ((its.map iText).take cut ++ [tk] ++ (its.map iText).drop cut) = spo at hps hxl ⊢
          rw [hpl] at hps
          refine ⟨spo, "parse", 5000, (.error (.mal fr.length)), rfl, .inl rfl, hxl, by decide, hps, ?_⟩
          refine ⟨trivial, ?_⟩
          intro u28 H28 rr28 d28
          have r28 : Kp [st] H27 H28 := rr28.nil
          have k28 := k27.trans r28
          have s28 := s27.kp rr28
          walk_at "rd"
          first | refine ⟨szl (Nat.le_of_ble_eq_true rfl), fun p29 hp29 => ?_⟩ | intro p29 hp29
          have r29 : Kp [st] H28 (upd H28 p29 (.tup [.str "malformed", .int (fr.length : Nat)])) := Kp.new hp29
          have k29 : Kp [st] B (upd H28 p29 (.tup [.str "malformed", .int (fr.length : Nat)])) := k28.trans r29
          have s29 : StAt K (upd H28 p29 (.tup [.str "malformed", .int (fr.length : Nat)])) st sc := s28.kp (Kp.new hp29)
          have l29 : (upd H28 p29 (.tup [.str "malformed", .int (fr.length : Nat)])) p29 = some (.tup [.str "malformed", .int (fr.length : Nat)]) := upd_same
          have o29 : p29 ≠ st := s28.old hp29
          generalize upd H28 p29 (.tup [.str "malformed", .int (fr.length : Nat)]) = H29 at r29 k29 s29 l29
          walk_at "rd"
          have dm29 := Dp.kp r29 _ _ (show noL (encE (.mal fr.length)) = true from rfl) d28
          have se29 : Sok 1 (encE (.mal fr.length)) := .tup (mem2 (sok_c _ (by decide +kernel)) .int)
          refine ⟨_, _, dm29, .tup (ds := [.str "malformed", .int (fr.length : Nat)]) (SqT.of l29) (by walk_at "dp"), se29.shaped (by decide), se29.shaped (by decide), _, rfl, ?_⟩
          rw [show PyData.eqv (encE (.mal fr.length)) (.tuple [.str "malformed", .int (fr.length : Nat)]) = true from se29.refl]
          walk_at "rd"
          have T28 := r28.keep _ _ (by simpa using opt) T27
          have T29 := r29.keep _ _ (by simpa using opt) T28
          refine ⟨spo, "program", 5000, (.error (.mal fr.length)), rfl, .inr rfl, hxl, by decide, hps, ?_⟩
          refine ⟨trivial, ?_⟩
          intro u30 H30 rr30 d30
          have r30 : Kp [st] H29 H30 := rr30.nil
          have k30 := k29.trans r30
          have s30 := s29.kp rr30
          walk_at "rd"
          first | refine ⟨szl (Nat.le_of_ble_eq_true rfl), fun p31 hp31 => ?_⟩ | intro p31 hp31
          have r31 : Kp [st] H30 (upd H30 p31 (.tup [.str "malformed", .int (fr.length : Nat)])) := Kp.new hp31
          have k31 : Kp [st] B (upd H30 p31 (.tup [.str "malformed", .int (fr.length : Nat)])) := k30.trans r31
          have s31 : StAt K (upd H30 p31 (.tup [.str "malformed", .int (fr.length : Nat)])) st sc := s30.kp (Kp.new hp31)
          have l31 : (upd H30 p31 (.tup [.str "malformed", .int (fr.length : Nat)])) p31 = some (.tup [.str "malformed", .int (fr.length : Nat)]) := upd_same
          have o31 : p31 ≠ st := s30.old hp31
          generalize upd H30 p31 (.tup [.str "malformed", .int (fr.length : Nat)]) = H31 at r31 k31 s31 l31
          walk_at "rd"
          have dm31 := Dp.kp r31 _ _ (show noL (encE (.mal fr.length)) = true from rfl) d30
          have se31 : Sok 1 (encE (.mal fr.length)) := .tup (mem2 (sok_c _ (by decide +kernel)) .int)
          refine ⟨_, _, dm31, .tup (ds := [.str "malformed", .int (fr.length : Nat)]) (SqT.of l31) (by walk_at "dp"), se31.shaped (by decide), se31.shaped (by decide), _, rfl, ?_⟩
          rw [show PyData.eqv (encE (.mal fr.length)) (.tuple [.str "malformed", .int (fr.length : Nat)]) = true from se31.refl]
          walk_at "rd"
          have T30 := r30.keep _ _ (by simpa using opt) T29
          have T31 := r31.keep _ _ (by simpa using opt) T30
          first | refine ⟨szl (Nat.le_of_ble_eq_true rfl), fun p32 hp32 => ?_⟩ | intro p32 hp32
          have r32 : Kp [st] H31 (upd H31 p32 (.lst [.str "global", .str "fn", .str "fn f", .str "fn f ( ) {", .str "global h"])) := Kp.new hp32
          have k32 : Kp [st] B (upd H31 p32 (.lst [.str "global", .str "fn", .str "fn f", .str "fn f ( ) {", .str "global h"])) := k31.trans r32
          have s32 : StAt K (upd H31 p32 (.lst [.str "global", .str "fn", .str "fn f", .str "fn f ( ) {", .str "global h"])) st sc := s31.kp (Kp.new hp32)
          have l32 : (upd H31 p32 (.lst [.str "global", .str "fn", .str "fn f", .str "fn f ( ) {", .str "global h"])) p32 = some (.lst ((T5 : List Str).map V.str)) := upd_same
          have o32 : p32 ≠ st := s31.old hp32
          generalize upd H31 p32 (.lst [.str "global", .str "fn", .str "fn f", .str "fn f ( ) {", .str "global h"]) = H32 at r32 k32 s32 l32
          walk_at "rd"
          refine ⟨st, sc, 5, rfl, by decide, by decide, s32, fun t33 ht33 H33 r33 s33 => ?_⟩
          have k33 := k32.trans r33
          walk_at "rd"
          obtain ⟨te, te0, tem⟩ := pick_at T5 (t := t33) ht33
          have te1 : (T5.map V.str)[t33]? = some (.str te) := by rw [List.getElem?_map, te0]; rfl
          refine ⟨_, _, _, _, rfl, rfl, SqL.of (r33.keep _ _ (by simpa using o32) l32), atI_nat te1, ?_⟩
          walk_at "rd"
          have T32 := r32.keep _ _ (by simpa using opt) T31
          have T33 := r33.keep _ _ (by simpa using opt) T32
          first | refine ⟨szl (Nat.le_of_ble_eq_true rfl), fun p34 hp34 => ?_⟩ | intro p34 hp34
          have r34 : Kp [st] H33 (upd H33 p34 (.lst [.str te])) := Kp.new hp34
          have k34 : Kp [st] B (upd H33 p34 (.lst [.str te])) := k33.trans r34
          have s34 : StAt K (upd H33 p34 (.lst [.str te])) st sc := s33.kp (Kp.new hp34)
          have l34 : (upd H33 p34 (.lst [.str te])) p34 = some (.lst (([te] : List Str).map V.str)) := upd_same
          have o34 : p34 ≠ st := s33.old hp34
          generalize upd H33 p34 (.lst [.str te]) = H34 at r34 k34 s34 l34
          walk_at "rd"
          have T34 := r34.keep _ _ (by simpa using opt) T33
          refine ⟨_, _, _, _, rfl, rfl, T34, l34, szl (by rw [List.length_map, List.length_map, List.length_map]; show _ + 1 ≤ 100000; omega), fun p35 hp35 => ?_⟩
          have r35 : Kp [st] H34 (upd H34 p35 (.lst (((its.map iText).map V.str) ++ (([te] : List Str).map V.str)))) := Kp.new hp35
          have k35 := k34.trans r35
          have s35 := s34.kp (Kp.new (o := .lst (((its.map iText).map V.str) ++ (([te] : List Str).map V.str))) hp35)
          have l35 : (upd H34 p35 (.lst (((its.map iText).map V.str) ++ (([te] : List Str).map V.str)))) p35 = some (.lst (((its.map iText) ++ [te]).map V.str)) := by rw [upd_same, List.map_append]
          generalize upd H34 p35 (.lst (((its.map iText).map V.str) ++ (([te] : List Str).map V.str))) = H35 at r35 k35 s35 l35
          walk_at "rd"
          have te20 : te.length ≤ 20 := of_decide_eq_true (List.all_eq_true.mp (show T5.all (fun x => decide (x.length ≤ 20)) = true by decide +kernel) te tem)
          have ha6 : ∀ p ∈ (its.map iText) ++ [te], p.length ≤ 1000 := app_all hTl (mem_cons_all (by omega) nil_all)
          have hn6 : ((its.map iText) ++ [te]).length ≤ 6 := by
            rw [List.length_append, List.length_map]
            show _ + 1 ≤ 6
            omega
          refine ⟨_, _, (its.map iText) ++ [te], rfl, rfl, .inl (SqL.of l35), jok _ ha6 (by omega) (by decide +kernel) (by omega), ?_⟩
          walk_at "rd"
          have hps2 := prs_short hok hI hle tem
          have hxl2 : (Txt.join " " ((its.map iText) ++ [te])).length ≤ 100000 := join_le _ ha6 (by omega)
          generalize Txt.join " " ((its.map iText) ++ [te]) = sho at hps2 hxl2 ⊢
          refine ⟨sho, "parse", 5000, (.error (.mal sho.length)), rfl, .inl rfl, hxl2, by decide, hps2, ?_⟩
          refine ⟨trivial, ?_⟩
          intro u36 H36 rr36 d36
          have r36 : Kp [st] H35 H36 := rr36.nil
          have k36 := k35.trans r36
          have s36 := s35.kp rr36
          walk_at "rd"
          first | refine ⟨szl (Nat.le_of_ble_eq_true rfl), fun p37 hp37 => ?_⟩ | intro p37 hp37
          have r37 : Kp [st] H36 (upd H36 p37 (.tup [.str "malformed", .int (sho.length : Nat)])) := Kp.new hp37
          have k37 : Kp [st] B (upd H36 p37 (.tup [.str "malformed", .int (sho.length : Nat)])) := k36.trans r37
          have s37 : StAt K (upd H36 p37 (.tup [.str "malformed", .int (sho.length : Nat)])) st sc := s36.kp (Kp.new hp37)
          have l37 : (upd H36 p37 (.tup [.str "malformed", .int (sho.length : Nat)])) p37 = some (.tup [.str "malformed", .int (sho.length : Nat)]) := upd_same
          have o37 : p37 ≠ st := s36.old hp37
          generalize upd H36 p37 (.tup [.str "malformed", .int (sho.length : Nat)]) = H37 at r37 k37 s37 l37
          walk_at "rd"
          have dm37 := Dp.kp r37 _ _ (show noL (encE (.mal sho.length)) = true from rfl) d36
          have se37 : Sok 1 (encE (.mal sho.length)) := .tup (mem2 (sok_c _ (by decide +kernel)) .int)
          refine ⟨_, _, dm37, .tup (ds := [.str "malformed", .int (sho.length : Nat)]) (SqT.of l37) (by walk_at "dp"), se37.shaped (by decide), se37.shaped (by decide), ?_⟩
          rw [show PyData.eqv (encE (.mal sho.length)) (.tuple [.str "malformed", .int (sho.length : Nat)]) = true from se37.refl]
          walk_at "rd"
          refine ⟨sho, "program", 5000, (.error (.mal sho.length)), rfl, .inr rfl, hxl2, by decide, hps2, ?_⟩
          refine ⟨trivial, ?_⟩
          intro u38 H38 rr38 d38
          have r38 : Kp [st] H37 H38 := rr38.nil
          have k38 := k37.trans r38
          have s38 := s37.kp rr38
          walk_at "rd"
          first | refine ⟨szl (Nat.le_of_ble_eq_true rfl), fun p39 hp39 => ?_⟩ | intro p39 hp39
          have r39 : Kp [st] H38 (upd H38 p39 (.tup [.str "malformed", .int (sho.length : Nat)])) := Kp.new hp39
          have k39 : Kp [st] B (upd H38 p39 (.tup [.str "malformed", .int (sho.length : Nat)])) := k38.trans r39
          have s39 : StAt K (upd H38 p39 (.tup [.str "malformed", .int (sho.length : Nat)])) st sc := s38.kp (Kp.new hp39)
          have l39 : (upd H38 p39 (.tup [.str "malformed", .int (sho.length : Nat)])) p39 = some (.tup [.str "malformed", .int (sho.length : Nat)]) := upd_same
          have o39 : p39 ≠ st := s38.old hp39
          generalize upd H38 p39 (.tup [.str "malformed", .int (sho.length : Nat)]) = H39 at r39 k39 s39 l39
          walk_at "rd"
          have dm39 := Dp.kp r39 _ _ (show noL (encE (.mal sho.length)) = true from rfl) d38
          have se39 : Sok 1 (encE (.mal sho.length)) := .tup (mem2 (sok_c _ (by decide +kernel)) .int)
          refine ⟨_, _, dm39, .tup (ds := [.str "malformed", .int (sho.length : Nat)]) (SqT.of l39) (by walk_at "dp"), se39.shaped (by decide), se39.shaped (by decide), ?_⟩
          rw [show PyData.eqv (encE (.mal sho.length)) (.tuple [.str "malformed", .int (sho.length : Nat)]) = true from se39.refl]
          exact k _
        · have hc0 : ¬ 0 < cut := by
            have := of_decide_eq_false h
            omega
          have hpl : (if 0 < cut then (Txt.join " " ((its.map iText).take cut ++ ([""] : List Str))).length else 0) = 0 := if_neg hc0
          walk_at "rd"
          first | refine ⟨szl (Nat.le_of_ble_eq_true rfl), fun p21 hp21 => ?_⟩ | intro p21 hp21
          have r21 : Kp [st] H20 (upd H20 p21 (.lst [.str "x", .str ";", .str "}", .str "out", .str "7", .str "="])) := Kp.new hp21
          have k21 : Kp [st] B (upd H20 p21 (.lst [.str "x", .str ";", .str "}", .str "out", .str "7", .str "="])) := k20.trans r21
          have s21 : StAt K (upd H20 p21 (.lst [.str "x", .str ";", .str "}", .str "out", .str "7", .str "="])) st sc := s20.kp (Kp.new hp21)
          have l21 : (upd H20 p21 (.lst [.str "x", .str ";", .str "}", .str "out", .str "7", .str "="])) p21 = some (.lst ((T6 : List Str).map V.str)) := upd_same
          have o21 : p21 ≠ st := s20.old hp21
          generalize upd H20 p21 (.lst [.str "x", .str ";", .str "}", .str "out", .str "7", .str "="]) = H21 at r21 k21 s21 l21
          walk_at "rd"
          refine ⟨st, sc, 6, rfl, by decide, by decide, s21, fun t22 ht22 H22 r22 s22 => ?_⟩
          have k22 := k21.trans r22
          walk_at "rd"
          obtain ⟨tk, tk0, tkm⟩ := pick_at T6 (t := t22) ht22
          have tk1 : (T6.map V.str)[t22]? = some (.str tk) := by rw [List.getElem?_map, tk0]; rfl
          refine ⟨_, _, _, _, rfl, rfl, SqL.of (r22.keep _ _ (by simpa using o21) l21), atI_nat tk1, ?_⟩
          walk_at "rd"
          have T21 := r21.keep _ _ (by simpa using opt) T20
          have T22 := r22.keep _ _ (by simpa using opt) T21
          refine ⟨_, _, rfl, SqL.of T22, fun p23 hp23 => ?_⟩
          rw [cpre.2, ← List.map_take]
          have r23 : Kp [st] H22 (upd H22 p23 (.lst (((its.map iText).take cut).map V.str))) := Kp.new hp23
          have k23 := k22.trans r23
          have s23 := s22.kp (Kp.new (o := .lst (((its.map iText).take cut).map V.str)) hp23)
          have l23 : (upd H22 p23 (.lst (((its.map iText).take cut).map V.str))) p23 = some (.lst (((its.map iText).take cut).map V.str)) := upd_same
          have o23 : p23 ≠ st := s22.old hp23
          have T23 := r23.keep _ _ (by simpa using opt) T22
          generalize upd H22 p23 (.lst (((its.map iText).take cut).map V.str)) = H23 at r23 k23 s23 l23 T23
          walk_at "rd"
          first | refine ⟨szl (Nat.le_of_ble_eq_true rfl), fun p24 hp24 => ?_⟩ | intro p24 hp24
          have r24 : Kp [st] H23 (upd H23 p24 (.lst [.str tk])) := Kp.new hp24
          have k24 : Kp [st] B (upd H23 p24 (.lst [.str tk])) := k23.trans r24
          have s24 : StAt K (upd H23 p24 (.lst [.str tk])) st sc := s23.kp (Kp.new hp24)
          have l24 : (upd H23 p24 (.lst [.str tk])) p24 = some (.lst (([tk] : List Str).map V.str)) := upd_same
          have o24 : p24 ≠ st := s23.old hp24
          generalize upd H23 p24 (.lst [.str tk]) = H24 at r24 k24 s24 l24
          walk_at "rd"
          have T24 := r24.keep _ _ (by simpa using opt) T23
          have ll24 := r24.keep _ _ (by simpa using o23) l23
          refine ⟨_, _, _, _, rfl, rfl, ll24, l24, szl (by rw [List.length_map, List.length_map, List.length_take, List.length_map]; show _ + 1 ≤ 100000; omega), fun p25 hp25 => ?_⟩
          have r25 : Kp [st] H24 (upd H24 p25 (.lst ((((its.map iText).take cut).map V.str) ++ (([tk] : List Str).map V.str)))) := Kp.new hp25
          have k25 := k24.trans r25
          have s25 := s24.kp (Kp.new (o := .lst ((((its.map iText).take cut).map V.str) ++ (([tk] : List Str).map V.str))) hp25)
          have l25 : (upd H24 p25 (.lst ((((its.map iText).take cut).map V.str) ++ (([tk] : List Str).map V.str)))) p25 = some (.lst (((its.map iText).take cut ++ [tk]).map V.str)) := by rw [upd_same, List.map_append]
          have o25 : p25 ≠ st := s24.old hp25
          have T25 := r25.keep _ _ (by simpa using opt) T24
          generalize upd H24 p25 (.lst ((((its.map iText).take cut).map V.str) ++ (([tk] : List Str).map V.str))) = H25 at r25 k25 s25 l25 T25
          walk_at "rd"
          refine ⟨_, _, rfl, SqL.of T25, fun p26 hp26 => ?_⟩
          rw [cut_suf (xs := (its.map iText).map V.str) (i := cut) (by rw [List.length_map, List.length_map]; exact hcut), ← List.map_drop]
          have r26 : Kp [st] H25 (upd H25 p26 (.lst (((its.map iText).drop cut).map V.str))) := Kp.new hp26
          have k26 := k25.trans r26
          have s26 := s25.kp (Kp.new (o := .lst (((its.map iText).drop cut).map V.str)) hp26)
          have l26 : (upd H25 p26 (.lst (((its.map iText).drop cut).map V.str))) p26 = some (.lst (((its.map iText).drop cut).map V.str)) := upd_same
          have ll26 := r26.keep _ _ (by simpa using o25) l25
          have T26 := r26.keep _ _ (by simpa using opt) T25
          generalize upd H25 p26 (.lst (((its.map iText).drop cut).map V.str)) = H26 at r26 k26 s26 l26 ll26 T26
          walk_at "rd"
          refine ⟨_, _, _, _, rfl, rfl, ll26, l26, szl (by rw [List.length_map, List.length_map, List.length_append, List.length_take, List.length_drop, List.length_map]; show _ + 1 + _ ≤ 100000; omega), fun p27 hp27 => ?_⟩
          have r27 : Kp [st] H26 (upd H26 p27 (.lst ((((its.map iText).take cut ++ [tk]).map V.str) ++ (((its.map iText).drop cut).map V.str)))) := Kp.new hp27
          have k27 := k26.trans r27
          have s27 := s26.kp (Kp.new (o := .lst ((((its.map iText).take cut ++ [tk]).map V.str) ++ (((its.map iText).drop cut).map V.str))) hp27)
          have l27 : (upd H26 p27 (.lst ((((its.map iText).take cut ++ [tk]).map V.str) ++ (((its.map iText).drop cut).map V.str)))) p27 = some (.lst (((its.map iText).take cut ++ [tk] ++ (its.map iText).drop cut).map V.str)) := by
            rw [upd_same]
            simp only [List.map_append]
          have T27 := r27.keep _ _ (by simpa using opt) T26
          generalize upd H26 p27 (.lst ((((its.map iText).take cut ++ [tk]).map V.str) ++ (((its.map iText).drop cut).map V.str))) = H27 at r27 k27 s27 l27 T27
          walk_at "rd"
          have tk4 : tk.length ≤ 4 := short T6 (by decide +kernel) tkm
          have ha5 : ∀ p ∈ (its.map iText).take cut ++ [tk] ++ (its.map iText).drop cut, p.length ≤ 1000 := app_all (app_all (fun p m => hTl p (List.mem_of_mem_take m)) (mem_cons_all (by omega) nil_all)) (fun p m => hTl p (List.mem_of_mem_drop m))
          have hn5 : ((its.map iText).take cut ++ [tk] ++ (its.map iText).drop cut).length ≤ 6 := by
            rw [List.length_append, List.length_append, List.length_take, List.length_drop, List.length_map]
            show _ + 1 + _ ≤ 6
            omega
          refine ⟨_, _, (its.map iText).take cut ++ [tk] ++ (its.map iText).drop cut, rfl, rfl, .inl (SqL.of l27), jok _ ha5 (by omega) (by decide +kernel) (by omega), ?_⟩
          walk_at "rd"
          have hps := prs_spoilt hok hI hle tkm hcut
          have hxl : (Txt.join " " ((its.map iText).take cut ++ [tk] ++ (its.map iText).drop cut)).length ≤ 100000 := join_le _ ha5 (by omega)
          generalize Txt.join " " ((its.map iText).take cut ++ [tk] ++ (its.map iText).drop cut) = spo at hps hxl ⊢
          rw [hpl] at hps
          refine ⟨spo, "parse", 5000, (.error (.mal 0)), rfl, .inl rfl, hxl, by decide, hps, ?_⟩
          refine ⟨trivial, ?_⟩
          intro u28 H28 rr28 d28
          have r28 : Kp [st] H27 H28 := rr28.nil
          have k28 := k27.trans r28
          have s28 := s27.kp rr28
          walk_at "rd"
          first | refine ⟨szl (Nat.le_of_ble_eq_true rfl), fun p29 hp29 => ?_⟩ | intro p29 hp29
          have r29 : Kp [st] H28 (upd H28 p29 (.tup [.str "malformed", .int (0 : Nat)])) := Kp.new hp29
          have k29 : Kp [st] B (upd H28 p29 (.tup [.str "malformed", .int (0 : Nat)])) := k28.trans r29
          have s29 : StAt K (upd H28 p29 (.tup [.str "malformed", .int (0 : Nat)])) st sc := s28.kp (Kp.new hp29)
          have l29 : (upd H28 p29 (.tup [.str "malformed", .int (0 : Nat)])) p29 = some (.tup [.str "malformed", .int (0 : Nat)]) := upd_same
          have o29 : p29 ≠ st := s28.old hp29
          generalize upd H28 p29 (.tup [.str "malformed", .int (0 : Nat)]) = H29 at r29 k29 s29 l29
          walk_at "rd"
          have dm29 := Dp.kp r29 _ _ (show noL (encE (.mal 0)) = true from rfl) d28
          have se29 : Sok 1 (encE (.mal 0)) := .tup (mem2 (sok_c _ (by decide +kernel)) .int)
          refine ⟨_, _, dm29, .tup (ds := [.str "malformed", .int (0 : Nat)]) (SqT.of l29) (by walk_at "dp"), se29.shaped (by decide), se29.shaped (by decide), _, rfl, ?_⟩
          rw [show PyData.eqv (encE (.mal 0)) (.tuple [.str "malformed", .int (0 : Nat)]) = true from se29.refl]
          walk_at "rd"
          have T28 := r28.keep _ _ (by simpa using opt) T27
          have T29 := r29.keep _ _ (by simpa using opt) T28
          refine ⟨spo, "program", 5000, (.error (.mal 0)), rfl, .inr rfl, hxl, by decide, hps, ?_⟩
          refine ⟨trivial, ?_⟩
          intro u30 H30 rr30 d30
          have r30 : Kp [st] H29 H30 := rr30.nil
          have k30 := k29.trans r30
          have s30 := s29.kp rr30
          walk_at "rd"
          first | refine ⟨szl (Nat.le_of_ble_eq_true rfl), fun p31 hp31 => ?_⟩ | intro p31 hp31
          have r31 : Kp [st] H30 (upd H30 p31 (.tup [.str "malformed", .int (0 : Nat)])) := Kp.new hp31
          have k31 : Kp [st] B (upd H30 p31 (.tup [.str "malformed", .int (0 : Nat)])) := k30.trans r31
          have s31 : StAt K (upd H30 p31 (.tup [.str "malformed", .int (0 : Nat)])) st sc := s30.kp (Kp.new hp31)
          have l31 : (upd H30 p31 (.tup [.str "malformed", .int (0 : Nat)])) p31 = some (.tup [.str "malformed", .int (0 : Nat)]) := upd_same
          have o31 : p31 ≠ st := s30.old hp31
          generalize upd H30 p31 (.tup [.str "malformed", .int (0 : Nat)]) = H31 at r31 k31 s31 l31
          walk_at "rd"
          have dm31 := Dp.kp r31 _ _ (show noL (encE (.mal 0)) = true from rfl) d30
          have se31 : Sok 1 (encE (.mal 0)) := .tup (mem2 (sok_c _ (by decide +kernel)) .int)
          refine ⟨_, _, dm31, .tup (ds := [.str "malformed", .int (0 : Nat)]) (SqT.of l31) (by walk_at "dp"), se31.shaped (by decide), se31.shaped (by decide), _, rfl, ?_⟩
          rw [show PyData.eqv (encE (.mal 0)) (.tuple [.str "malformed", .int (0 : Nat)]) = true from se31.refl]
          walk_at "rd"
          have T30 := r30.keep _ _ (by simpa using opt) T29
          have T31 := r31.keep _ _ (by simpa using opt) T30
          first | refine ⟨szl (Nat.le_of_ble_eq_true rfl), fun p32 hp32 => ?_⟩ | intro p32 hp32
          have r32 : Kp [st] H31 (upd H31 p32 (.lst [.str "global", .str "fn", .str "fn f", .str "fn f ( ) {", .str "global h"])) := Kp.new hp32
          have k32 : Kp [st] B (upd H31 p32 (.lst [.str "global", .str "fn", .str "fn f", .str "fn f ( ) {", .str "global h"])) := k31.trans r32
          have s32 : StAt K (upd H31 p32 (.lst [.str "global", .str "fn", .str "fn f", .str "fn f ( ) {", .str "global h"])) st sc := s31.kp (Kp.new hp32)
          have l32 : (upd H31 p32 (.lst [.str "global", .str "fn", .str "fn f", .str "fn f ( ) {", .str "global h"])) p32 = some (.lst ((T5 : List Str).map V.str)) := upd_same
          have o32 : p32 ≠ st := s31.old hp32
          generalize upd H31 p32 (.lst [.str "global", .str "fn", .str "fn f", .str "fn f ( ) {", .str "global h"]) = H32 at r32 k32 s32 l32
          walk_at "rd"
          refine ⟨st, sc, 5, rfl, by decide, by decide, s32, fun t33 ht33 H33 r33 s33 => ?_⟩
          have k33 := k32.trans r33
          walk_at "rd"
          obtain ⟨te, te0, tem⟩ := pick_at T5 (t := t33) ht33
          have te1 : (T5.map V.str)[t33]? = some (.str te) := by rw [List.getElem?_map, te0]; rfl
          refine ⟨_, _, _, _, rfl, rfl, SqL.of (r33.keep _ _ (by simpa using o32) l32), atI_nat te1, ?_⟩
          walk_at "rd"
          have T32 := r32.keep _ _ (by simpa using opt) T31
          have T33 := r33.keep _ _ (by simpa using opt) T32
          first | refine ⟨szl (Nat.le_of_ble_eq_true rfl), fun p34 hp34 => ?_⟩ | intro p34 hp34
          have r34 : Kp [st] H33 (upd H33 p34 (.lst [.str te])) := Kp.new hp34
          have k34 : Kp [st] B (upd H33 p34 (.lst [.str te])) := k33.trans r34
          have s34 : StAt K (upd H33 p34 (.lst [.str te])) st sc := s33.kp (Kp.new hp34)
          have l34 : (upd H33 p34 (.lst [.str te])) p34 = some (.lst (([te] : List Str).map V.str)) := upd_same
          have o34 : p34 ≠ st := s33.old hp34
          generalize upd H33 p34 (.lst [.str te]) = H34 at r34 k34 s34 l34
          walk_at "rd"
          have T34 := r34.keep _ _ (by simpa using opt) T33
          refine ⟨_, _, _, _, rfl, rfl, T34, l34, szl (by rw [List.length_map, List.length_map, List.length_map]; show _ + 1 ≤ 100000; omega), fun p35 hp35 => ?_⟩
          have r35 : Kp [st] H34 (upd H34 p35 (.lst (((its.map iText).map V.str) ++ (([te] : List Str).map V.str)))) := Kp.new hp35
          have k35 := k34.trans r35
          have s35 := s34.kp (Kp.new (o := .lst (((its.map iText).map V.str) ++ (([te] : List Str).map V.str))) hp35)
          have l35 : (upd H34 p35 (.lst (((its.map iText).map V.str) ++ (([te] : List Str).map V.str)))) p35 = some (.lst (((its.map iText) ++ [te]).map V.str)) := by rw [upd_same, List.map_append]
          generalize upd H34 p35 (.lst (((its.map iText).map V.str) ++ (([te] : List Str).map V.str))) = H35 at r35 k35 s35 l35
          walk_at "rd"
          have te20 : te.length ≤ 20 := of_decide_eq_true (List.all_eq_true.mp (show T5.all (fun x => decide (x.length ≤ 20)) = true by decide +kernel) te tem)
          have ha6 : ∀ p ∈ (its.map iText) ++ [te], p.length ≤ 1000 := app_all hTl (mem_cons_all (by omega) nil_all)
          have hn6 : ((its.map iText) ++ [te]).length ≤ 6 := by
            rw [List.length_append, List.length_map]
            show _ + 1 ≤ 6
            omega
          refine ⟨_, _, (its.map iText) ++ [te], rfl, rfl, .inl (SqL.of l35), jok _ ha6 (by omega) (by decide +kernel) (by omega), ?_⟩
          walk_at "rd"
          have hps2 := prs_short hok hI hle tem
          have hxl2 : (Txt.join " " ((its.map iText) ++ [te])).length ≤ 100000 := join_le _ ha6 (by omega)
          generalize Txt.join " " ((its.map iText) ++ [te]) = sho at hps2 hxl2 ⊢
          refine ⟨sho, "parse", 5000, (.error (.mal sho.length)), rfl, .inl rfl, hxl2, by decide, hps2, ?_⟩
          refine ⟨trivial, ?_⟩
          intro u36 H36 rr36 d36
          have r36 : Kp [st] H35 H36 := rr36.nil
          have k36 := k35.trans r36
          have s36 := s35.kp rr36
          walk_at "rd"
          first | refine ⟨szl (Nat.le_of_ble_eq_true rfl), fun p37 hp37 => ?_⟩ | intro p37 hp37
          have r37 : Kp [st] H36 (upd H36 p37 (.tup [.str "malformed", .int (sho.length : Nat)])) := Kp.new hp37
          have k37 : Kp [st] B (upd H36 p37 (.tup [.str "malformed", .int (sho.length : Nat)])) := k36.trans r37
          have s37 : StAt K (upd H36 p37 (.tup [.str "malformed", .int (sho.length : Nat)])) st sc := s36.kp (Kp.new hp37)
          have l37 : (upd H36 p37 (.tup [.str "malformed", .int (sho.length : Nat)])) p37 = some (.tup [.str "malformed", .int (sho.length : Nat)]) := upd_same
          have o37 : p37 ≠ st := s36.old hp37
          generalize upd H36 p37 (.tup [.str "malformed", .int (sho.length : Nat)]) = H37 at r37 k37 s37 l37
          walk_at "rd"
          have dm37 := Dp.kp r37 _ _ (show noL (encE (.mal sho.length)) = true from rfl) d36
          have se37 : Sok 1 (encE (.mal sho.length)) := .tup (mem2 (sok_c _ (by decide +kernel)) .int)
          refine ⟨_, _, dm37, .tup (ds := [.str "malformed", .int (sho.length : Nat)]) (SqT.of l37) (by walk_at "dp"), se37.shaped (by decide), se37.shaped (by decide), ?_⟩
          rw [show PyData.eqv (encE (.mal sho.length)) (.tuple [.str "malformed", .int (sho.length : Nat)]) = true from se37.refl]
          walk_at "rd"
          refine ⟨sho, "program", 5000, (.error (.mal sho.length)), rfl, .inr rfl, hxl2, by decide, hps2, ?_⟩
          refine ⟨trivial, ?_⟩
          intro u38 H38 rr38 d38
          have r38 : Kp [st] H37 H38 := rr38.nil
          have k38 := k37.trans r38
          have s38 := s37.kp rr38
          walk_at "rd"
          first | refine ⟨szl (Nat.le_of_ble_eq_true rfl), fun p39 hp39 => ?_⟩ | intro p39 hp39
          have r39 : Kp [st] H38 (upd H38 p39 (.tup [.str "malformed", .int (sho.length : Nat)])) := Kp.new hp39
          have k39 : Kp [st] B (upd H38 p39 (.tup [.str "malformed", .int (sho.length : Nat)])) := k38.trans r39
          have s39 : StAt K (upd H38 p39 (.tup [.str "malformed", .int (sho.length : Nat)])) st sc := s38.kp (Kp.new hp39)
          have l39 : (upd H38 p39 (.tup [.str "malformed", .int (sho.length : Nat)])) p39 = some (.tup [.str "malformed", .int (sho.length : Nat)]) := upd_same
          have o39 : p39 ≠ st := s38.old hp39
          generalize upd H38 p39 (.tup [.str "malformed", .int (sho.length : Nat)]) = H39 at r39 k39 s39 l39
          walk_at "rd"
          have dm39 := Dp.kp r39 _ _ (show noL (encE (.mal sho.length)) = true from rfl) d38
          have se39 : Sok 1 (encE (.mal sho.length)) := .tup (mem2 (sok_c _ (by decide +kernel)) .int)
          refine ⟨_, _, dm39, .tup (ds := [.str "malformed", .int (sho.length : Nat)]) (SqT.of l39) (by walk_at "dp"), se39.shaped (by decide), se39.shaped (by decide), ?_⟩
          rw [show PyData.eqv (encE (.mal sho.length)) (.tuple [.str "malformed", .int (sho.length : Nat)]) = true from se39.refl]
          exact k _
end
end K7


set_option Elab.async false
set_option linter.all false
set_option maxRecDepth 100000
set_option maxHeartbeats 0
/-! the head: the top's run in the kernel, what it leaves -/
namespace K7
open PySem PySem.Spec PyProof.Rows L2 He Hz
abbrev R : PySem.W.OpenRow := PySem.W.OpenLaw.row PySem.Challenge.rw_outlives_k07_programs_of_texts
abbrev hk : PySem.W.Hook := hookZ 5 "/claim/cut.py" fa fn xs ex
def ob (s : PySem.W.SharedT) : AlZ := obsZG 5 "/claim/cut.py" fa fn xs ex (HandSHeadRun.getT s)
theorem ob_eq (s : PySem.W.SharedT) : ob s = hk.obs s.abs := obsZG_eq (HandSHeadRun.getT_eq s)
theorem run (w : World) : HandSHeadRun.RunEq R (PySem.W.view R.prog [lawAt]) hk ob 6000 names w := by
  intro os
  kernel_rfl
end K7


set_option Elab.async false
set_option linter.all false
set_option maxRecDepth 100000
set_option maxHeartbeats 0
/-! the end -/
namespace K7
open PySem PySem.Spec PyProof.Rows L2 He Hz
theorem sxn_at : PySem.SXE.SxN "at" := ⟨rfl, rfl, rfl, rfl, rfl, by decide +kernel, by decide +kernel, fun _ _ _ _ _ _ _ _ _ _ _ _ _ _ => rfl⟩
theorem sxn_name : PySem.SXE.SxN "name" := ⟨rfl, rfl, rfl, rfl, rfl, by decide +kernel, by decide +kernel, fun _ _ _ _ _ _ _ _ _ _ _ _ _ _ => rfl⟩
theorem sxn_limit : PySem.SXE.SxN "limit" := ⟨rfl, rfl, rfl, rfl, rfl, by decide +kernel, by decide +kernel, fun _ _ _ _ _ _ _ _ _ _ _ _ _ _ => rfl⟩
theorem sxn_why : PySem.SXE.SxN "why" := ⟨rfl, rfl, rfl, rfl, rfl, by decide +kernel, by decide +kernel, fun _ _ _ _ _ _ _ _ _ _ _ _ _ _ => rfl⟩
abbrev PP : Program := PySem.Challenge.rw_outlives_k07_programs_of_texts.prog
theorem top_super : (PP.main.scope.names.lookup ("super" : Str)).isSome = false := by kernel_rfl
theorem xs_ok : ∀ d, d ∈ xs → XcOk PP d := by
  unfold xs
  refine Pa.mem_cons_all ⟨sxn_at, fun env => ⟨_, rfl⟩, top_super⟩ (Pa.mem_cons_all ⟨sxn_name, fun env => ⟨_, rfl⟩, top_super⟩ (Pa.mem_cons_all ⟨sxn_name, fun env => ⟨_, rfl⟩, top_super⟩ (Pa.mem_cons_all ⟨sxn_limit, fun env => ⟨_, rfl⟩, top_super⟩ (Pa.mem_cons_all ⟨sxn_why, fun env => ⟨_, rfl⟩, top_super⟩ Pa.nil_all))))
theorem facts {w : World} {K : PySem.W.Frag} {h : Heap} {mg : Str → Option Value} {f : Addr} (X : K.In h) (G : h.Ns mainGlobals mg) (hfa : mg ("law" : Str) = some (.ref f)) (c : SaysZ PP.main.file fa fn xs ex K) :
    ∃ fd : FuncData, (∀ (s : Shared) (v : Value), BindsTo s fd ⟨[v], []⟩ [("script", v)]) ∧ ∀ base : Heap, K.In base → base.Ns mainGlobals mg → FnOk PP w K mg base CX0 37 f fd ["script"] (spLaw (K := K)) := by
  have T : Tx PP K mg := ⟨c, fun x m => glo_ok X G (c.fact m), fun x m => free_ok X G (c.fact m), fun x j m => int_ok X G (c.fact m), fun d m => c.xcg X G m, xs_ok⟩
  have e := hfa.symm.trans T.g_law
  cases e
  have b := FunD.bindsA (ps := ["script"]) T.f_law fun _ _ _ _ _ _ us hl => match us, hl with | [_], _ => rfl
  exact ⟨_, fun s v => b s [v] rfl, fun base _ _ => ok_law T⟩
end K7
open PySem PySem.W PySem.Calls PyProof.Rows
theorem PySem.Challenge.cw_outlives_k07_programs_of_texts_holds : PySem.Challenge.rw_outlives_k07_programs_of_texts.Holds := by
  w_on; o_law
  refine HandSHeadRun.head_any (r := OpenLaw.row PySem.Challenge.rw_outlives_k07_programs_of_texts) (q := view (OpenLaw.row PySem.Challenge.rw_outlives_k07_programs_of_texts).prog [57]) (H := K7.hk) (ob := K7.ob) (M := 6000) (loose := K7.names) (d := HandSHeadRun.topDef (OpenLaw.row PySem.Challenge.rw_outlives_k07_programs_of_texts).prog 57) (kwd := []) K7.ob_eq
    (by kernel_rfl) (fun s => by kernel_rfl) K7.run (by kernel_rfl) (by kernel_rfl) (by kernel_rfl) (by rfl) (by first | assumption | decide +kernel) (by decide +kernel) ⟨rfl, rfl, rfl, rfl, rfl, by decide +kernel⟩ ?hw ?hc
  case hw => w_witness2
  case hc =>
    refine L2.walk_ofE (l := PySem.Challenge.rw_outlives_k07_programs_of_texts) (n := 63) (k := 37) (x := "script") (CX := L2.CX0) rfl (by decide) (by kernel_rfl) ⟨rfl, by decide, by decide⟩ ?F (fun _ _ _ _ z => z)
    intro w mg fa h Y G hmg0
    obtain ⟨K, KX, c⟩ := Y
    have hmg : mg ("law" : PySem.Str) = some (.ref fa) := by
      have e : (HandSHeadRun.topDef (OpenLaw.row PySem.Challenge.rw_outlives_k07_programs_of_texts).prog 57).name = ("law" : PySem.Str) := by kernel_rfl
      rw [← e]
      exact hmg0
    obtain ⟨fd, hb, hF⟩ := K7.facts (w := w) KX G hmg c
    exact ⟨K, fd, K7.spLaw (K := K), KX, hb, fun H a ns hl _ hS => ⟨a, ns, rfl, hS, fun _ => rfl⟩, hF⟩

