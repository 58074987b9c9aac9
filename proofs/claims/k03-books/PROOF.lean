import PyProof.Rows.All
import Wide.All
import OpenK.AllK
import Wide.FinOn
import KE.KExcSuper
import HandS.ForExc
import HandS.ExcCtx
import KE.KExcIs
import HandS.ExcField
import HandS.ForMost
import HandS.IsInst
import HandS.Wide
import HandS.TupAny
import HandS.SortInts
import HandS.Deep
import HandS.TryOnly
import HandS.CallSlots
import HandS.Defaults
import HandS.HotCalls
import HandS.Style
import HandS.ForList
import KE.KStateDown
import Lean
import HandS.Base
import HandS.Call
import HandS.Ends
import HandS.EndBits
import HandS.More
import HandS.Words
import HandS.WordsExc
import HandS.Head0
import HandS.Head1
import HandS.Head2
import HandS.HeadEnd
import HandS.HeadHook1
import HandS.HeadHook2
import PyProof.InstEq
import HandS.Conv
import PySem.Challenge.RW_flagfalls_k03_books
set_option Elab.async false
set_option linter.all false
set_option maxRecDepth 100000
set_option maxHeartbeats 4000000
/-! An own exception class over ValueError whose __init__ says super().__init__('..') and then keeps its one argument. -/
namespace X3
open PySem PySem.W PySem.Calls PyProof.Rows PySem.HandSPX
/-- __init__'s parameters, body, scope, by its field's and argument's name -/
def supA (p1 p2 : Pos) (a : Str) : Arguments := { posonlyargs := [], args := [{ arg := "self", annotation := none, pos := p1 }, { arg := a, annotation := none, pos := p2 }], vararg := none, kwonlyargs := [], kw_defaults := [], kwarg := none, defaults := [] }
def supB (msg : Str) (a : Str) (k : Nat) (p1 p2 p3 p4 p5 p6 q1 q2 q3 q4 : Pos) : List Stmt :=
  [.Expr (.Call (.Attribute (.Call (.Name "super" p1) [] [] p2) "__init__" p3) [.Constant (.str msg) k p4] [] p5) p6,
   .Assign [.Attribute (.Name "self" q1) a q2] (.Name a q3) q4]
def supS (a : Str) : Scope := { kind := .function, names := [("self", .local), (a, .local), ("__class__", .free), ("super", .globalImplicit)], isGenerator := false, isCoroutine := false, more := [] }
/-- its arguments bind as they stand -/
def BindS (f : Str) : Prop := ∀ (qual : Str) (p1 p2 : Pos) (body : List Stmt) (doc pm : Value) (an : Option Addr) (cdv ct : Value) (cc : Addr) (x v : Value),
  bindArgs (ksFn "__init__" qual (supA p1 p2 f) body (supS f) .none .none doc pm an cdv ct cc) ⟨[x, v], []⟩ = pure [(("self" : Str), x), (f, v)]
/-- the call stands on one line -/
def LineS (msg : Str) (k : Nat) (p1 p2 p3 p4 p5 : Pos) : Prop := ∀ env : Env, ∃ pl : Sem Bool, eval (.Call (.Attribute (.Call (.Name "super" p1) [] [] p2) "__init__" p3) [.Constant (.str msg) k p4] [] p5) env = (do
  let ov ← attributeBase (.Call (.Name "super" p1) [] [] p2) "__init__" env (eval (.Call (.Name "super" p1) [] [] p2) env)
  standAt p3.atName
  let (fn, fst) ← holding [ov] (getMethod ov "__init__" pl)
  callWith p5 fn fst (backTo p5 (starEach [.Constant (.str msg) k p4] env)) [])
/-- what the written part says of such a class, at C: its __init__ at fI keeps its argument as f -/
structure SupC (prog : Program) (K : Frag) (C fI : Addr) (f : Str) : Prop where
  cls : ∃ nm q N bs bm sn sub ab col dd k0 k1 k2 k3 k5, K.lookup C = some (excClassObj nm q C N bs bm true sn sub ab col dd k0 k1 k2 k3 k5 "ValueError.__new__") ∧ refsVE bm = true
  sa : findIn K (.ref C) "__setattr__" = some (some (.builtin "object.__setattr__"))
  noN : findIn K (.ref C) f = some none
  iC : findIn K (.ref C) "__init__" = some (some (.ref fI))
  tC : typeIn K (.ref fI) = some (.type "function")
  ve : subIn K (.ref C) (.type "ValueError") = some true
  sub : mroIn K C (.ref C) = some true
  sup : ks_superIn K C C "__init__" = some (some (.builtin "ValueError.__init__"))
  opq : nsIn K cStatics "thirdparty.any" = some none
  nsu : nsIn K mainGlobals "super" = some none
  top : (prog.main.scope.names.lookup ("super" : Str)).isSome = false
  ne : (f == ("self" : Str)) = false ∧ (f == ("super" : Str)) = false ∧ (f == ("__class__" : Str)) = false ∧ (f == ("__debug__" : Str)) = false
  bnd : BindS f
  fn : ∃ (qual msg : Str) (k : Nat) (oc : Value) (od : Option Addr) (doc pm : Value) (an : Option Addr) (cda cc : Addr) (ct : Value) (osl : Array (Option Value)) (p1 p2 p3 p4 p5 p6 p7 p8 q1 q2 q3 q4 : Pos),
    K.lookup fI = some ⟨oc, od, .func (ksFn "__init__" qual (supA p1 p2 f) (supB msg f k p3 p4 p5 p6 p7 p8 q1 q2 q3 q4) (supS f) .none .none doc pm an (.ref cda) ct cc), osl⟩ ∧ codeIn K (.ref cda) qual = true ∧ LineS msg k p3 p4 p5 p6 p7 ∧
    (∃ ccl cdd ccs vs file tf, K.lookup cda = some ⟨ccl, cdd, .fields vs, ccs⟩ ∧ vs[2]? = some (.str file tf) ∧ ((prog.main.file : Str) == file) = true) ∧
    ∃ cl cld csl, K.lookup cc = some ⟨cl, cld, .cell (some (.ref C)), csl⟩
/-- the exception as it stands when it is made -/
structure Made (h h' : Heap) (e C d : Addr) (f : Str) (v : Value) : Prop where
  keep : ∀ b o, h.get? b = some o → h'.get? b = some o
  new : h.objs.size ≤ e
  obj : ∃ t1, h'.get? e = some ({ cls := .ref C, dict := some d, data := .fields #[.ref t1, .none, .none, .none, .bool false, .none] } : Obj)
  dbig : h.objs.size ≤ d
  dne : d ≠ e
  ns : h'.Ns1 d (fun y => if y = f then some v else none)
section
variable {prog : Program} {w : World} {A : Around} {s : Shared} {K : Frag} {mg mb : Str → Option Value} {C fI : Addr} {f : Str}
/-- the bound built-in __init__, called -/
theorem call_mw {E : Value → Shared → Prop} {h : Heap} {g : Array GenState} {d : Drawn} {t : Nat} {os : OsState} {u x t0 C N : Addr} {nm q : Str} {bs bm : List Value} {hdct : Bool} {sn : List Str} {sub : List Value} {ab : Bool} {col : Option Bool} {dd : Option Addr} {k0 k1 k2 k3 k5 : Option Value} {rest : List Value} {Q : Value → Shared → Prop}
    (hC : h.get? C = some (excClassObj nm q C N bs bm hdct sn sub ab col dd k0 k1 k2 k3 k5 "ValueError.__new__")) (he : h.get? x = some (excO C t0)) (hu : h.get? u = some (kxs_mw "ValueError.__init__" x)) (hz : rest.length ≤ sizeLine)
    (hq : ∀ h' t1, (∀ b o, b ≠ x → h.get? b = some o → h'.get? b = some o) → h'.get? x = some (excO C t1) → Q .none ⟨h', g, d, t, os⟩) :
    wpAny (model prog w) A (call (.ref u) rest) Q E ⟨h, g, d, t, os⟩ := by
  refine wpAny_call (codeAny_of_tree ?_)
  show wpAny _ A.in1 (callAny (.ref u) ⟨rest, []⟩) _ _ _
  simp only [callAny]
  refine wpAny_bind (wpAny_load hu ?_)
  have e1 : (Value.type "method-wrapper" == Value.type "method" || Value.type "method-wrapper" == Value.type "builtin_function_or_method" || Value.type "method-wrapper" == Value.type "method-wrapper") = true := by decide
  simp only [kxs_mw, e1, if_true]
  refine KFB.if_so (by decide) ?_
  refine wpAny_bind (check_bound_init F.excBase_ValueError.toExcCallFacts hC he rfl ?_)
  refine wpAny_bind (wpAny_pure (wpAny_pure ?_))
  refine ⟨plainId_quiet F.excBase_ValueError.init.plain _, codeAny_builtin F.excBase_ValueError.initEntry ?_⟩
  exact exc_init_tree (cls := .ref C) (t0 := t0) (dv := none) (c2 := .none) (c3 := .none) (b4 := .bool false) he hz fun h' k e' _ => hq h' _ k e'

theorem init_run (T : SupC prog K C fI f) {R : Result → Shared → Prop} {x t0 : Addr} {v : Value} (X : K.In s.heap) (G : s.heap.Ns mainGlobals mg) (B : s.heap.Ns builtinsNs mb) (BB : ∀ y : Str, y ≠ "__name__" → mb y = bootBuiltins y) (hlim : s.heap.NoLimit)
    (hx : s.heap.get? x = some (excO C t0)) (hnx : K.lookup x = none) (hroom : A.depth < recursionLimit)
    (hq : ∀ h' tk dx t1, (∀ b o, b ≠ x → s.heap.get? b = some o → h'.get? b = some o) → h'.get? x = some ({ cls := .ref C, dict := some dx, data := .fields #[.ref t1, .none, .none, .none, .bool false, .none] } : Obj) → s.heap.objs.size ≤ dx → dx ≠ x →
      h'.Ns1 dx (fun y => if y = f then some v else none) → R (.ok (.ret .none)) { s with heap := h', toks := tk }) :
    codeAny (model prog w) A (.call (.ref fI) ⟨[.ref x, v], []⟩) R s := by
  obtain ⟨qual, msg, k, oc, od, doc, pm, an, cda, cc, ct, osl, p1, p2, p3, p4, p5, p6, p7, p8, q1, q2, q3, q4, ho, hcd, hline, ⟨ccl, cdd, ccs, vs, file, tf, hcode, hvs, hfile⟩, cl, cld, csl, hcell⟩ := T.fn
  obtain ⟨nm, q, N, bs, bm, sn, sub, ab, col, dd, k0, k1, k2, k3, k5, hC, hbm⟩ := T.cls
  obtain ⟨n1, n2, n3, n4⟩ := T.ne
  have hcl : clsIn K C = some { name := nm, bases := bs, mro := .ref C :: bm, ns := N, qualname := q, hasDict := true, slotNames := sn, subclasses := sub, abstract := ab, collection := col, hasDel := false } := by unfold clsIn; rw [hC] <;> rfl
  have lself : (supS f).names.lookup ("self" : Str) = some .local := by simp [supS, List.lookup]
  have larg : (supS f).names.lookup f = some .local := by simp [supS, List.lookup, n1]
  have lcls : (supS f).names.lookup ("__class__" : Str) = some .free := by
    have e : (("__class__" : Str) == f) = false := by rw [BEq.comm]; exact n3
    simp [supS, List.lookup, e, show (("__class__" : Str) == "self") = false by decide +kernel]
  have lsup : (supS f).names.lookup ("super" : Str) = some .globalImplicit := by
    have e : (("super" : Str) == f) = false := by rw [BEq.comm]; exact n2
    simp [supS, List.lookup, e, show (("super" : Str) == "self") = false by decide +kernel, show (("super" : Str) == "__class__") = false by decide +kernel]
  obtain ⟨hp, g, d, tk, os⟩ := s
  have hx' : hp.get? x = some (excO C t0) := hx
  refine ks_codeAny_call_defAt (fd := ksFn "__init__" qual (supA p1 p2 f) (supB msg f k p3 p4 p5 p6 p7 p8 q1 q2 q3 q4) (supS f) .none .none doc pm an (.ref cda) ct cc) (binds := [(("self" : Str), .ref x), (f, v)]) hroom (X _ _ ho) rfl hlim (codeRec_of X hcd) rfl
    (BindsTo.of_eq (T.bnd _ _ _ _ _ _ _ _ _ _ _ _)) ?c1 ?c2 (fun h1 hns k1' => ?_) rfl rfl rfl
  case c1 =>
    intro y hy
    simp only [supS, List.mem_cons, List.not_mem_nil, or_false] at hy
    rcases hy with rfl | rfl | rfl | rfl <;> exact fun z => nomatch z
  case c2 =>
    intro y hy
    simp only [List.mem_cons, List.not_mem_nil, or_false] at hy
    rcases hy with rfl | rfl
    · exact lself
    · exact larg
  have X1 : K.In h1 := X.keeps k1'
  have hx1 := k1' _ _ hx'
  have nself : (fun y => List.lookup y [(("self" : Str), Value.ref x), (f, v)].reverse) "self" = some (.ref x) := by
    have e : (("self" : Str) == f) = false := by rw [BEq.comm]; exact n1
    simp [List.lookup, e]
  have narg : (fun y => List.lookup y [(("self" : Str), Value.ref x), (f, v)].reverse) f = some v := by simp [List.lookup]
  have IA : InstAt h1 x (excO C t0) C none := ⟨hx1, rfl, rfl, trivial⟩
  have nsu : mg "super" = none := mg_none_of X G T.nsu
  obtain ⟨pl, hev⟩ := hline (ksEnv qual (supS f) hp.objs.size fI (.ref cda) cc)
  refine ks_wpAt_execs_cons (ks_wpAt_Expr_any (ks_wpAt_MethodCall (pl := pl) ?_ hev))
  refine ks_wpAt_super_base (s := ⟨h1, g, d, _, os⟩) lsup lcls (by decide) rfl (X1 _ _ ho) rfl rfl rfl (X1 _ _ hcode) rfl hvs hfile T.top ?_
  refine ks_loadName_global rfl lsup (loadGlobal_builtin (G.keeps k1') nsu (B.keeps k1') ((BB _ (by decide +kernel)).trans (by first | boot_by_name | rfl | kernel_rfl)) ⟨rfl, ?_⟩)
  refine wpAny_loadName_free rfl lcls rfl ⟨_, X1 _ _ hcell, rfl⟩ ?_
  refine wpAny_loadName_local rfl lself hns nself ?_
  refine ks_wpAny_isType_cls (X1 _ _ hC) rfl ⟨rfl, ?_⟩
  refine ks_wpAny_call_super (X1 _ _ hC) rfl hx1 rfl (fun c e => nomatch e) (looks_mroIn X1 T.sub) (fun h2 e2 k2 => ?_)
  have X2 : K.In h2 := X1.keeps k2
  have hx2 := k2 _ _ hx1
  have IA2 : InstAt h2 x (excO C t0) C none := ⟨hx2, rfl, rfl, trivial⟩
  have hsup : alongIn K "__init__" (((Value.ref C :: bm).dropWhile (· != .ref C)).drop 1) = some (some (.builtin "ValueError.__init__")) := by
    have z := T.sup
    unfold ks_superIn at z
    rw [hcl] at z
    exact z
  refine kxs_getMethod kxs_ValueError e2 (looks_opaque X2 T.opq) (l₀ := .ref C :: bm) (fun A' Q' E' s' k' q' => wpAny_bind ((looks_clsIn X2 hcl) A' _ E' s' k' (wpAny_pure q'))) rfl X2 hsup (IA2.type.andThen (looks_subIn X2 T.ve)) (ks_ne X2 IA2 hcl) (by decide +kernel) ?_
  have hu : (h2.push (kxs_mw "ValueError.__init__" x)).get? h2.objs.size = some (kxs_mw "ValueError.__init__" x) := Heap.get?_push_at rfl rfl
  have k3 : ∀ b o, h2.get? b = some o → (h2.push (kxs_mw "ValueError.__init__" x)).get? b = some o := fun b o e => Heap.get?_push_of_some _ e
  have xne : x ≠ h2.objs.size := Nat.ne_of_lt (Heap.lt_size hx2)
  show wpAny _ _ (callWith p7 (.ref h2.objs.size) [] (backTo p7 (starEach [.Constant (.str msg) k p6] (ksEnv qual (supS f) hp.objs.size fI (.ref cda) cc))) []) _ _ _
  refine kxs_callWith (i := "ValueError.__init__") (x := x) rfl (evalArgs_plain ?_)
  show wpAny _ _ (spliced ((false, eval (.Constant (.str msg) k p6) (ksEnv qual (supS f) hp.objs.size fI (.ref cda) cc)) :: backTo p7 (starEach [] (ksEnv qual (supS f) hp.objs.size fI (.ref cda) cc)))) _ _ _
  refine Calls.spliced_cons (Calls.Constant_str (Calls.spliced_nil ?_))
  refine ⟨hu, ?_⟩
  refine call_mw (X2.keeps k3 _ _ hC) (k3 _ _ hx2) hu (by show 1 ≤ sizeLine; rw [sizeLine_eq]; decide) fun h4 t1 k4 hx4 => ?_
  have X4 : K.In h4 := fun a o e => k4 a o (fun z => by rw [z, hnx] at e; cases e) (X2.keeps k3 a o e)
  have b1 : ∀ b o, b ≠ x → h1.get? b = some o → h4.get? b = some o := fun b o hb e => k4 b o hb (k3 _ _ (k2 _ _ e))
  have lne : hp.objs.size ≠ x := Nat.ne_of_gt (Heap.lt_size hx')
  have hns4 : h4.Ns hp.objs.size (fun y => List.lookup y [(("self" : Str), Value.ref x), (f, v)].reverse) := by
    obtain ⟨oL, es, ep, hL, r⟩ := hns
    exact ⟨oL, es, ep, b1 _ _ lne hL, r⟩
  show PySem.wpAt _ _ _ (execs [.Assign [.Attribute (.Name "self" q1) f q2] (.Name f q3) q4] (ksEnv qual (supS f) hp.objs.size fI (.ref cda) cc)) _ _ _
  refine wpAt_of_wpAny (wpAny_execs_cons (plainObj_wpAny_Assign_Attribute ?_))
  refine wpAny_Name (wpAny_loadName_local rfl larg hns4 narg ?_) n4
  refine wpAny_Name (wpAny_loadName_local rfl lself hns4 nself ?_) (by decide)
  refine set_plain X4 (ox := excO C t1) (od := none) ⟨hx4, rfl, rfl, trivial⟩ T.sa ?_
  refine PySem.HandSPX.exc_osa X4 hx4 hcl (show refsVE (.ref C :: bm) = true from hbm) rfl T.noN (fun h5 tk5 dx k5 dn dne hx5 hn5 => ?_)
  exact wpAny_execs_nil (hq h5 tk5 dx t1 (fun b o hb e => k5 b o hb (b1 b o hb (k1' _ _ e))) hx5 (Nat.le_trans (Nat.le_of_lt hns4.lt) dn) dne hn5)
/-- the class, called -/
theorem made_of (T : SupC prog K C fI f) {R : Result → Shared → Prop} {v : Value} (X : K.In s.heap) (G : s.heap.Ns mainGlobals mg) (B : s.heap.Ns builtinsNs mb) (BB : ∀ y : Str, y ≠ "__name__" → mb y = bootBuiltins y) (hlim : s.heap.NoLimit) (hroom : A.depth + 1 < recursionLimit)
    (hq : ∀ h' tk e d, Made s.heap h' e C d f v → R (.ok (.ret (.ref e))) { s with heap := h', toks := tk }) :
    codeAny (model prog w) A (.call (.ref C) ⟨[v], []⟩) R s := by
  obtain ⟨nm, q, N, bs, bm, sn, sub, ab, col, dd, k0, k1, k2, k3, k5, hC, hbm⟩ := T.cls
  obtain ⟨hp, g, d, tk, os⟩ := s
  have k : ∀ b o, hp.get? b = some o → ((hp.push (kdv_tup [v])).push (PySem.HandSPX.excO C hp.objs.size)).get? b = some o := fun b o e => Heap.get?_push_of_some _ (Heap.get?_push_of_some _ e)
  have hget : ((hp.push (kdv_tup [v])).push (PySem.HandSPX.excO C hp.objs.size)).get? (hp.objs.size + 1) = some (PySem.HandSPX.excO C hp.objs.size) := by heap_get
  have hnx : K.lookup (hp.objs.size + 1) = none := by
    cases e : K.lookup (hp.objs.size + 1) with
    | none => rfl
    | some o => exact absurd (Nat.lt_of_succ_lt (Heap.lt_size (show hp.get? _ = some o from X _ _ e))) (Nat.lt_irrefl _)
  refine PySem.HandSPX.call_own F.excBase_ValueError (fun Y => refsVE_contains Y bm hbm) (X _ _ hC) (looks_findIn X T.iC) (fun self => bind_fn X self T.tC) (by show 1 ≤ sizeLine; rw [sizeLine_eq]; decide) ?_
  refine init_run (mg := mg) (mb := mb) (s := ⟨(hp.push (kdv_tup [v])).push (PySem.HandSPX.excO C hp.objs.size), g, d, tk, os⟩) T (X.keeps k) (G.keeps k) (B.keeps k) BB (hlim.keeps k) hget hnx (by show A.depth + 1 < recursionLimit; exact hroom) fun h' tk' dx t1 k' hx dn dne hns => ?_
  have old : ∀ b o, hp.get? b = some o → h'.get? b = some o := fun b o e => k' b o (Nat.ne_of_lt (Nat.lt_succ_of_lt (Heap.lt_size e))) (k b o e)
  have z : hp.objs.size + 1 + 1 ≤ dx := by
    have q' := dn
    first
      | (simpa only [Heap.size_push] using q')
      | (rw [Heap.size_push, Heap.size_push] at q'; exact q')
  exact ⟨rfl, hq h' tk' (hp.objs.size + 1) dx ⟨old, Nat.le_succ _, ⟨t1, hx⟩, Nat.le_trans (Nat.le_trans (Nat.le_succ _) (Nat.le_succ _)) z, dne, hns⟩⟩
end
end X3

namespace X3
open PySem PySem.W PySem.Calls PyProof.Rows L2
/-! ### C(e) -/
section
variable {X : Cx} {C fI : Addr} {f : Str}
def tMkSup (C : Addr) (f : Str) (te : TE) : L2.St → Hp → XK → Prop := fun σ H Q => te σ H fun v H1 => ∀ d, H1 d = none → Q (.ref C) (some d) (upd H1 d (.xd [(f, v)]))
theorem relO_one {v : V} {u : Value} (r : RelV v u) (f g : Str) : RelO (List.lookup g [(f, v)]) (if g = f then some u else none) := by
  by_cases h : g = f
  · subst h
    have e : List.lookup g [(g, v)] = some v := by simp [List.lookup]
    rw [if_pos rfl, e]
    exact r
  · have e : List.lookup g [(f, v)] = none := by
      have z : (g == f) = false := by simpa using h
      simp [List.lookup, z]
    rw [if_neg h, e]
    trivial
theorem pmk_sup {a : Expr} {te : TE} {x : Str} {p pos : Pos} {k : Nat} (T : SupC X.prog X.K C fI f) (gC : X.mg x = some (.ref C)) (kC : keepIn X.K (.ref C) = true) (rs : Raises X (.ref C)) (hr : X.A.depth + 1 < recursionLimit) (ha : PE X a te) (hg : Gl X x := by rfl)
    (hdb : (x == ("__debug__" : Str)) = false := by decide) (he : starEach (a :: []) X.env = (false, eval a X.env) :: starEach [] X.env := by rfl) (hpl : (backTo pos (starEach [] X.env)).any (·.1) = false := by rfl) :
    L2N.PMk X (.Call (.Name x p) [a] [] pos) (tMkSup C f te) := by
  intro pins s σ H Q I h
  refine wpAny_Call_Name_kw (ld_glob I hg gC ?_ hdb)
  have hpa : PA X [a] (tCons te tNil) := pa_cons ha pa_nil he
  refine callWith_K (h₀ := X.base) I.ok.mod.kin kC (thn (hpa.run pos pins s σ H (fun vs H1 => match vs with
    | [v] => ∀ d, H1 d = none → Q (.ref C) (some d) (upd H1 d (.xd [(f, v)]))
    | _ => False) I h) fun us s1 hh => ?_) he hpl
  obtain ⟨vs, H1, I1, r1, q0⟩ := hh
  obtain ⟨v, ev, q1⟩ : ∃ v, vs = [v] ∧ ∀ d, H1 d = none → Q (.ref C) (some d) (upd H1 d (.xd [(f, v)])) := by
    match vs, q0 with
    | [v], q0 => exact ⟨v, rfl, q0⟩
  subst ev
  refine ⟨I1.kIn, ?_⟩
  cases r1 with
  | cons rv rn =>
    rename_i u us'
    cases rn
    show wpAny _ _ (call (.ref C) [u]) _ _ _
    have hlim := I1.nolimit
    obtain ⟨mb, hmb1, hmb2⟩ := I1.mod.blt
    have G1 : s1.heap.Ns mainGlobals X.mg := I1.mod.glob.keeps I1.bk
    have B1 : s1.heap.Ns builtinsNs mb := hmb1.keeps I1.bk
    obtain ⟨hp, g, dr, tk, os⟩ := s1
    refine wpAny_call (made_of (mg := X.mg) (mb := mb) T I1.kIn G1 B1 hmb2 hlim hr fun h' tk' e d M => ?_)
    show L2N.MkP X pins σ Q (.ref e) ⟨h', g, dr, tk', os⟩
    obtain ⟨t1, hoe⟩ := M.obj
    obtain ⟨G', g1, g2⟩ := restrict h' fun b => decide (b ≠ e)
    have gk : ∀ b, b ≠ e → G'.get? b = h'.get? b := fun b hb => g1 b (decide_eq_true hb)
    have ge : G'.get? e = none := g2 e (by simp)
    have old : ∀ b o, hp.get? b = some o → G'.get? b = some o := fun b o q => (gk b (Nat.ne_of_lt (Nat.lt_of_lt_of_le (Heap.lt_size q) M.new))).trans (M.keep b o q)
    have ob : ObjOk X.prog X.w (upd H1 d (.xd [(f, v)])) G' d (.xd [(f, v)]) := ⟨_, M.ns.at (fun o q => (gk d M.dne).trans q), fun y => relO_one rv f y⟩
    have J : Inv X pins σ (upd H1 d (.xd [(f, v)])) ⟨G', g, dr, tk', os⟩ := I1.laid (t' := tk') old M.dbig ob
    refine ⟨e, _, _, ⟨G', g, dr, tk', os⟩, _, .ref C, some d, rfl, J, fun b o q => ?_, ge, hoe, ⟨rfl, rfl, fun vs e => by cases e; rfl⟩, rfl, rfl, ?_, rfl, I1.bare, rs, q1 d (I1.hok.fresh M.dbig)⟩
    · by_cases hb : b = e
      · have q' : G'.get? b = some o := q
        rw [hb, ge] at q'
        cases q'
      · exact (gk b hb).symm.trans q
    · rw [upd_ne (Ne.symm M.dne)]
      exact I1.hok.fresh M.new
end
/-! ### isinstance(e, D) of the exception that a suite holds, whatever its dict -/
structure ExI (K : Frag) (D : Addr) : Prop where
  c0 : (clsIn K D).isSome = true
  ga : findIn K (.ref D) "__getattribute__" = some (some (.builtin "BaseException.__getattribute__"))
  gg : findIn K (.ref D) "__getattr__" = some none
  be : subIn K (.ref D) (.type "BaseException") = some true
  cl : findIn K (.ref D) "__class__" = some (some (.builtin "object.__class__"))
  sp : specialIn K (.builtin "object.__class__") "__get__" = some (some (.builtin "getset_descriptor.__get__"))
  tk : takesIn K (.builtin "object.__class__") = some true
  mo : mroIn K D (.type "object") = some true
def rIsX (K : Frag) (D a : Addr) : List V → Hp → VK → Prop := fun xs H Q => ∃ (c : V) (cv : Value) (b : Bool), xs = [.ref a, c] ∧ (∀ u, RelV c u → u = cv) ∧ kitOne K (.ref D) cv = some b ∧ Q (.bl b) H
theorem call_isX {X : Cx} {a D : Addr} {oe : Obj} {d : Option Addr} {fs : List (Str × V)} {pn : List (Addr × Obj)} (T : ExI X.K D) (hz : Zc (.ref D) d oe) (hf : ∃ vs, oe.data = .fields vs) :
    CallR (X.suite a ((a, oe) :: pn)) (.builtin "isinstance") (fun xs H Q => (∀ dd, d = some dd → H dd = some (.xd fs)) ∧ rIsX X.K D a xs H Q) := by
  intro pins s σ H xs us Q I r h
  obtain ⟨hd, c, cv, b, rfl, hcv, e, q⟩ := h
  cases r with
  | cons rx rr =>
    cases rr with
    | cons rt rr =>
      cases rr
      cases rx
      have ec := hcv _ rt
      subst ec
      obtain ⟨hget, _⟩ := I.pin (a, oe) (List.mem_append.mpr (.inl List.mem_cons_self))
      obtain ⟨vs, hv⟩ := hf
      have J : ∃ odo, InstAt s.heap a oe D odo := by
        obtain ⟨oc, od, oda, osl⟩ := oe
        obtain ⟨h1, h2⟩ := hz
        dsimp only at h1 h2 hv
        subst h1 h2 hv
        cases od with
        | none => exact ⟨none, hget, rfl, rfl, trivial⟩
        | some dd =>
          have hx : ObjOk X.prog X.w H s.heap dd (.xd fs) := I.hok dd _ (hd dd rfl)
          obtain ⟨mA, hns, hr⟩ := hx
          obtain ⟨o2, ho2, hl⟩ := lookIn_ns hns
          exact ⟨some o2, hget, rfl, rfl, ho2⟩
      obtain ⟨odo, J⟩ := J
      exact kia_one (kitx_exc T.c0 T.ga T.gg T.be T.cl T.sp T.tk T.mo) I.kIn J e (fun z => nomatch z) fun tk => ⟨.bl b, H, I.kept (t' := tk) fun _ _ z => z, rfl, q⟩
end X3

/-! try with any number of except clauses, each with or without a name, over exceptions whose context is None -/
namespace X3
open PySem PySem.W PySem.Calls PyProof.Rows L2
abbrev Su := Addr → Value → Option Addr → TS
/-- what stands behind a suite whose name (slot i) goes -/
def Ends.gone (D : Ends) (i : Nat) : Ends where
  nx := fun σ H => D.nx (σ.set i none) H
  rt := D.rt
  bk := fun σ H => D.bk (σ.set i none) H
  ct := fun σ H => D.ct (σ.set i none) H
/-- one clause's suite, by whether it has a name -/
def suT (o : Option Nat) (ts : Su) (a : Addr) (cls : Value) (d : Option Addr) (D : Ends) (σ : L2.St) (H : Hp) : Prop :=
  match o with
  | none => ts a cls d D σ H
  | some i => ts a cls d (Ends.gone D i) (σ.set i (some (.ref a))) H
def wH (K : Frag) (Wout : WX) (D : Ends) : List (Value × Option Nat × Su) → WX
  | [] => Wout
  | (c, o, ts) :: r => fun cls d σ H =>
    ∃ b, exmOne K cls c = some b ∧ (b = true → ∀ a, H a = none → suT o ts a cls d D σ H) ∧
      (b = false → wH K Wout D r cls d σ H)
/-- the suite under any pins -/
def SuOk (X : Cx) (l : List Stmt) (ts : Su) : Prop :=
  ∀ (a : Addr) (ob : Obj) (cls : Value) (d : Option Addr) (pl : List (Addr × Obj)), L2N.Zn cls d ob →
    (∃ vs, ob.data = .fields vs) → PSs (X.suite a ((a, ob) :: pl)) l (ts a cls d)
inductive HdOk (X : Cx) : List ExceptHandler → List (Value × Option Nat × Su) → Prop
  | nil : HdOk X [] []
  | bare {x : Str} {c : Value} {ts : Su} {b₀ : Stmt} {su : List Stmt} {p1 p2 : Pos} {hds : List ExceptHandler} {l : List (Value × Option Nat × Su)} (hc : Names X x c) (hsu : SuOk X (b₀ :: su) ts) (r : HdOk X hds l) :
      HdOk X (.ExceptHandler (some (.Name x p1)) none (b₀ :: su) p2 :: hds) ((c, none, ts) :: l)
  | named {x n : Str} {i : Nat} {c : Value} {ts : Su} {b₀ : Stmt} {su : List Stmt} {p1 p2 : Pos} {hds : List ExceptHandler} {l : List (Value × Option Nat × Su)} (hN : X.N.Nodup) (hi : X.N[i]? = some n) (hl : X.env.kindOf n = some .local) (hc : Names X x c)
      (hsu : SuOk X (b₀ :: su) ts) (r : HdOk X hds l) : HdOk X (.ExceptHandler (some (.Name x p1)) (some n) (b₀ :: su) p2 :: hds) ((c, some i, ts) :: l)
section
variable {X : Cx} {body : List Stmt} {h₀ : ExceptHandler} {hds : List ExceptHandler} {l : List (Value × Option Nat × Su)} {pos : Pos} {tb : WX → TS} {Wout : WX}
theorem ps_tryH (hs : X.stack = X.env :: X.outer) (hf : X.env.frame = some X.env.locals) (tk : L2N.Takes X Wout)
    (hb : ∀ (W : WX) (pl : List (Addr × Obj)) (xe : Value → Shared → Prop), L2N.Takes (X.tr pl xe) W → PassesOwn (model X.prog X.w) X.A X.env xe → PSs (X.tr pl xe) body (tb W))
    (hh : HdOk X (h₀ :: hds) l) : PS X (.Try body (h₀ :: hds) [] [] pos) (fun D σ H => tb (wH X.K Wout D l) D σ H) := by
  refine ⟨fun pins st σ H D I hw => ?_⟩
  have ok := I.ok
  have frm : X.A.frames = some (X.env :: X.outer) := ok.frames.trans (congrArg some hs)
  let xe1 : Value → Shared → Prop := fun e s₁ => wpAny (model X.prog X.w) X.A (noteFrame e X.env) (fun _ s₂ =>
    wpAny (model X.prog X.w) X.A (setFlight e none) (fun _ s₃ =>
      wpAny (model X.prog X.w) X.A (handleBy e X.env (h₀ :: hds)) (SP X pins D) X.xe s₃) X.xe s₂) X.xe s₁
  have catch_ : L2N.Takes (X.tr (X.pn ++ pins) xe1) (wH X.K Wout D l) := by
    rintro u s4 ⟨e, B, sI, pl, τ, H4, cls, d, eu, I4, nb, up, sky, na, os, ag, hW⟩
    subst eu
    have J : Inv X pins τ H4 sI := I4.ofTry ok
    have sky2 : Sky B (X.env :: X.outer) e (L2N.Zn cls d) X.env.locals s4.heap := hs ▸ sky
    show wpAny (model X.prog X.w) X.A (noteFrame (.ref e) X.env) _ _ _
    refine L2N.Sky.land L2N.Zn.steady frm hf sky2 fun g3 fl3 up3 => ?_
    have J3 : Inv X pins τ H4 { s4 with heap := g3 } := J.landed nb fl3.1 (up.trans up3) os ag
    obtain ⟨ob3, va3, he3, hz3, hd3⟩ := fl3.there
    have away : e ∉ frs (X.env :: X.outer) := fun hm => by
      obtain ⟨_, o2, e2, hnf⟩ := fl3.2.2.1.mem hm
      rw [he3] at e2
      cases e2
      exact hnf _ hd3
    have nL : e ≠ X.env.locals := fun z => away (List.mem_filterMap.mpr ⟨X.env, List.mem_cons_self, hf.trans (congrArg some z.symm)⟩)
    have nF : e ∉ X.fs := fun hm =>
      let ⟨v, hv, q⟩ := List.mem_filterMap.mp hm
      away (List.mem_filterMap.mpr ⟨v, List.mem_cons_of_mem _ hv, q⟩)
    have S3 := J3.suite he3 hd3 na nL nF
    have tyE : Looks (model X.prog X.w) g3 (typeOf (.ref e)) cls := fun A Q E s k q =>
      wpAny_typeOf_ref (k _ _ he3) (by rw [hz3.1]; exact q)
    have name_ : ∀ {x : Str} {c : Value} {p : Pos} {Q E : Value → Shared → Prop}, Names X x c → Q c { s4 with heap := g3 } →
        wpAny (model X.prog X.w) (X.A.mark (some (.ref e))) (eval (.Name x p) X.env) Q E { s4 with heap := g3 } := by
      intro x c p Q E nm q
      obtain ⟨n1, n2, n3 | ⟨n3, n4, n5⟩⟩ := nm
      · exact ld_glob (X := X.suite e ((e, ob3) :: (X.pn ++ pins))) S3 n1 n3 q n2
      · exact ld_blt (X := X.suite e ((e, ob3) :: (X.pn ++ pins))) S3 n1 n3 n4 q n5 n2
    have all : ∀ {hs2 : List ExceptHandler} {l2 : List (Value × Option Nat × Su)}, HdOk X hs2 l2 → wH X.K Wout D l2 cls d τ H4 →
        wpAny (model X.prog X.w) X.A (handleBy (.ref e) X.env hs2) (SP X pins D) X.xe { s4 with heap := g3 } := by
      intro hs2 l2 hk
      induction hk with
      | nil =>
        intro w
        refine wpAny_handleBy_nil ?_
        obtain ⟨_, _, _, ob, va, T, _, _, he, _, hd, h1, _⟩ := id fl3
        unfold PySem.passOn
        refine wpAny_bind (wpAny_field he hd h1 ?_)
        rw [if_neg (show ¬ ((Value.ref T == Value.none) = true) by simp)]
        have out : wpAny (model X.prog X.w) X.A (setFlight (.ref e) X.env.frame)
            (fun _ s5 => wpAny (model X.prog X.w) X.A (throw (.ref e) : Sem Flow) (SP X pins D) X.xe s5) X.xe { s4 with heap := g3 } := by
          rw [hf]
          refine PySem.HandSPX.setFlight_upZ fl3 fun g4 held up4 => wpAny_throw (tk _ _ ?_)
          exact ⟨e, B, sI, pins, τ, H4, cls, d, rfl, J, nb, (up.trans up3).trans up4,
            .inr (.inr (by rw [hs]; exact held)), na, os, ag, w⟩
        first
          | exact wpAny_bind (wpAny_pure (wpAny_bind out))
          | exact wpAny_bind out
      | @bare x c ts b₀ su p1 p2 hds3 l3 hc hsu r ih =>
        rintro ⟨b, hb1, yes, no⟩
        refine wpAny_handleBy_cons (codeAny_handlers_test ?_) (fun q => nomatch q)
        refine name_ hc ((exm_one J3.kIn tyE hb1).here ?_)
        cases b with
        | false => exact ih (no rfl)
        | true =>
          refine codeAny_handlers_suite (PySem.HandSPX.lands_againZ fl3 fun g4 fl4 up4 => ?_)
          have J4 : Inv X pins τ H4 { s4 with heap := g4 } :=
            J.landed nb fl4.1 ((up.trans up3).trans up4) os ag
          obtain ⟨ob4, va4, he4, hz4, hd4⟩ := fl4.there
          have run := (hsu e ob4 cls d (X.pn ++ pins) hz4 ⟨_, hd4⟩).run [] _ _ H4 _ (J4.suite he4 hd4 na nL nF) (yes rfl e na)
          refine wpAny_mono run (fun fl s6 q => ?_) (fun _ _ z => z.elim)
          cases fl with
          | next =>
            obtain ⟨_, _, S6, q6⟩ := q
            exact ⟨_, _, S6.unsuite ok, q6⟩
          | brk =>
            obtain ⟨_, _, S6, q6⟩ := q
            exact ⟨_, _, S6.unsuite ok, q6⟩
          | cont =>
            obtain ⟨_, _, S6, q6⟩ := q
            exact ⟨_, _, S6.unsuite ok, q6⟩
          | ret u =>
            obtain ⟨_, _, _, S6, r6, q6⟩ := q
            exact ⟨_, _, _, S6.unsuite ok, r6, q6⟩
      | @named x n i c ts b₀ su p1 p2 hds3 l3 hN hi hl hc hsu r ih =>
        rintro ⟨b, hb1, yes, no⟩
        refine wpAny_handleBy_cons (codeAny_handlers_test ?_) (fun q => nomatch q)
        refine name_ hc ((exm_one J3.kIn tyE hb1).here ?_)
        cases b with
        | false => exact ih (no rfl)
        | true =>
          refine codeAny_handlers_suite_as (PySem.HandSPX.lands_againZ fl3 fun g4 fl4 up4 => ?_)
          have J4 : Inv X pins τ H4 { s4 with heap := g4 } :=
            J.landed nb fl4.1 ((up.trans up3).trans up4) os ag
          obtain ⟨ob4, va4, he4, hz4, hd4⟩ := fl4.there
          refine store_ok (X := X.suite e ((e, ob4) :: (X.pn ++ pins))) (v := .ref e) (J4.suite he4 hd4 na nL nF) hN hi (.inl hl) rfl (fun s5 S5 => ?_) (.inr hl)
          have run := (hsu e ob4 cls d (X.pn ++ pins) hz4 ⟨_, hd4⟩).run [] s5 _ H4 _ S5 (yes rfl e na)
          refine wpAny_mono run (fun fl s6 q => ?_) (fun _ _ z => z.elim)
          have leave : ∀ {τ6 : L2.St} {H6 : Hp} {Q : Shared → Prop}, Inv (X.suite e ((e, ob4) :: (X.pn ++ pins))) [] τ6 H6 s6 →
              (∀ s7, Inv X pins (τ6.set i none) H6 s7 → Q s7) →
              wpAny (model X.prog X.w) X.A (do bindName X.env n .none; unbindBehindTheSuite X.env n p2) (fun _ s7 => Q s7) X.xe s6 :=
            fun {τ6 H6 Q} S6 k => gone_ok (S6.unsuite ok) hN hi hl k
          cases fl with
          | next =>
            obtain ⟨_, _, S6, q6⟩ := q
            exact leave S6 fun s7 J7 => ⟨_, _, J7, q6⟩
          | brk =>
            obtain ⟨_, _, S6, q6⟩ := q
            exact leave S6 fun s7 J7 => ⟨_, _, J7, q6⟩
          | cont =>
            obtain ⟨_, _, S6, q6⟩ := q
            exact leave S6 fun s7 J7 => ⟨_, _, J7, q6⟩
          | ret u =>
            obtain ⟨_, _, _, S6, r6, q6⟩ := q
            exact leave S6 fun s7 J7 => ⟨_, _, _, J7, r6, q6⟩
    exact all hh hW
  refine wpAny_Try_except (wpAny_mono ((hb _ _ xe1 catch_ PassesOwn.looking).run [] st σ H D (I.toTry _) hw) (fun fl s1 q => ?_) (fun e s1 he => he))
  cases fl with
  | next =>
    obtain ⟨_, _, I1, q1⟩ := q
    exact wpAny_execs_nil ⟨_, _, I1.ofTry ok, q1⟩
  | brk =>
    obtain ⟨_, _, I1, q1⟩ := q
    exact ⟨_, _, I1.ofTry ok, q1⟩
  | cont =>
    obtain ⟨_, _, I1, q1⟩ := q
    exact ⟨_, _, I1.ofTry ok, q1⟩
  | ret u =>
    obtain ⟨_, _, _, I1, r1, q1⟩ := q
    exact ⟨_, _, _, I1.ofTry ok, r1, q1⟩
end
end X3

/-! L3: a program's defs as plain functions over plain values. 1: values, what represents them, environments. -/
namespace L3
open PySem PySem.Spec PyProof.Rows L2
/-- a plain value: an instance is its class's number and its fields; scr: a list that is only read (the script) -/
inductive PV where
  | non | bl (b : Bool) | int (i : Int) | str (s : Str) | lst (l : List PV) | scr (l : List PV) | tup (l : List PV) | ins (c : Nat) (fs : List (Str × PV))
  deriving Inhabited
/-- the written part and where the classes stand -/
structure Gc where
  K : PySem.W.Frag
  CA : Nat → Addr
mutual
/-- v stands for the plain value, as the objects of H are -/
def Rep (G : Gc) (H : Hp) : PV → V → Prop
  | .non, v => v = .non
  | .bl b, v => v = .bl b
  | .int i, v => v = .int i
  | .str s, v => v = .str s
  | .lst l, v => ∃ a xs, v = .ref a ∧ H a = some (.lst xs) ∧ Reps G H l xs
  | .scr l, v => ∃ a xs, v = .ref a ∧ SqL G.K H a xs ∧ Reps G H l xs
  | .tup l, v => ∃ a xs, v = .ref a ∧ SqT G.K H a xs ∧ Reps G H l xs
  | .ins c fs, v => ∃ a dx vs, v = .ref a ∧ H a = some (.ins (G.CA c) dx vs) ∧ RepF G H fs vs
def Reps (G : Gc) (H : Hp) : List PV → List V → Prop
  | [], xs => xs = []
  | p :: ps, xs => ∃ x ys, xs = x :: ys ∧ Rep G H p x ∧ Reps G H ps ys
def RepF (G : Gc) (H : Hp) : List (Str × PV) → List (Str × V) → Prop
  | [], xs => xs = []
  | (f, p) :: ps, xs => ∃ x ys, xs = (f, x) :: ys ∧ Rep G H p x ∧ RepF G H ps ys
end
theorem Same.seqT {K : PySem.W.Frag} {H H' : Hp} {a : Addr} {xs : List V} (e : Same H H') (h : SqT K H a xs) : SqT K H' a xs := by
  rcases h with (h | ⟨o, h⟩) | h
  · exact .inl (.inl (e _ _ h))
  · exact .inl (.inr ⟨o, e _ _ h⟩)
  · exact .inr h
section
variable {G : Gc} {H H' : Hp}
mutual
theorem Rep.mono (e : Same H H') : ∀ {p : PV} {v : V}, Rep G H p v → Rep G H' p v
  | .non, _, h => by simpa only [Rep] using h
  | .bl _, _, h => by simpa only [Rep] using h
  | .int _, _, h => by simpa only [Rep] using h
  | .str _, _, h => by simpa only [Rep] using h
  | .lst l, v, h => by
    simp only [Rep] at h ⊢
    obtain ⟨a, xs, h1, h2, h3⟩ := h
    exact ⟨a, xs, h1, e _ _ h2, Reps.mono e h3⟩
  | .scr l, v, h => by
    simp only [Rep] at h ⊢
    obtain ⟨a, xs, h1, h2, h3⟩ := h
    exact ⟨a, xs, h1, e.seq h2, Reps.mono e h3⟩
  | .tup l, v, h => by
    simp only [Rep] at h ⊢
    obtain ⟨a, xs, h1, h2, h3⟩ := h
    exact ⟨a, xs, h1, Same.seqT e h2, Reps.mono e h3⟩
  | .ins c fs, v, h => by
    simp only [Rep] at h ⊢
    obtain ⟨a, dx, vs, h1, h2, h3⟩ := h
    exact ⟨a, dx, vs, h1, e _ _ h2, RepF.mono e h3⟩
theorem Reps.mono (e : Same H H') : ∀ {ps : List PV} {vs : List V}, Reps G H ps vs → Reps G H' ps vs
  | [], _, h => by simpa only [Reps] using h
  | p :: ps, vs, h => by
    simp only [Reps] at h ⊢
    obtain ⟨x, ys, h1, h2, h3⟩ := h
    exact ⟨x, ys, h1, Rep.mono e h2, Reps.mono e h3⟩
theorem RepF.mono (e : Same H H') : ∀ {ps : List (Str × PV)} {vs : List (Str × V)}, RepF G H ps vs → RepF G H' ps vs
  | [], _, h => by simpa only [RepF] using h
  | (f, p) :: ps, vs, h => by
    simp only [RepF] at h ⊢
    obtain ⟨x, ys, h1, h2, h3⟩ := h
    exact ⟨x, ys, h1, Rep.mono e h2, RepF.mono e h3⟩
end
theorem Reps.length : ∀ {ps : List PV} {vs : List V}, Reps G H ps vs → ps.length = vs.length
  | [], _, h => by simp only [Reps] at h; subst h; rfl
  | p :: ps, vs, h => by
    simp only [Reps] at h
    obtain ⟨x, ys, h1, _, h3⟩ := h
    subst h1
    simp only [List.length_cons, Reps.length h3]
theorem Reps.get : ∀ {ps : List PV} {vs : List V} {i : Nat} {p : PV}, Reps G H ps vs → ps[i]? = some p → ∃ v, vs[i]? = some v ∧ Rep G H p v
  | [], _, _, _, _, e => by simp at e
  | p :: ps, vs, 0, q, h, e => by
    simp only [Reps] at h
    obtain ⟨x, ys, h1, h2, _⟩ := h
    subst h1
    simp at e
    subst e
    exact ⟨x, rfl, h2⟩
  | p :: ps, vs, i + 1, q, h, e => by
    simp only [Reps] at h
    obtain ⟨x, ys, h1, _, h3⟩ := h
    subst h1
    obtain ⟨v, e1, e2⟩ := Reps.get (i := i) h3 (by simpa using e)
    exact ⟨v, by simpa using e1, e2⟩
theorem Reps.get_v : ∀ {ps : List PV} {vs : List V} {i : Nat} {v : V}, Reps G H ps vs → vs[i]? = some v → ∃ p, ps[i]? = some p ∧ Rep G H p v
  | [], _, _, _, h, e => by simp only [Reps] at h; subst h; simp at e
  | p :: ps, vs, 0, v, h, e => by
    simp only [Reps] at h
    obtain ⟨x, ys, h1, h2, _⟩ := h
    subst h1
    simp at e
    subst e
    exact ⟨p, rfl, h2⟩
  | p :: ps, vs, i + 1, v, h, e => by
    simp only [Reps] at h
    obtain ⟨x, ys, h1, _, h3⟩ := h
    subst h1
    obtain ⟨v, e1, e2⟩ := Reps.get_v (i := i) h3 (by simpa using e)
    exact ⟨v, by simpa using e1, e2⟩
theorem Reps.append : ∀ {ps qs : List PV} {vs ws : List V}, Reps G H ps vs → Reps G H qs ws → Reps G H (ps ++ qs) (vs ++ ws)
  | [], _, _, _, h, k => by simp only [Reps] at h; subst h; exact k
  | p :: ps, qs, vs, ws, h, k => by
    simp only [Reps] at h
    obtain ⟨x, ys, h1, h2, h3⟩ := h
    subst h1
    show Reps G H (p :: (ps ++ qs)) (x :: (ys ++ ws))
    simp only [Reps]
    exact ⟨x, _, rfl, h2, Reps.append h3 k⟩
theorem Reps.one {p : PV} {v : V} (h : Rep G H p v) : Reps G H [p] [v] := by
  simp only [Reps]
  exact ⟨v, [], rfl, h, rfl⟩
theorem Reps.cons {p : PV} {v : V} {ps : List PV} {vs : List V} (h : Rep G H p v) (k : Reps G H ps vs) : Reps G H (p :: ps) (v :: vs) := by
  simp only [Reps]
  exact ⟨v, vs, rfl, h, k⟩
theorem Reps.nil : Reps G H [] [] := by simp only [Reps]
theorem Reps.take : ∀ (n : Nat) {ps : List PV} {vs : List V}, Reps G H ps vs → Reps G H (ps.take n) (vs.take n)
  | 0, _, _, _ => by simp only [List.take_zero]; exact Reps.nil
  | n + 1, [], _, h => by simp only [Reps] at h; subst h; exact Reps.nil
  | n + 1, p :: ps, vs, h => by
    simp only [Reps] at h
    obtain ⟨x, ys, h1, h2, h3⟩ := h
    subst h1
    simp only [List.take_succ_cons]
    exact Reps.cons h2 (Reps.take n h3)
theorem Reps.drop : ∀ (n : Nat) {ps : List PV} {vs : List V}, Reps G H ps vs → Reps G H (ps.drop n) (vs.drop n)
  | 0, _, _, h => by simpa only [List.drop_zero] using h
  | n + 1, [], _, h => by simp only [Reps] at h; subst h; exact Reps.nil
  | n + 1, p :: ps, vs, h => by
    simp only [Reps] at h
    obtain ⟨x, ys, h1, h2, h3⟩ := h
    subst h1
    simp only [List.drop_succ_cons]
    exact Reps.drop n h3
theorem Reps.set : ∀ {ps : List PV} {vs : List V} (i : Nat) {p : PV} {v : V}, Reps G H ps vs → Rep G H p v → Reps G H (ps.set i p) (vs.set i v)
  | [], _, _, _, _, h, _ => by simp only [Reps] at h; subst h; simp only [List.set_nil]; exact Reps.nil
  | q :: ps, vs, 0, p, v, h, k => by
    simp only [Reps] at h
    obtain ⟨x, ys, h1, _, h3⟩ := h
    subst h1
    exact Reps.cons k h3
  | q :: ps, vs, i + 1, p, v, h, k => by
    simp only [Reps] at h
    obtain ⟨x, ys, h1, h2, h3⟩ := h
    subst h1
    exact Reps.cons h2 (Reps.set i h3 k)
theorem RepF.get : ∀ {ps : List (Str × PV)} {vs : List (Str × V)} {f : Str} {p : PV}, RepF G H ps vs → ps.lookup f = some p → ∃ v, vs.lookup f = some v ∧ Rep G H p v
  | [], _, _, _, _, e => by simp at e
  | (g, p) :: ps, vs, f, q, h, e => by
    simp only [RepF] at h
    obtain ⟨x, ys, h1, h2, h3⟩ := h
    subst h1
    by_cases c : (f == g) = true
    · simp only [List.lookup, c, Option.some.injEq] at e ⊢
      subst e
      exact ⟨x, rfl, h2⟩
    · have c' : (f == g) = false := by simpa using c
      simp only [List.lookup, c'] at e ⊢
      exact RepF.get h3 e
theorem RepF.none_of : ∀ {ps : List (Str × PV)} {vs : List (Str × V)} {f : Str}, RepF G H ps vs → ps.lookup f = none → vs.lookup f = none
  | [], _, _, h, _ => by simp only [RepF] at h; subst h; rfl
  | (g, p) :: ps, vs, f, h, e => by
    simp only [RepF] at h
    obtain ⟨x, ys, h1, h2, h3⟩ := h
    subst h1
    by_cases c : (f == g) = true
    · simp only [List.lookup, c] at e
      cases e
    · have c' : (f == g) = false := by simpa using c
      simp only [List.lookup, c'] at e ⊢
      exact RepF.none_of h3 e
theorem RepF.length : ∀ {ps : List (Str × PV)} {vs : List (Str × V)}, RepF G H ps vs → ps.length = vs.length
  | [], _, h => by simp only [RepF] at h; subst h; rfl
  | (_, p) :: ps, vs, h => by
    simp only [RepF] at h
    obtain ⟨x, ys, h1, _, h3⟩ := h
    subst h1
    simp only [List.length_cons, RepF.length h3]
end
/-! ### owned values: lists and instances that the def alone holds, and may change -/
inductive OV where
  | sh (p : PV) | own (l : List OV) | obj (c : Nat) (fs : List (Str × OV))
  deriving Inhabited
mutual
def OV.pv : OV → PV
  | .sh p => p
  | .own l => .lst (OV.pvs l)
  | .obj c fs => .ins c (OV.pvf fs)
def OV.pvs : List OV → List PV
  | [] => []
  | o :: l => o.pv :: OV.pvs l
def OV.pvf : List (Str × OV) → List (Str × PV)
  | [] => []
  | (f, o) :: l => (f, o.pv) :: OV.pvf l
end
mutual
/-- v stands for o; F: the places of what is owned -/
def OwnR (G : Gc) (H₀ H : Hp) : OV → V → List Addr → Prop
  | .sh p, v, F => Rep G H₀ p v ∧ F = []
  | .own l, v, F => ∃ a xs F', v = .ref a ∧ F = a :: F' ∧ H a = some (.lst xs) ∧ OwnRs G H₀ H l xs F'
  | .obj c fs, v, F => ∃ a dx vs F', v = .ref a ∧ F = a :: F' ∧ H a = some (.ins (G.CA c) dx vs) ∧ OwnRf G H₀ H fs vs F'
def OwnRs (G : Gc) (H₀ H : Hp) : List OV → List V → List Addr → Prop
  | [], xs, F => xs = [] ∧ F = []
  | o :: l, xs, F => ∃ x ys F1 F2, xs = x :: ys ∧ F = F1 ++ F2 ∧ OwnR G H₀ H o x F1 ∧ OwnRs G H₀ H l ys F2
def OwnRf (G : Gc) (H₀ H : Hp) : List (Str × OV) → List (Str × V) → List Addr → Prop
  | [], xs, F => xs = [] ∧ F = []
  | (f, o) :: l, xs, F => ∃ x ys F1 F2, xs = (f, x) :: ys ∧ F = F1 ++ F2 ∧ OwnR G H₀ H o x F1 ∧ OwnRf G H₀ H l ys F2
end
/-- the heap of what a def may read: what is frozen, and what it owns -/
def vw (H₀ H : Hp) (F : List Addr) : Hp := fun a => if a ∈ F then H a else H₀ a
section
variable {G : Gc} {H₀ H H₀' H' : Hp} {F : List Addr}
theorem same_vw (h : ∀ a ∈ F, H₀ a = none) : Same H₀ (vw H₀ H F) := fun a o e => by
  unfold vw
  rw [if_neg fun z => by rw [h a z] at e; cases e]
  exact e
theorem vw_same (z : Same H₀ H) : Same (vw H₀ H F) H := fun a o e => by
  unfold vw at e
  split at e
  · exact e
  · exact z a o e
mutual
/-- what is owned stands where it stood, if its places do -/
theorem OwnR.mono (e0 : Same H₀ H₀') : ∀ {o : OV} {v : V} {F : List Addr}, (∀ a ∈ F, H' a = H a) → OwnR G H₀ H o v F → OwnR G H₀' H' o v F
  | .sh p, v, F, _, h => by
    simp only [OwnR] at h ⊢
    exact ⟨Rep.mono e0 h.1, h.2⟩
  | .own l, v, F, k, h => by
    simp only [OwnR] at h ⊢
    obtain ⟨a, xs, F', h1, h2, h3, h4⟩ := h
    subst h2
    exact ⟨a, xs, F', h1, rfl, by rw [k a List.mem_cons_self]; exact h3, OwnRs.mono e0 (fun b hb => k b (List.mem_cons_of_mem _ hb)) h4⟩
  | .obj c fs, v, F, k, h => by
    simp only [OwnR] at h ⊢
    obtain ⟨a, dx, vs, F', h1, h2, h3, h4⟩ := h
    subst h2
    exact ⟨a, dx, vs, F', h1, rfl, by rw [k a List.mem_cons_self]; exact h3, OwnRf.mono e0 (fun b hb => k b (List.mem_cons_of_mem _ hb)) h4⟩
theorem OwnRs.mono (e0 : Same H₀ H₀') : ∀ {l : List OV} {xs : List V} {F : List Addr}, (∀ a ∈ F, H' a = H a) → OwnRs G H₀ H l xs F → OwnRs G H₀' H' l xs F
  | [], xs, F, _, h => by simpa only [OwnRs] using h
  | o :: l, xs, F, k, h => by
    simp only [OwnRs] at h ⊢
    obtain ⟨x, ys, F1, F2, h1, h2, h3, h4⟩ := h
    subst h2
    exact ⟨x, ys, F1, F2, h1, rfl, OwnR.mono e0 (fun b hb => k b (List.mem_append_left _ hb)) h3, OwnRs.mono e0 (fun b hb => k b (List.mem_append_right _ hb)) h4⟩
theorem OwnRf.mono (e0 : Same H₀ H₀') : ∀ {l : List (Str × OV)} {xs : List (Str × V)} {F : List Addr}, (∀ a ∈ F, H' a = H a) → OwnRf G H₀ H l xs F → OwnRf G H₀' H' l xs F
  | [], xs, F, _, h => by simpa only [OwnRf] using h
  | (f, o) :: l, xs, F, k, h => by
    simp only [OwnRf] at h ⊢
    obtain ⟨x, ys, F1, F2, h1, h2, h3, h4⟩ := h
    subst h2
    exact ⟨x, ys, F1, F2, h1, rfl, OwnR.mono e0 (fun b hb => k b (List.mem_append_left _ hb)) h3, OwnRf.mono e0 (fun b hb => k b (List.mem_append_right _ hb)) h4⟩
end
mutual
/-- an owned value's objects, read -/
theorem OwnR.rep {Hv : Hp} (e0 : Same H₀ Hv) : ∀ {o : OV} {v : V} {F : List Addr}, (∀ a ∈ F, Hv a = H a) → OwnR G H₀ H o v F → Rep G Hv o.pv v
  | .sh p, v, F, _, h => by
    simp only [OwnR] at h
    simp only [OV.pv]
    exact Rep.mono e0 h.1
  | .own l, v, F, k, h => by
    simp only [OwnR] at h
    simp only [OV.pv, Rep]
    obtain ⟨a, xs, F', h1, h2, h3, h4⟩ := h
    subst h2
    exact ⟨a, xs, h1, by rw [k a List.mem_cons_self]; exact h3, OwnRs.rep e0 (fun b hb => k b (List.mem_cons_of_mem _ hb)) h4⟩
  | .obj c fs, v, F, k, h => by
    simp only [OwnR] at h
    simp only [OV.pv, Rep]
    obtain ⟨a, dx, vs, F', h1, h2, h3, h4⟩ := h
    subst h2
    exact ⟨a, dx, vs, h1, by rw [k a List.mem_cons_self]; exact h3, OwnRf.rep e0 (fun b hb => k b (List.mem_cons_of_mem _ hb)) h4⟩
theorem OwnRs.rep {Hv : Hp} (e0 : Same H₀ Hv) : ∀ {l : List OV} {xs : List V} {F : List Addr}, (∀ a ∈ F, Hv a = H a) → OwnRs G H₀ H l xs F → Reps G Hv (OV.pvs l) xs
  | [], xs, F, _, h => by
    simp only [OwnRs] at h
    simp only [OV.pvs, Reps]
    exact h.1
  | o :: l, xs, F, k, h => by
    simp only [OwnRs] at h
    simp only [OV.pvs, Reps]
    obtain ⟨x, ys, F1, F2, h1, h2, h3, h4⟩ := h
    subst h2
    exact ⟨x, ys, h1, OwnR.rep e0 (fun b hb => k b (List.mem_append_left _ hb)) h3, OwnRs.rep e0 (fun b hb => k b (List.mem_append_right _ hb)) h4⟩
theorem OwnRf.rep {Hv : Hp} (e0 : Same H₀ Hv) : ∀ {l : List (Str × OV)} {xs : List (Str × V)} {F : List Addr}, (∀ a ∈ F, Hv a = H a) → OwnRf G H₀ H l xs F → RepF G Hv (OV.pvf l) xs
  | [], xs, F, _, h => by
    simp only [OwnRf] at h
    simp only [OV.pvf, RepF]
    exact h.1
  | (f, o) :: l, xs, F, k, h => by
    simp only [OwnRf] at h
    simp only [OV.pvf, RepF]
    obtain ⟨x, ys, F1, F2, h1, h2, h3, h4⟩ := h
    subst h2
    exact ⟨x, ys, h1, OwnR.rep e0 (fun b hb => k b (List.mem_append_left _ hb)) h3, OwnRf.rep e0 (fun b hb => k b (List.mem_append_right _ hb)) h4⟩
end
mutual
/-- the places stand in the heap -/
theorem OwnR.there : ∀ {o : OV} {v : V} {F : List Addr}, OwnR G H₀ H o v F → ∀ a ∈ F, ∃ u, H a = some u
  | .sh p, v, F, h, a, ha => by
    simp only [OwnR] at h
    rw [h.2] at ha
    cases ha
  | .own l, v, F, h, a, ha => by
    simp only [OwnR] at h
    obtain ⟨b, xs, F', h1, h2, h3, h4⟩ := h
    subst h2
    rcases List.mem_cons.mp ha with e | ha
    · rw [e]
      exact ⟨_, h3⟩
    · exact OwnRs.there h4 a ha
  | .obj c fs, v, F, h, a, ha => by
    simp only [OwnR] at h
    obtain ⟨b, dx, vs, F', h1, h2, h3, h4⟩ := h
    subst h2
    rcases List.mem_cons.mp ha with e | ha
    · rw [e]
      exact ⟨_, h3⟩
    · exact OwnRf.there h4 a ha
theorem OwnRs.there : ∀ {l : List OV} {xs : List V} {F : List Addr}, OwnRs G H₀ H l xs F → ∀ a ∈ F, ∃ u, H a = some u
  | [], xs, F, h, a, ha => by
    simp only [OwnRs] at h
    rw [h.2] at ha
    cases ha
  | o :: l, xs, F, h, a, ha => by
    simp only [OwnRs] at h
    obtain ⟨x, ys, F1, F2, h1, h2, h3, h4⟩ := h
    subst h2
    rcases List.mem_append.mp ha with ha | ha
    · exact OwnR.there h3 a ha
    · exact OwnRs.there h4 a ha
theorem OwnRf.there : ∀ {l : List (Str × OV)} {xs : List (Str × V)} {F : List Addr}, OwnRf G H₀ H l xs F → ∀ a ∈ F, ∃ u, H a = some u
  | [], xs, F, h, a, ha => by
    simp only [OwnRf] at h
    rw [h.2] at ha
    cases ha
  | (f, o) :: l, xs, F, h, a, ha => by
    simp only [OwnRf] at h
    obtain ⟨x, ys, F1, F2, h1, h2, h3, h4⟩ := h
    subst h2
    rcases List.mem_append.mp ha with ha | ha
    · exact OwnR.there h3 a ha
    · exact OwnRf.there h4 a ha
end
end
/-! ### environments -/
abbrev Env := List (Option OV)
def EnvR (G : Gc) (H₀ H : Hp) : Env → L2.St → List Addr → Prop
  | [], σ, F => σ = [] ∧ F = []
  | none :: ρ, σ, F => ∃ x τ, σ = x :: τ ∧ EnvR G H₀ H ρ τ F
  | some o :: ρ, σ, F => ∃ v τ F1 F2, σ = some v :: τ ∧ F = F1 ++ F2 ∧ OwnR G H₀ H o v F1 ∧ EnvR G H₀ H ρ τ F2
/-- a def's run: He what of the heap at its entry is to stay, Hz what was frozen there; fx: a slot that is to hold its value all along (self of an __init__, the exception of a suite); Hx: where that exception is seen -/
structure Fc where
  G : Gc
  He : Hp
  Hz : Hp
  fx : Option (Nat × V)
  Hx : Hp
/-- the state of a def's run: H₀ what is frozen now, F what it owns -/
structure SR (C : Fc) (H₀ : Hp) (F : List Addr) (ρ : Env) (σ : L2.St) (H : Hp) : Prop where
  e : Same C.He H
  z : Same H₀ H
  n : ∀ a, C.He a ≠ none → H₀ a = C.Hz a
  hz : Same C.Hz H₀
  env : EnvR C.G H₀ H ρ σ F
  nd : F.Nodup
  fr : ∀ a ∈ F, C.He a = none ∧ H₀ a = none
  fx : ∀ i v, C.fx = some (i, v) → σ[i]? = some (some v)
  hx : Same C.Hx H₀
/-- from one heap to a later one: nothing that stood is changed, what is frozen besides is new -/
structure Ext (H₀ H H₀' H' : Hp) : Prop where
  s : Same H H'
  s0 : Same H₀ H₀'
  z : Same H₀' H'
  n : ∀ a, H a ≠ none → H₀' a = H₀ a
theorem Ext.refl {H₀ H : Hp} (z : Same H₀ H) : Ext H₀ H H₀ H := ⟨Same.refl _, Same.refl _, z, fun _ _ => rfl⟩
theorem ne_none_of {H : Hp} {a : Addr} {o : HO} (h : H a = some o) : H a ≠ none := by rw [h]; exact fun z => nomatch z
theorem same_nn {H H' : Hp} (s : Same H H') {a : Addr} (h : H a ≠ none) : H' a ≠ none := by
  cases e : H a with
  | none => exact absurd e h
  | some o => rw [s a o e]; exact fun z => nomatch z
theorem Ext.trans {H₀ H H₁ H' H₂ H'' : Hp} (a : Ext H₀ H H₁ H') (b : Ext H₁ H' H₂ H'') : Ext H₀ H H₂ H'' :=
  ⟨a.s.trans b.s, a.s0.trans b.s0, b.z, fun c h => (b.n c (same_nn a.s h)).trans (a.n c h)⟩
section
variable {C : Fc} {G : Gc} {H₀ H₀' H H' : Hp} {F : List Addr} {ρ : Env} {σ : L2.St}
theorem EnvR.mono (e0 : Same H₀ H₀') : ∀ {ρ : Env} {σ : L2.St} {F : List Addr}, (∀ a ∈ F, H' a = H a) → EnvR G H₀ H ρ σ F → EnvR G H₀' H' ρ σ F
  | [], σ, F, _, h => h
  | none :: ρ, σ, F, k, h => by
    obtain ⟨x, τ, h1, h2⟩ := h
    exact ⟨x, τ, h1, EnvR.mono e0 k h2⟩
  | some o :: ρ, σ, F, k, h => by
    obtain ⟨v, τ, F1, F2, h1, h2, h3, h4⟩ := h
    subst h2
    exact ⟨v, τ, F1, F2, h1, rfl, OwnR.mono e0 (fun b hb => k b (List.mem_append_left _ hb)) h3, EnvR.mono e0 (fun b hb => k b (List.mem_append_right _ hb)) h4⟩
theorem EnvR.there : ∀ {ρ : Env} {σ : L2.St} {F : List Addr}, EnvR G H₀ H ρ σ F → ∀ a ∈ F, ∃ u, H a = some u
  | [], σ, F, h, a, ha => by rw [h.2] at ha; cases ha
  | none :: ρ, σ, F, h, a, ha => by
    obtain ⟨x, τ, h1, h2⟩ := h
    exact EnvR.there h2 a ha
  | some o :: ρ, σ, F, h, a, ha => by
    obtain ⟨v, τ, F1, F2, h1, h2, h3, h4⟩ := h
    subst h2
    rcases List.mem_append.mp ha with ha | ha
    · exact OwnR.there h3 a ha
    · exact EnvR.there h4 a ha
theorem SR.ext (S : SR C H₀ F ρ σ H) (E : Ext H₀ H H₀' H') : SR C H₀' F ρ σ H' := by
  have th := S.env.there
  refine ⟨S.e.trans E.s, E.z, fun a h => (E.n a (same_nn S.e h)).trans (S.n a h), S.hz.trans E.s0, EnvR.mono E.s0 (fun a ha => ?_) S.env, S.nd, fun a ha => ⟨(S.fr a ha).1, ?_⟩, S.fx, S.hx.trans E.s0⟩
  · obtain ⟨u, e⟩ := th a ha
    rw [e, E.s a u e]
  · obtain ⟨u, e⟩ := th a ha
    rw [E.n a (ne_none_of e)]
    exact (S.fr a ha).2
theorem SR.vz (S : SR C H₀ F ρ σ H) : Same H₀ (vw H₀ H F) := same_vw fun a ha => (S.fr a ha).2
theorem SR.vext (S : SR C H₀ F ρ σ H) (E : Ext H₀ H H₀' H') : Same (vw H₀ H F) (vw H₀' H' F) := fun a o e => by
  unfold vw at e ⊢
  by_cases ha : a ∈ F
  · rw [if_pos ha] at e ⊢
    exact E.s a o e
  · rw [if_neg ha] at e ⊢
    exact E.s0 a o e
/-- a slot's value -/
theorem EnvR.get : ∀ {ρ : Env} {σ : L2.St} {F : List Addr} {i : Nat} {o : OV}, EnvR G H₀ H ρ σ F → ρ[i]? = some (some o) → ∃ v F1, σ[i]? = some (some v) ∧ OwnR G H₀ H o v F1 ∧ ∀ a ∈ F1, a ∈ F
  | [], σ, F, i, o, h, e => by simp at e
  | none :: ρ, σ, F, 0, o, h, e => by simp at e
  | none :: ρ, σ, F, i + 1, o, h, e => by
    obtain ⟨x, τ, h1, h2⟩ := h
    obtain ⟨v, F1, e1, e2, e3⟩ := EnvR.get (i := i) h2 (by simpa using e)
    subst h1
    exact ⟨v, F1, by simpa using e1, e2, e3⟩
  | some o' :: ρ, σ, F, 0, o, h, e => by
    obtain ⟨v, τ, F1, F2, h1, h2, h3, h4⟩ := h
    subst h1 h2
    simp at e
    subst e
    exact ⟨v, F1, rfl, h3, fun a ha => List.mem_append_left _ ha⟩
  | some o' :: ρ, σ, F, i + 1, o, h, e => by
    obtain ⟨v, τ, F1, F2, h1, h2, h3, h4⟩ := h
    subst h1 h2
    obtain ⟨w, F3, e1, e2, e3⟩ := EnvR.get (i := i) h4 (by simpa using e)
    exact ⟨w, F3, by simpa using e1, e2, fun a ha => List.mem_append_right _ (e3 a ha)⟩
theorem EnvR.length : ∀ {ρ : Env} {σ : L2.St} {F : List Addr}, EnvR G H₀ H ρ σ F → ρ.length = σ.length
  | [], σ, F, h => by rw [h.1]; rfl
  | none :: ρ, σ, F, h => by
    obtain ⟨x, τ, h1, h2⟩ := h
    subst h1
    simp only [List.length_cons, EnvR.length h2]
  | some o :: ρ, σ, F, h => by
    obtain ⟨v, τ, F1, F2, h1, h2, h3, h4⟩ := h
    subst h1
    simp only [List.length_cons, EnvR.length h4]
/-- a slot gets a new value: its old places are given up -/
theorem EnvR.put : ∀ {ρ : Env} {σ : L2.St} {F : List Addr} (i : Nat) {o : OV} {v : V} {Fv : List Addr}, EnvR G H₀ H ρ σ F → OwnR G H₀ H o v Fv → F.Nodup → Fv.Nodup → (∀ a ∈ Fv, a ∉ F) →
    ∃ F', EnvR G H₀ H (ρ.set i (some o)) (σ.set i (some v)) F' ∧ F'.Nodup ∧ ∀ a ∈ F', a ∈ F ∨ a ∈ Fv
  | [], σ, F, i, o, v, Fv, h, r, nd, ndv, ap => by
    obtain ⟨h1, h2⟩ := h
    subst h1 h2
    exact ⟨[], ⟨by simp, rfl⟩, List.nodup_nil, fun a ha => by cases ha⟩
  | none :: ρ, σ, F, 0, o, v, Fv, h, r, nd, ndv, ap => by
    obtain ⟨x, τ, h1, h2⟩ := h
    subst h1
    exact ⟨Fv ++ F, ⟨v, τ, Fv, F, rfl, rfl, r, h2⟩, List.nodup_append.mpr ⟨ndv, nd, fun a ha b hb e => ap a ha (e ▸ hb)⟩, fun a ha => (List.mem_append.mp ha).symm⟩
  | some o' :: ρ, σ, F, 0, o, v, Fv, h, r, nd, ndv, ap => by
    obtain ⟨w, τ, F1, F2, h1, h2, h3, h4⟩ := h
    subst h1 h2
    have n2 := (List.nodup_append.mp nd).2.1
    exact ⟨Fv ++ F2, ⟨v, τ, Fv, F2, rfl, rfl, r, h4⟩, List.nodup_append.mpr ⟨ndv, n2, fun a ha b hb e => ap a ha (List.mem_append_right _ (e ▸ hb))⟩,
      fun a ha => (List.mem_append.mp ha).elim .inr fun z => .inl (List.mem_append_right _ z)⟩
  | none :: ρ, σ, F, i + 1, o, v, Fv, h, r, nd, ndv, ap => by
    obtain ⟨x, τ, h1, h2⟩ := h
    subst h1
    obtain ⟨F', e1, e2, e3⟩ := EnvR.put i h2 r nd ndv ap
    exact ⟨F', ⟨x, _, rfl, e1⟩, e2, e3⟩
  | some o' :: ρ, σ, F, i + 1, o, v, Fv, h, r, nd, ndv, ap => by
    obtain ⟨w, τ, F1, F2, h1, h2, h3, h4⟩ := h
    subst h1 h2
    obtain ⟨m1, m2, m3⟩ := List.nodup_append.mp nd
    obtain ⟨F', e1, e2, e3⟩ := EnvR.put i h4 r m2 ndv fun a ha z => ap a ha (List.mem_append_right _ z)
    refine ⟨F1 ++ F', ⟨w, _, F1, F', rfl, rfl, h3, e1⟩, List.nodup_append.mpr ⟨m1, e2, fun a ha b hb e => ?_⟩, fun a ha => ?_⟩
    · subst e
      rcases e3 a hb with z | z
      · exact m3 a ha a z rfl
      · exact ap a z (List.mem_append_left _ ha)
    · rcases List.mem_append.mp ha with z | z
      · exact .inl (List.mem_append_left _ z)
      · exact (e3 a z).imp (List.mem_append_right _) id
/-- a slot is forgotten -/
theorem EnvR.drop : ∀ {ρ : Env} {σ : L2.St} {F : List Addr} (i : Nat), EnvR G H₀ H ρ σ F → F.Nodup → ∃ F', EnvR G H₀ H (ρ.set i none) σ F' ∧ F'.Nodup ∧ ∀ a ∈ F', a ∈ F
  | [], σ, F, i, h, nd => ⟨F, by simpa using h, nd, fun _ ha => ha⟩
  | none :: ρ, σ, F, 0, h, nd => ⟨F, h, nd, fun _ ha => ha⟩
  | some o' :: ρ, σ, F, 0, h, nd => by
    obtain ⟨w, τ, F1, F2, h1, h2, h3, h4⟩ := h
    subst h2
    exact ⟨F2, ⟨_, τ, h1, h4⟩, (List.nodup_append.mp nd).2.1, fun a ha => List.mem_append_right _ ha⟩
  | none :: ρ, σ, F, i + 1, h, nd => by
    obtain ⟨x, τ, h1, h2⟩ := h
    obtain ⟨F', e1, e2, e3⟩ := EnvR.drop i h2 nd
    exact ⟨F', ⟨x, τ, h1, e1⟩, e2, e3⟩
  | some o' :: ρ, σ, F, i + 1, h, nd => by
    obtain ⟨w, τ, F1, F2, h1, h2, h3, h4⟩ := h
    subst h2
    obtain ⟨m1, m2, m3⟩ := List.nodup_append.mp nd
    obtain ⟨F', e1, e2, e3⟩ := EnvR.drop i h4 m2
    refine ⟨F1 ++ F', ⟨w, τ, F1, F', h1, rfl, h3, e1⟩, List.nodup_append.mpr ⟨m1, e2, fun a ha b hb e => m3 a ha b (e3 b hb) e⟩, fun a ha => ?_⟩
    rcases List.mem_append.mp ha with z | z
    · exact List.mem_append_left _ z
    · exact List.mem_append_right _ (e3 a z)
/-- a slot that is not known may hold anything -/
theorem EnvR.any : ∀ {ρ : Env} {σ : L2.St} {F : List Addr} (i : Nat) (x : Option V), EnvR G H₀ H ρ σ F → ρ[i]? = some none → EnvR G H₀ H ρ (σ.set i x) F
  | [], σ, F, i, x, h, e => by simp at e
  | none :: ρ, σ, F, 0, x, h, e => by
    obtain ⟨y, τ, h1, h2⟩ := h
    subst h1
    exact ⟨x, τ, rfl, h2⟩
  | some o' :: ρ, σ, F, 0, x, h, e => by simp at e
  | none :: ρ, σ, F, i + 1, x, h, e => by
    obtain ⟨y, τ, h1, h2⟩ := h
    subst h1
    exact ⟨y, _, rfl, EnvR.any i x h2 (by simpa using e)⟩
  | some o' :: ρ, σ, F, i + 1, x, h, e => by
    obtain ⟨w, τ, F1, F2, h1, h2, h3, h4⟩ := h
    subst h1 h2
    exact ⟨w, _, F1, F2, rfl, rfl, h3, EnvR.any i x h4 (by simpa using e)⟩
end
end L3

/-! L3. 2: outcomes, judgements, expressions -/
namespace L3
open PySem PySem.Spec PyProof.Rows L2
/-- an exception: its class's number, its fields -/
structure PX where
  c : Nat
  fs : List (Str × PV)
  deriving Inhabited
/-- a value, an exception, or: nothing is said -/
inductive R (α : Type) where
  | ok (a : α) | er (x : PX) | no
  deriving Inhabited
def R.bind {α β : Type} : R α → (α → R β) → R β
  | .ok a, f => f a
  | .er x, _ => .er x
  | .no, _ => .no
@[simp] theorem R.bind_ok {α β : Type} (a : α) (f : α → R β) : (R.ok a).bind f = f a := rfl
@[simp] theorem R.bind_er {α β : Type} (x : PX) (f : α → R β) : (R.er x).bind f = .er x := rfl
@[simp] theorem R.bind_no {α β : Type} (f : α → R β) : (R.no).bind f = .no := rfl
/-- of an option: nothing is said where there is none -/
def R.of {α : Type} : Option α → R α
  | some a => .ok a
  | none => .no
@[simp] theorem R.of_some {α : Type} (a : α) : R.of (some a) = .ok a := rfl
@[simp] theorem R.of_none {α : Type} : R.of (none : Option α) = .no := rfl
def RepX (G : Gc) (H : Hp) (x : PX) (cls : Value) (d : Option Addr) : Prop :=
  cls = .ref (G.CA x.c) ∧ ((x.fs = [] ∧ d = none) ∨ ∃ dd vs, d = some dd ∧ H dd = some (.xd vs) ∧ RepF G H x.fs vs)
/-- what an expression's value is seen in: what is frozen, or all that the def may read -/
def md (m : Bool) (H₀ H : Hp) (F : List Addr) : Hp := if m then H₀ else vw H₀ H F
section
variable {G : Gc} {m : Bool} {H₀ H H₀' H' : Hp} {F : List Addr} {p : Addr} {o : HO}
theorem md_H (z : Same H₀ H) : Same (md m H₀ H F) H := by
  unfold md
  cases m with
  | true => exact z
  | false => exact vw_same z
theorem z_md (fr : ∀ a ∈ F, H₀ a = none) : Same H₀ (md m H₀ H F) := by
  unfold md
  cases m with
  | true => exact Same.refl _
  | false => exact same_vw fr
theorem md_ext (E : Ext H₀ H H₀' H') : Same (md m H₀ H F) (md m H₀' H' F) := by
  unfold md
  cases m with
  | true => exact E.s0
  | false =>
    intro a o e
    change vw H₀ H F a = some o at e
    change vw H₀' H' F a = some o
    unfold vw at e ⊢
    by_cases ha : a ∈ F
    · rw [if_pos ha] at e ⊢
      exact E.s a o e
    · rw [if_neg ha] at e ⊢
      exact E.s0 a o e
theorem ext_new (z : Same H₀ H) (h : H p = none) : Ext H₀ H (upd H₀ p o) (upd H p o) := by
  have ne : ∀ b u, H b = some u → b ≠ p := fun b u e q => by rw [q, h] at e; cases e
  have ne0 : ∀ b u, H₀ b = some u → b ≠ p := fun b u e => ne b u (z b u e)
  refine ⟨fun b u e => by rw [upd_ne (ne b u e)]; exact e, fun b u e => by rw [upd_ne (ne0 b u e)]; exact e, fun b u e => ?_, fun b hb => ?_⟩
  · by_cases q : b = p
    · subst q
      rw [upd_same] at e ⊢
      exact e
    · rw [upd_ne q] at e ⊢
      exact z b u e
  · rw [upd_ne fun q => hb (by rw [q]; exact h)]
theorem md_new : md m (upd H₀ p o) (upd H p o) F p = some o := by
  unfold md
  cases m with
  | true => exact upd_same
  | false =>
    change vw _ _ F p = some o
    unfold vw
    by_cases hp : p ∈ F
    · rw [if_pos hp]; exact upd_same
    · rw [if_neg hp]; exact upd_same
end
/-! ### judgements -/
section
variable (C : Fc) (W : WX) (m : Bool)
/-- the transformer of an expression by its plain function -/
def tE (f : Env → R PV) : TE := fun σ H Q => ∃ H₀ F ρ, SR C H₀ F ρ σ H ∧ (match f ρ with
  | .ok p => ∀ v H' H₀', Ext H₀ H H₀' H' → Rep C.G (md m H₀' H' F) p v → Q v H'
  | .er x => ∀ cls d H' H₀', Ext H₀ H H₀' H' → RepX C.G H₀' x cls d → W cls d σ H'
  | .no => False)
def tTt (f : Env → R Bool) : TT := fun σ H Q => ∃ H₀ F ρ, SR C H₀ F ρ σ H ∧ (match f ρ with
  | .ok b => ∀ H' H₀', Ext H₀ H H₀' H' → Q b H'
  | .er x => ∀ cls d H' H₀', Ext H₀ H H₀' H' → RepX C.G H₀' x cls d → W cls d σ H'
  | .no => False)
def tAs (f : Env → R (List PV)) : TA := fun σ H Q => ∃ H₀ F ρ, SR C H₀ F ρ σ H ∧ (match f ρ with
  | .ok ps => ∀ vs H' H₀', Ext H₀ H H₀' H' → Reps C.G (md m H₀' H' F) ps vs → Q vs H'
  | .er x => ∀ cls d H' H₀', Ext H₀ H H₀' H' → RepX C.G H₀' x cls d → W cls d σ H'
  | .no => False)
/-- a new value that nothing else holds -/
def tF (f : Env → R OV) : TE := fun σ H Q => ∃ H₀ F ρ, SR C H₀ F ρ σ H ∧ (match f ρ with
  | .ok o => ∀ v H' H₀' Fv, Ext H₀ H H₀' H' → OwnR C.G H₀' H' o v Fv → Fv.Nodup → (∀ a ∈ Fv, H a = none ∧ H₀' a = none) → Q v H'
  | .er x => ∀ cls d H' H₀', Ext H₀ H H₀' H' → RepX C.G H₀' x cls d → W cls d σ H'
  | .no => False)
abbrev QE (X : Cx) (e : Expr) (f : Env → R PV) : Prop := PE X e (tE C W m f)
abbrev QT (X : Cx) (e : Expr) (f : Env → R Bool) : Prop := PT X e (tTt C W f)
abbrev QA (X : Cx) (es : List Expr) (f : Env → R (List PV)) : Prop := PA X es (tAs C W m f)
abbrev QF (X : Cx) (e : Expr) (f : Env → R OV) : Prop := PE X e (tF C W f)
end
theorem PE.imp {X : Cx} {e : Expr} {t t' : TE} (h : PE X e t) (k : ∀ σ H Q, t' σ H Q → t σ H Q) : PE X e t' := ⟨fun pins s σ H Q I q => h.run pins s σ H Q I (k _ _ _ q)⟩
theorem PT.imp {X : Cx} {e : Expr} {t t' : TT} (h : PT X e t) (k : ∀ σ H Q, t' σ H Q → t σ H Q) : PT X e t' := ⟨fun pins s σ H Q I q => h.run pins s σ H Q I (k _ _ _ q)⟩
theorem PW.imp {X : Cx} {e : Expr} {t t' : TT} (h : PW X e t) (k : ∀ σ H Q, t' σ H Q → t σ H Q) : PW X e t' := ⟨fun w pins s σ H Q I q => h.run w pins s σ H Q I (k _ _ _ q)⟩
theorem PA.imp {X : Cx} {es : List Expr} {t t' : TA} (h : PA X es t) (k : ∀ σ H Q, t' σ H Q → t σ H Q) : PA X es t' := ⟨fun pos pins s σ H Q I q => h.run pos pins s σ H Q I (k _ _ _ q)⟩
theorem PS.imp {X : Cx} {st : Stmt} {t t' : TS} (h : PS X st t) (k : ∀ D σ H, t' D σ H → t D σ H) : PS X st t' := ⟨fun pins s σ H D I q => h.run pins s σ H D I (k _ _ _ q)⟩
theorem PSs.imp {X : Cx} {st : List Stmt} {t t' : TS} (h : PSs X st t) (k : ∀ D σ H, t' D σ H → t D σ H) : PSs X st t' := ⟨fun pins s σ H D I q => h.run pins s σ H D I (k _ _ _ q)⟩
section
variable {C : Fc} {W : WX} {m : Bool} {X : Cx} {a b c : Expr} {pos : Pos} {σ : L2.St} {H : Hp}
/-! binding: one expression after another -/
theorem tE_bind {f : Env → R PV} {Q : VK} {g : Env → PV → R PV} {β : Prop} (h : ∃ H₀ F ρ, SR C H₀ F ρ σ H ∧
    (match f ρ with
    | .ok p => ∀ v H' H₀', Ext H₀ H H₀' H' → SR C H₀' F ρ σ H' → Rep C.G (md m H₀' H' F) p v → Q v H'
    | .er x => ∀ cls d H' H₀', Ext H₀ H H₀' H' → RepX C.G H₀' x cls d → W cls d σ H'
    | .no => False)) : tE C W m f σ H Q := by
  obtain ⟨H₀, F, ρ, S, h⟩ := h
  refine ⟨H₀, F, ρ, S, ?_⟩
  cases e : f ρ with
  | ok p =>
    rw [e] at h
    exact fun v H' H₀' E r => h v H' H₀' E (S.ext E) r
  | er x =>
    rw [e] at h
    exact h
  | no =>
    rw [e] at h
    exact h
/-- the outcome of f, gone on with by k -/
def Goes (Γ : Gc) (W : WX) {α : Type} (r : R α) (σ : L2.St) (H H₀ : Hp) (k : α → Prop) : Prop := match r with
  | .ok p => k p
  | .er x => ∀ cls d H' H₀', Ext H₀ H H₀' H' → RepX Γ H₀' x cls d → W cls d σ H'
  | .no => False
theorem Goes.bind {α β : Type} {r : R α} {g : α → R β} {H₀ : Hp} {k : β → Prop} : Goes C.G W (r.bind g) σ H H₀ k = Goes C.G W r σ H H₀ fun p => Goes C.G W (g p) σ H H₀ k := by
  cases r <;> rfl
theorem Goes.imp {α : Type} {r : R α} {H₀ : Hp} {k k' : α → Prop} (h : Goes C.G W r σ H H₀ k) (i : ∀ p, r = .ok p → k p → k' p) : Goes C.G W r σ H H₀ k' := by
  cases r with
  | ok p => exact i p rfl h
  | er x => exact h
  | no => exact h
theorem Goes.later {α : Type} {r : R α} {H₀ H' H₀' : Hp} {k : α → Prop} (E : Ext H₀ H H₀' H') (h : Goes C.G W r σ H H₀ k) : Goes C.G W r σ H' H₀' k := by
  cases r with
  | ok p => exact h
  | er x => exact fun cls d H2 H3 E2 => h cls d H2 H3 (E.trans E2)
  | no => exact h
theorem tE_iff {f : Env → R PV} {Q : VK} : tE C W m f σ H Q ↔ ∃ H₀ F ρ, SR C H₀ F ρ σ H ∧ Goes C.G W (f ρ) σ H H₀ fun p => ∀ v H' H₀', Ext H₀ H H₀' H' → Rep C.G (md m H₀' H' F) p v → Q v H' := by
  constructor <;>
  · rintro ⟨H₀, F, ρ, S, h⟩
    refine ⟨H₀, F, ρ, S, ?_⟩
    cases e : f ρ <;> (rw [e] at h; exact h)
theorem tT_iff {f : Env → R Bool} {Q : Bool → Hp → Prop} : tTt C W f σ H Q ↔ ∃ H₀ F ρ, SR C H₀ F ρ σ H ∧ Goes C.G W (f ρ) σ H H₀ fun b => ∀ H' H₀', Ext H₀ H H₀' H' → Q b H' := by
  constructor <;>
  · rintro ⟨H₀, F, ρ, S, h⟩
    refine ⟨H₀, F, ρ, S, ?_⟩
    cases e : f ρ <;> (rw [e] at h; exact h)
theorem tA_iff {f : Env → R (List PV)} {Q : List V → Hp → Prop} : tAs C W m f σ H Q ↔ ∃ H₀ F ρ, SR C H₀ F ρ σ H ∧ Goes C.G W (f ρ) σ H H₀ fun ps => ∀ vs H' H₀', Ext H₀ H H₀' H' → Reps C.G (md m H₀' H' F) ps vs → Q vs H' := by
  constructor <;>
  · rintro ⟨H₀, F, ρ, S, h⟩
    refine ⟨H₀, F, ρ, S, ?_⟩
    cases e : f ρ <;> (rw [e] at h; exact h)
theorem tF_iff {f : Env → R OV} {Q : VK} : tF C W f σ H Q ↔ ∃ H₀ F ρ, SR C H₀ F ρ σ H ∧ Goes C.G W (f ρ) σ H H₀ fun o => ∀ v H' H₀' Fv, Ext H₀ H H₀' H' → OwnR C.G H₀' H' o v Fv → Fv.Nodup → (∀ a ∈ Fv, H a = none ∧ H₀' a = none) → Q v H' := by
  constructor <;>
  · rintro ⟨H₀, F, ρ, S, h⟩
    refine ⟨H₀, F, ρ, S, ?_⟩
    cases e : f ρ <;> (rw [e] at h; exact h)
/-! ### leaves -/
/-- a name: what is frozen -/
def eVar (i : Nat) : Env → R PV := fun ρ => match ρ[i]? with
  | some (some (.sh p)) => .ok p
  | _ => .no
/-- a name: what is owned, looked at -/
def eOwn (i : Nat) : Env → R PV := fun ρ => match ρ[i]? with
  | some (some o) => .ok o.pv
  | _ => .no
def eCst (p : PV) : Env → R PV := fun _ => .ok p
theorem qVar (i : Nat) {x : Str} (hN : X.N[i]? = some x := by rfl) (hv : Vis X.env.scope x := by first | exact Or.inl rfl | exact Or.inr (Or.inl rfl) | exact Or.inr (Or.inr rfl)) (hd : (x == ("__debug__" : Str)) = false := by decide)
    (hcd : (x == ("__classdict__" : Str)) = false := by decide) : QE C W m X (.Name x pos) (eVar i) := by
  refine PE.imp (pe_var hN hv hd hcd) fun σ H Q h => ?_
  obtain ⟨H₀, F, ρ, S, h⟩ := h
  unfold eVar at h
  cases e : ρ[i]? with
  | none => rw [e] at h; exact h.elim
  | some o =>
    rw [e] at h
    match o, e, h with
    | none, _, h => exact h.elim
    | some (.own l), _, h => exact h.elim
    | some (.obj c fs), _, h => exact h.elim
    | some (.sh p), e, h =>
      obtain ⟨v, F1, e1, e2, _⟩ := S.env.get e
      simp only [OwnR] at e2
      exact ⟨v, e1, h v H H₀ (Ext.refl S.z) (Rep.mono (z_md fun a ha => (S.fr a ha).2) e2.1)⟩
theorem qOwn (i : Nat) {x : Str} (hN : X.N[i]? = some x := by rfl) (hv : Vis X.env.scope x := by first | exact Or.inl rfl | exact Or.inr (Or.inl rfl) | exact Or.inr (Or.inr rfl)) (hd : (x == ("__debug__" : Str)) = false := by decide)
    (hcd : (x == ("__classdict__" : Str)) = false := by decide) : QE C W false X (.Name x pos) (eOwn i) := by
  refine PE.imp (pe_var hN hv hd hcd) fun σ H Q h => ?_
  obtain ⟨H₀, F, ρ, S, h⟩ := h
  unfold eOwn at h
  cases e : ρ[i]? with
  | none => rw [e] at h; exact h.elim
  | some o =>
    rw [e] at h
    cases o with
    | none => exact h.elim
    | some o =>
      obtain ⟨v, F1, e1, e2, e3⟩ := S.env.get e
      refine ⟨v, e1, h v H H₀ (Ext.refl S.z) ?_⟩
      exact OwnR.rep (z_md (m := false) fun a ha => (S.fr a ha).2) (fun a ha => by change vw H₀ H F a = H a; unfold vw; rw [if_pos (e3 a ha)]) e2
theorem qInt {i : Int} {j} : QE C W m X (.Constant (.int i) j pos) (eCst (.int i)) := PE.imp pe_int fun σ H Q ⟨H₀, F, ρ, S, h⟩ => h _ H H₀ (Ext.refl S.z) (by simp only [Rep])
theorem qStr {x : Str} {j} : QE C W m X (.Constant (.str x) j pos) (eCst (.str x)) := PE.imp pe_str fun σ H Q ⟨H₀, F, ρ, S, h⟩ => h _ H H₀ (Ext.refl S.z) (by simp only [Rep])
theorem qBl {x : Bool} {j} : QE C W m X (.Constant (.bool x) j pos) (eCst (.bl x)) := PE.imp pe_bl fun σ H Q ⟨H₀, F, ρ, S, h⟩ => h _ H H₀ (Ext.refl S.z) (by simp only [Rep])
theorem qNon {j} : QE C W m X (.Constant .none j pos) (eCst .non) := PE.imp pe_non fun σ H Q ⟨H₀, F, ρ, S, h⟩ => h _ H H₀ (Ext.refl S.z) (by simp only [Rep])
/-- a constant of the module -/
theorem qGlob {x : Str} {v : V} {u : Value} {p : PV} (hm : X.mg x = some u) (r : RelV v u) (hp : ∀ H, Rep C.G H p v) (hg : Gl X x := by rfl) (hd : (x == ("__debug__" : Str)) = false := by decide) : QE C W m X (.Name x pos) (eCst p) :=
  PE.imp (pe_glob hg hm r hd) fun σ H Q ⟨H₀, F, ρ, S, h⟩ => h _ H H₀ (Ext.refl S.z) (hp _)
/-! ### operators -/
/-- what an operator by values must do -/
def Op2 (Γ : Gc) (r : R2) (g : PV → PV → R PV) : Prop := ∀ (m : Bool) (H₀ H : Hp) (F : List Addr) (p q z : PV) (x y : V) (Q : VK), Same H₀ H → Rep Γ (md m H₀ H F) p x → Rep Γ (md m H₀ H F) q y → g p q = .ok z →
  (∀ v H' H₀', Ext H₀ H H₀' H' → Rep Γ (md m H₀' H' F) z v → Q v H') → r x y H Q
/-- an operator that raises nothing -/
def Calm2 (g : PV → PV → R PV) : Prop := ∀ p q x, g p q ≠ .er x
def eBin (g : PV → PV → R PV) (fa fb : Env → R PV) : Env → R PV := fun ρ => (fa ρ).bind fun p => (fb ρ).bind fun q => g p q
theorem op2_go {r : R2} {g : PV → PV → R PV} {fa fb : Env → R PV} (hg : Calm2 g) (ho : Op2 C.G r g) {Q : VK} (h : tE C W m (eBin g fa fb) σ H Q) :
    tE C W m fa σ H fun x H1 => tE C W m fb σ H1 fun y H2 => r x y H2 Q := by
  rw [tE_iff] at h ⊢
  obtain ⟨H₀, F, ρ, S, h⟩ := h
  unfold eBin at h
  rw [Goes.bind] at h
  refine ⟨H₀, F, ρ, S, h.imp fun p _ h v H1 H₁ E1 r1 => ?_⟩
  rw [Goes.bind] at h
  rw [tE_iff]
  refine ⟨H₁, F, ρ, S.ext E1, (h.later E1).imp fun q _ h w H2 H₂ E2 r2 => ?_⟩
  cases e : g p q with
  | ok z =>
    rw [e] at h
    exact ho m H₂ H2 F p q z v w Q E2.z (Rep.mono (md_ext E2) r1) r2 e fun u H' H₀' E r => h u H' H₀' ((E1.trans E2).trans E) r
  | er x => exact absurd e (hg p q x)
  | no =>
    rw [e] at h
    exact h.elim
theorem qBin {op : Operator} {r : R2} {g : PV → PV → R PV} {fa fb : Env → R PV} (ho : OpR X (binaryOp op) r) (hg : Calm2 g) (hr : Op2 C.G r g) (ha : QE C W m X a fa) (hb : QE C W m X b fb) : QE C W m X (.BinOp a op b pos) (eBin g fa fb) :=
  PE.imp (pe_op ho ha hb) fun σ H Q h => op2_go hg hr h
theorem qCmp {op : CmpOp} {r : R2} {g : PV → PV → R PV} {fa fb : Env → R PV} (ho : OpR X (compareOp op) r) (hg : Calm2 g) (hr : Op2 C.G r g) (ha : QE C W m X a fa) (hb : QE C W m X b fb) (hm : behindInMarks op b = false := by first | exact nomark _ | rfl) : QE C W m X (.Compare a [op] [b] pos) (eBin g fa fb) :=
  PE.imp (pe_cmpR ho ha hb hm) fun σ H Q h => op2_go hg hr h
/-- a value as a test's answer -/
def eTst (f : Env → R PV) : Env → R Bool := fun ρ => (f ρ).bind fun p => match p with
  | .bl b => .ok b
  | _ => .no
theorem tst_go {f : Env → R PV} {Q : Bool → Hp → Prop} (h : tTt C W (eTst f) σ H Q) : tE C W m f σ H fun x H' => ∃ k, x = .bl k ∧ Q k H' := by
  rw [tT_iff] at h
  rw [tE_iff]
  obtain ⟨H₀, F, ρ, S, h⟩ := h
  unfold eTst at h
  rw [Goes.bind] at h
  refine ⟨H₀, F, ρ, S, h.imp fun p _ h v H1 H₁ E1 r1 => ?_⟩
  cases p with
  | bl b =>
    simp only [Rep] at r1
    exact ⟨b, r1, h H1 H₁ E1⟩
  | _ => exact (show False from h).elim
theorem qtCmp {op : CmpOp} {r : R2} {g : PV → PV → R PV} {fa fb : Env → R PV} (ho : OpR X (compareOp op) r) (hg : Calm2 g) (hr : Op2 C.G r g) (ha : QE C W m X a fa) (hb : QE C W m X b fb) (hm : behindInMarks op b = false := by first | exact nomark _ | rfl) : QT C W X (.Compare a [op] [b] pos) (eTst (eBin g fa fb)) :=
  PT.imp (pt_cmpR ho ha hb hm) fun σ H Q h => op2_go hg hr (tst_go h)
/-- any expression whose value is a bool, as a test -/
theorem qtVal {e : Expr} {f : Env → R PV} (h : QE C W m X e f) (he : ∀ whole, isTrue e X.env whole = (do let v ← whole; standAt e.pos; holding [v] (truthy v)) := by intro _; rfl) : QT C W X e (eTst f) :=
  PT.imp (pt_val h he) fun σ H Q h => tst_go h
/-- truth of any value -/
def truthR : PV → R Bool
  | .non => .ok false
  | .bl b => .ok b
  | .int i => .ok (i != 0)
  | .str s => if s.length ≤ sizeLine then .ok ((s.length : Int) != 0) else .no
  | .lst l => .ok (!l.isEmpty)
  | .scr l => .ok (!l.isEmpty)
  | .tup l => .ok (!l.isEmpty)
  | .ins _ _ => .no
def eTru (f : Env → R PV) : Env → R Bool := fun ρ => (f ρ).bind truthR
theorem qtTru {e : Expr} {f : Env → R PV} (hK : X.K = C.G.K) (h : QE C W m X e f) (he : ∀ whole, isTrue e X.env whole = (do let v ← whole; standAt e.pos; holding [v] (truthy v)) := by intro _; rfl) : QT C W X e (eTru f) := by
  refine PT.imp (pt_truth h he) fun σ H Q h => ?_
  rw [tT_iff] at h
  rw [tE_iff]
  obtain ⟨H₀, F, ρ, S, h⟩ := h
  unfold eTru at h
  rw [Goes.bind] at h
  refine ⟨H₀, F, ρ, S, h.imp fun p _ h v H1 H₁ E1 r1 => ?_⟩
  have r2 : Rep C.G H1 p v := Rep.mono (md_H E1.z) r1
  have emp : ∀ {ps : List PV} {vs : List V}, Reps C.G H1 ps vs → (!ps.isEmpty) = !vs.isEmpty := fun {ps vs} r => by
    cases ps with
    | nil => simp only [Reps] at r; subst r; rfl
    | cons p ps => simp only [Reps] at r; obtain ⟨x, ys, h1, _⟩ := r; subst h1; rfl
  rw [hK]
  cases p with
  | non => simp only [Rep] at r2; subst r2; exact ⟨false, rfl, h H1 H₁ E1⟩
  | bl b => simp only [Rep] at r2; subst r2; exact ⟨b, rfl, h H1 H₁ E1⟩
  | int i => simp only [Rep] at r2; subst r2; exact ⟨_, rfl, h H1 H₁ E1⟩
  | str s =>
    simp only [Rep] at r2
    subst r2
    simp only [truthR] at h
    split at h
    · rename_i hs
      exact ⟨_, ⟨hs, rfl⟩, h H1 H₁ E1⟩
    · exact h.elim
  | lst l =>
    simp only [Rep] at r2
    obtain ⟨a, xs, h1, h2, h3⟩ := r2
    subst h1
    exact ⟨_, .inl ⟨xs, SqL.of h2, rfl⟩, by rw [← emp h3]; exact h H1 H₁ E1⟩
  | scr l =>
    simp only [Rep] at r2
    obtain ⟨a, xs, h1, h2, h3⟩ := r2
    subst h1
    exact ⟨_, .inl ⟨xs, h2, rfl⟩, by rw [← emp h3]; exact h H1 H₁ E1⟩
  | tup l =>
    simp only [Rep] at r2
    obtain ⟨a, xs, h1, h2, h3⟩ := r2
    subst h1
    exact ⟨_, .inr (.inl ⟨xs, h2, rfl⟩), by rw [← emp h3]; exact h H1 H₁ E1⟩
  | ins c fs => exact h.elim
/-! and, or, not -/
def bAnd (fa fb : Env → R Bool) : Env → R Bool := fun ρ => (fa ρ).bind fun c => if c = true then fb ρ else .ok false
def bOr (fa fb : Env → R Bool) : Env → R Bool := fun ρ => (fa ρ).bind fun c => if c = true then .ok true else fb ρ
def bNot (fa : Env → R Bool) : Env → R Bool := fun ρ => (fa ρ).bind fun c => .ok (!c)
abbrev QW (C : Fc) (W : WX) (X : Cx) (e : Expr) (f : Env → R Bool) : Prop := PW X e (tTt C W f)
theorem qw_and1 {fa : Env → R Bool} (ha : QT C W X a fa) : QW C W X (.BoolOp .And [a] pos) fa := pw_and1 ha
theorem qw_or1 {fa : Env → R Bool} (ha : QT C W X a fa) : QW C W X (.BoolOp .Or [a] pos) fa := pw_or1 ha
theorem qw_and {rest : List Expr} {fa fb : Env → R Bool} (ha : QT C W X a fa) (hb : QW C W X (.BoolOp .And (b :: rest) pos) fb) : QW C W X (.BoolOp .And (a :: b :: rest) pos) (bAnd fa fb) := by
  refine PW.imp (pw_and ha hb) fun σ H Q h => ?_
  show tTt C W fa σ H fun c H1 => if c = true then tTt C W fb σ H1 Q else Q false H1
  rw [tT_iff] at h ⊢
  obtain ⟨H₀, F, ρ, S, h⟩ := h
  unfold bAnd at h
  rw [Goes.bind] at h
  refine ⟨H₀, F, ρ, S, h.imp fun c _ h H1 H₁ E1 => ?_⟩
  cases c with
  | true =>
    rw [if_pos rfl] at h ⊢
    rw [tT_iff]
    exact ⟨H₁, F, ρ, S.ext E1, (h.later E1).imp fun d _ h H2 H₂ E2 => h H2 H₂ (E1.trans E2)⟩
  | false =>
    rw [if_neg Bool.false_ne_true] at h ⊢
    exact h H1 H₁ E1
theorem qw_or {rest : List Expr} {fa fb : Env → R Bool} (ha : QT C W X a fa) (hb : QW C W X (.BoolOp .Or (b :: rest) pos) fb) : QW C W X (.BoolOp .Or (a :: b :: rest) pos) (bOr fa fb) := by
  refine PW.imp (pw_or ha hb) fun σ H Q h => ?_
  show tTt C W fa σ H fun c H1 => if c = true then Q true H1 else tTt C W fb σ H1 Q
  rw [tT_iff] at h ⊢
  obtain ⟨H₀, F, ρ, S, h⟩ := h
  unfold bOr at h
  rw [Goes.bind] at h
  refine ⟨H₀, F, ρ, S, h.imp fun c _ h H1 H₁ E1 => ?_⟩
  cases c with
  | true =>
    rw [if_pos rfl] at h ⊢
    exact h H1 H₁ E1
  | false =>
    rw [if_neg Bool.false_ne_true] at h ⊢
    rw [tT_iff]
    exact ⟨H₁, F, ρ, S.ext E1, (h.later E1).imp fun d _ h H2 H₂ E2 => h H2 H₂ (E1.trans E2)⟩
theorem qt_w {e : Expr} {f : Env → R Bool} (h : QW C W X e f) : QT C W X e f := h.pt
theorem qt_not {fa : Env → R Bool} (ha : QT C W X a fa) : QT C W X (.UnaryOp .Not a pos) (bNot fa) := by
  refine PT.imp (pt_not ha) fun σ H Q h => ?_
  show tTt C W fa σ H fun c H1 => Q (!c) H1
  rw [tT_iff] at h ⊢
  obtain ⟨H₀, F, ρ, S, h⟩ := h
  unfold bNot at h
  rw [Goes.bind] at h
  exact ⟨H₀, F, ρ, S, h.imp fun c _ h H1 H₁ E1 => h H1 H₁ E1⟩
/-! as values -/
def eAnd (fa fb : Env → R PV) : Env → R PV := fun ρ => (fa ρ).bind fun p => match p with
  | .bl true => fb ρ
  | .bl false => .ok (.bl false)
  | _ => .no
def eOr (fa fb : Env → R PV) : Env → R PV := fun ρ => (fa ρ).bind fun p => match p with
  | .bl true => .ok (.bl true)
  | .bl false => fb ρ
  | _ => .no
def eNot (fa : Env → R PV) : Env → R PV := fun ρ => (fa ρ).bind fun p => match p with
  | .bl b => .ok (.bl (!b))
  | _ => .no
theorem qOne {op} {f : Env → R PV} (h : QE C W m X a f) : QE C W m X (.BoolOp op [a] pos) f := pe_one h
theorem qAnd {rest : List Expr} {fa fb : Env → R PV} (ha : QE C W m X a fa) (hb : QE C W m X (.BoolOp .And (b :: rest) pos) fb) : QE C W m X (.BoolOp .And (a :: b :: rest) pos) (eAnd fa fb) := by
  refine PE.imp (pe_and ha hb) fun σ H Q h => ?_
  show tE C W m fa σ H fun x H1 => ∃ c, x = .bl c ∧ if c = true then tE C W m fb σ H1 Q else Q (.bl false) H1
  rw [tE_iff] at h ⊢
  obtain ⟨H₀, F, ρ, S, h⟩ := h
  unfold eAnd at h
  rw [Goes.bind] at h
  refine ⟨H₀, F, ρ, S, h.imp fun p _ h v H1 H₁ E1 r1 => ?_⟩
  match p, h, r1 with
  | .bl true, h, r1 =>
    simp only [Rep] at r1
    refine ⟨true, r1, ?_⟩
    rw [if_pos rfl, tE_iff]
    exact ⟨H₁, F, ρ, S.ext E1, (h.later E1).imp fun d _ h w H2 H₂ E2 => h w H2 H₂ (E1.trans E2)⟩
  | .bl false, h, r1 =>
    simp only [Rep] at r1
    refine ⟨false, r1, ?_⟩
    rw [if_neg Bool.false_ne_true]
    exact h _ H1 H₁ E1 (by simp only [Rep])
theorem qOr {rest : List Expr} {fa fb : Env → R PV} (ha : QE C W m X a fa) (hb : QE C W m X (.BoolOp .Or (b :: rest) pos) fb) : QE C W m X (.BoolOp .Or (a :: b :: rest) pos) (eOr fa fb) := by
  refine PE.imp (pe_or ha hb) fun σ H Q h => ?_
  show tE C W m fa σ H fun x H1 => ∃ c, x = .bl c ∧ if c = true then Q (.bl true) H1 else tE C W m fb σ H1 Q
  rw [tE_iff] at h ⊢
  obtain ⟨H₀, F, ρ, S, h⟩ := h
  unfold eOr at h
  rw [Goes.bind] at h
  refine ⟨H₀, F, ρ, S, h.imp fun p _ h v H1 H₁ E1 r1 => ?_⟩
  match p, h, r1 with
  | .bl false, h, r1 =>
    simp only [Rep] at r1
    refine ⟨false, r1, ?_⟩
    rw [if_neg Bool.false_ne_true, tE_iff]
    exact ⟨H₁, F, ρ, S.ext E1, (h.later E1).imp fun d _ h w H2 H₂ E2 => h w H2 H₂ (E1.trans E2)⟩
  | .bl true, h, r1 =>
    simp only [Rep] at r1
    refine ⟨true, r1, ?_⟩
    rw [if_pos rfl]
    exact h _ H1 H₁ E1 (by simp only [Rep])
theorem qNot {fa : Env → R PV} (ha : QE C W m X a fa) : QE C W m X (.UnaryOp .Not a pos) (eNot fa) := by
  refine PE.imp (pe_not ha) fun σ H Q h => ?_
  show tE C W m fa σ H fun x H1 => ∃ c, x = .bl c ∧ Q (.bl (!c)) H1
  rw [tE_iff] at h ⊢
  obtain ⟨H₀, F, ρ, S, h⟩ := h
  unfold eNot at h
  rw [Goes.bind] at h
  refine ⟨H₀, F, ρ, S, h.imp fun p _ h v H1 H₁ E1 r1 => ?_⟩
  cases p with
  | bl b =>
    simp only [Rep] at r1
    exact ⟨b, r1, h _ H1 H₁ E1 (by simp only [Rep])⟩
  | _ => exact (show False from h).elim
def eIf (fc : Env → R Bool) (fa fb : Env → R PV) : Env → R PV := fun ρ => (fc ρ).bind fun c => if c = true then fa ρ else fb ρ
theorem qIf {fc : Env → R Bool} {fa fb : Env → R PV} (hc : QT C W X c fc) (ha : QE C W m X a fa) (hb : QE C W m X b fb) : QE C W m X (.IfExp c a b pos) (eIf fc fa fb) := by
  refine PE.imp (pe_ifExp hc ha hb) fun σ H Q h => ?_
  show tTt C W fc σ H fun c H1 => if c = true then tE C W m fa σ H1 Q else tE C W m fb σ H1 Q
  rw [tE_iff] at h
  rw [tT_iff]
  obtain ⟨H₀, F, ρ, S, h⟩ := h
  unfold eIf at h
  rw [Goes.bind] at h
  refine ⟨H₀, F, ρ, S, h.imp fun d _ h H1 H₁ E1 => ?_⟩
  cases d with
  | true =>
    rw [if_pos rfl] at h ⊢
    rw [tE_iff]
    exact ⟨H₁, F, ρ, S.ext E1, (h.later E1).imp fun d _ h w H2 H₂ E2 => h w H2 H₂ (E1.trans E2)⟩
  | false =>
    rw [if_neg Bool.false_ne_true] at h ⊢
    rw [tE_iff]
    exact ⟨H₁, F, ρ, S.ext E1, (h.later E1).imp fun d _ h w H2 H₂ E2 => h w H2 H₂ (E1.trans E2)⟩
/-- a scalar may leave what is only looked at -/
def scalarR : PV → R PV
  | .lst _ => .no
  | .scr _ => .no
  | .tup _ => .no
  | .ins _ _ => .no
  | p => .ok p
def eSca (f : Env → R PV) : Env → R PV := fun ρ => (f ρ).bind scalarR
theorem qSca {f : Env → R PV} (h : QE C W false X a f) : QE C W m X a (eSca f) := by
  refine PE.imp h fun σ H Q h => ?_
  rw [tE_iff] at h ⊢
  obtain ⟨H₀, F, ρ, S, h⟩ := h
  unfold eSca at h
  rw [Goes.bind] at h
  refine ⟨H₀, F, ρ, S, h.imp fun p _ h v H1 H₁ E1 r1 => ?_⟩
  cases p with
  | lst l => exact h.elim
  | scr l => exact h.elim
  | tup l => exact h.elim
  | ins c fs => exact h.elim
  | non => exact h v H1 H₁ E1 (by simpa only [Rep] using r1)
  | bl b => exact h v H1 H₁ E1 (by simpa only [Rep] using r1)
  | int b => exact h v H1 H₁ E1 (by simpa only [Rep] using r1)
  | str b => exact h v H1 H₁ E1 (by simpa only [Rep] using r1)
/-- what is frozen may be looked at -/
theorem qBor {f : Env → R PV} (h : QE C W true X a f) : QE C W false X a f := by
  refine PE.imp h fun σ H Q h => ?_
  rw [tE_iff] at h ⊢
  obtain ⟨H₀, F, ρ, S, h⟩ := h
  exact ⟨H₀, F, ρ, S, h.imp fun p _ h v H1 H₁ E1 r1 => h v H1 H₁ E1 (Rep.mono (z_md (m := false) fun a ha => ((S.ext E1).fr a ha).2) r1)⟩
/-! ### argument lists, displays -/
def aNil : Env → R (List PV) := fun _ => .ok []
def aCons (f : Env → R PV) (r : Env → R (List PV)) : Env → R (List PV) := fun ρ => (f ρ).bind fun p => (r ρ).bind fun ps => .ok (p :: ps)
theorem qaNil : QA C W m X [] aNil := PA.imp pa_nil fun σ H Q ⟨H₀, F, ρ, S, h⟩ => h _ H H₀ (Ext.refl S.z) Reps.nil
theorem qaCons {es : List Expr} {f : Env → R PV} {r : Env → R (List PV)} (ha : QE C W m X a f) (hr : QA C W m X es r) (hs : starEach (a :: es) X.env = (false, eval a X.env) :: starEach es X.env := by rfl) : QA C W m X (a :: es) (aCons f r) := by
  refine PA.imp (pa_cons ha hr hs) fun σ H Q h => ?_
  show tE C W m f σ H fun x H1 => tAs C W m r σ H1 fun xs H2 => Q (x :: xs) H2
  rw [tA_iff] at h
  rw [tE_iff]
  obtain ⟨H₀, F, ρ, S, h⟩ := h
  unfold aCons at h
  rw [Goes.bind] at h
  refine ⟨H₀, F, ρ, S, h.imp fun p _ h v H1 H₁ E1 r1 => ?_⟩
  rw [Goes.bind] at h
  rw [tA_iff]
  exact ⟨H₁, F, ρ, S.ext E1, (h.later E1).imp fun ps _ h ws H2 H₂ E2 r2 => h (v :: ws) H2 H₂ (E1.trans E2) (Reps.cons (Rep.mono (md_ext E2) r1) r2)⟩
def mkTup (ps : List PV) : R PV := if ps.length ≤ sizeLine then .ok (.tup ps) else .no
def mkLst (ps : List PV) : R OV := if ps.length ≤ sizeLine then .ok (.own (ps.map .sh)) else .no
def eTup (r : Env → R (List PV)) : Env → R PV := fun ρ => (r ρ).bind mkTup
def fLst (r : Env → R (List PV)) : Env → R OV := fun ρ => (r ρ).bind mkLst
theorem qTup {es : List Expr} {x1} {r : Env → R (List PV)} (h : QA C W m X es r) : QE C W m X (.Tuple es x1 pos) (eTup r) := by
  refine PE.imp (pe_tup h) fun σ H Q h => ?_
  show tAs C W m r σ H fun xs H1 => xs.length ≤ sizeLine ∧ ∀ p, H1 p = none → Q (.ref p) (upd H1 p (.tup xs))
  rw [tE_iff] at h
  rw [tA_iff]
  obtain ⟨H₀, F, ρ, S, h⟩ := h
  unfold eTup at h
  rw [Goes.bind] at h
  refine ⟨H₀, F, ρ, S, h.imp fun ps _ h vs H1 H₁ E1 r1 => ?_⟩
  unfold mkTup at h
  split at h
  · rename_i hs
    refine ⟨by rw [← r1.length]; exact hs, fun p hp => ?_⟩
    have E2 : Ext H₁ H1 (upd H₁ p (.tup vs)) (upd H1 p (.tup vs)) := ext_new E1.z hp
    exact h _ _ _ (E1.trans E2) (by simp only [Rep]; exact ⟨p, vs, rfl, SqT.of md_new, Reps.mono (md_ext E2) r1⟩)
  · exact h.elim
theorem ownRs_sh : ∀ {ps : List PV} {vs : List V} {H₀ H : Hp}, Reps C.G H₀ ps vs → OwnRs C.G H₀ H (ps.map .sh) vs []
  | [], vs, H₀, H, h => by simp only [Reps] at h; subst h; simp [OwnRs]
  | p :: ps, vs, H₀, H, h => by
    simp only [Reps] at h
    obtain ⟨x, ys, h1, h2, h3⟩ := h
    subst h1
    simp only [List.map_cons, OwnRs]
    exact ⟨x, ys, [], [], rfl, rfl, by simp only [OwnR]; exact ⟨h2, trivial⟩, ownRs_sh h3⟩
/-- a new list of frozen things -/
theorem own_new {ps : List PV} {vs : List V} {H₀ H : Hp} {p : Addr} (z : Same H₀ H) (hp : H p = none) (r : Reps C.G H₀ ps vs) :
    Ext H₀ H H₀ (upd H p (.lst vs)) ∧ OwnR C.G H₀ (upd H p (.lst vs)) (.own (ps.map .sh)) (.ref p) [p] ∧ ([p] : List Addr).Nodup ∧ ∀ a ∈ [p], H a = none ∧ H₀ a = none := by
  have h0 : H₀ p = none := Same.free z hp
  refine ⟨⟨fun b u e => ?_, Same.refl _, fun b u e => ?_, fun _ _ => rfl⟩, ?_, by simp, fun a ha => ?_⟩
  · rw [upd_ne fun q => by rw [q, hp] at e; cases e]; exact e
  · rw [upd_ne fun q => by rw [q, h0] at e; cases e]; exact z b u e
  · simp only [OwnR]
    exact ⟨p, vs, [], rfl, rfl, upd_same, ownRs_sh r⟩
  · rw [List.mem_singleton.mp ha]; exact ⟨hp, h0⟩
theorem qLst {es : List Expr} {r : Env → R (List PV)} (h : QA C W true X es r) : QF C W X (.List es pos) (fLst r) := by
  refine PE.imp (pe_lst h) fun σ H Q h => ?_
  show tAs C W true r σ H fun xs H1 => xs.length ≤ sizeLine ∧ ∀ p, H1 p = none → Q (.ref p) (upd H1 p (.lst xs))
  rw [tF_iff] at h
  rw [tA_iff]
  obtain ⟨H₀, F, ρ, S, h⟩ := h
  unfold fLst at h
  rw [Goes.bind] at h
  refine ⟨H₀, F, ρ, S, h.imp fun ps _ h vs H1 H₁ E1 r1 => ?_⟩
  unfold mkLst at h
  split at h
  · rename_i hs
    refine ⟨by rw [← r1.length]; exact hs, fun p hp => ?_⟩
    obtain ⟨E2, o2, n2, f2⟩ := own_new (C := C) E1.z hp r1
    exact h _ _ _ _ (E1.trans E2) o2 n2 fun a ha => ⟨Same.free E1.s (f2 a ha).1, (f2 a ha).2⟩
  · exact h.elim
/-- what is new may be frozen -/
def eFz (f : Env → R OV) : Env → R PV := fun ρ => (f ρ).bind fun o => .ok o.pv
theorem frz_ext {o : OV} {v : V} {H H' H₀ H₀' : Hp} {Fv : List Addr} (E : Ext H₀ H H₀' H') (r : OwnR C.G H₀' H' o v Fv) (fr : ∀ a ∈ Fv, H a = none ∧ H₀' a = none) :
    Ext H₀ H (vw H₀' H' Fv) H' ∧ Rep C.G (vw H₀' H' Fv) o.pv v := by
  have z0 : Same H₀' (vw H₀' H' Fv) := same_vw fun a ha => (fr a ha).2
  refine ⟨⟨E.s, E.s0.trans z0, vw_same E.z, fun a ha => ?_⟩, OwnR.rep z0 (fun a ha => by unfold vw; rw [if_pos ha]) r⟩
  unfold vw
  rw [if_neg fun q => ha (fr a q).1]
  exact E.n a ha
theorem qFz {f : Env → R OV} (h : QF C W X a f) : QE C W m X a (eFz f) := by
  refine PE.imp h fun σ H Q h => ?_
  rw [tE_iff] at h
  rw [tF_iff]
  obtain ⟨H₀, F, ρ, S, h⟩ := h
  unfold eFz at h
  rw [Goes.bind] at h
  refine ⟨H₀, F, ρ, S, h.imp fun o _ h v H1 H₁ Fv E1 r1 n1 f1 => ?_⟩
  obtain ⟨E2, r2⟩ := frz_ext E1 r1 f1
  exact h v H1 _ E2 (Rep.mono (z_md fun a ha => ((S.ext E2).fr a ha).2) r2)
/-- what is frozen, as a new value -/
def fSh (f : Env → R PV) : Env → R OV := fun ρ => (f ρ).bind fun p => .ok (.sh p)
theorem qSh {f : Env → R PV} (h : QE C W true X a f) : QF C W X a (fSh f) := by
  refine PE.imp h fun σ H Q h => ?_
  rw [tF_iff] at h
  rw [tE_iff]
  obtain ⟨H₀, F, ρ, S, h⟩ := h
  unfold fSh at h
  rw [Goes.bind] at h
  exact ⟨H₀, F, ρ, S, h.imp fun p _ h v H1 H₁ E1 r1 => h v H1 H₁ [] E1 (by simp only [OwnR]; exact ⟨r1, trivial⟩) List.nodup_nil fun a ha => by cases ha⟩
end
end L3

/-! L3. 3: operators, subscripts, built-ins by values -/
namespace L3
open PySem PySem.Spec PyProof.Rows L2
section
variable {G : Gc} {K : PySem.W.Frag}
theorem rep_up {m : Bool} {H₀ H : Hp} {F : List Addr} {p : PV} {v : V} (z : Same H₀ H) (r : Rep G (md m H₀ H F) p v) : Rep G H p v := Rep.mono (md_H z) r
/-! ### ints -/
def intOp (c : Int → Int → Bool) (f : Int → Int → Int) : PV → PV → R PV
  | .int i, .int j => if c i j then .ok (.int (f i j)) else .no
  | _, _ => .no
theorem intOp_calm {c : Int → Int → Bool} {f : Int → Int → Int} : Calm2 (intOp c f) := by
  intro p q x
  unfold intOp
  split
  · split <;> exact fun z => nomatch z
  · exact fun z => nomatch z
theorem intOp_ok {Cn : Int → Int → Prop} {c : Int → Int → Bool} {f : Int → Int → Int} (h : ∀ i j, c i j = true → Cn i j) : Op2 G (rI Cn fun i j => .int (f i j)) (intOp c f) := by
  intro m H₀ H F p q z x y Q zz rp rq e k
  unfold intOp at e
  split at e
  · rename_i i j
    simp only [Rep] at rp rq
    split at e
    · rename_i hc
      cases e
      exact ⟨i, j, rp, rq, h i j hc, k _ H H₀ (Ext.refl zz) (by simp only [Rep])⟩
    · cases e
  · cases e
def mulOk (i j : Int) : Bool := decide (-(2 ^ 64) < i ∧ i < 2 ^ 64) || decide (-(2 ^ 64) < j ∧ j < 2 ^ 64) || decide (i.natAbs.log2 + j.natAbs.log2 < 1000000)
def pySub : PV → PV → R PV := intOp (fun _ _ => true) fun i j => i - j
def pyFdiv : PV → PV → R PV := intOp (fun _ j => decide (0 < j) && decide (j.natAbs.log2 < 9000)) fun i j => i / j
def pyMod : PV → PV → R PV := intOp (fun _ j => decide (0 < j)) fun i j => i % j
def pyPow : PV → PV → R PV := intOp (fun i j => decide (0 ≤ j) && decide (j ≤ 1000000) && decide (i.natAbs < 2 ^ 64)) fun i j => i ^ j.toNat
theorem sub_ok : Op2 G (rI (fun _ _ => True) fun i j => .int (i - j)) pySub := intOp_ok fun _ _ _ => trivial
theorem op_sub' {X : Cx} : OpR X (binaryOp .Sub) (rI (fun _ _ => True) fun i j => .int (i - j)) := by
  intro pins s σ H x y v u Q I rx ry h
  obtain ⟨i, j, h1, h2, _, q⟩ := h
  exact op_sub pins s σ H x y v u Q I rx ry ⟨i, j, h1, h2, q⟩
theorem fdiv_ok : Op2 G (rI CDivW fun i j => .int (i / j)) pyFdiv := intOp_ok fun i j h => by
  simp only [Bool.and_eq_true, decide_eq_true_eq] at h
  exact h
theorem mod_ok : Op2 G (rI (fun _ j => 0 < j) fun i j => .int (i % j)) pyMod := intOp_ok fun i j h => by simpa using h
theorem pow_ok : Op2 G (rI CPow fun i j => .int (i ^ j.toNat)) pyPow := intOp_ok fun i j h => by
  simp only [Bool.and_eq_true, decide_eq_true_eq] at h
  exact ⟨h.1.1, h.1.2, h.2⟩
theorem calm_fdiv : Calm2 pyFdiv := intOp_calm
theorem calm_mod : Calm2 pyMod := intOp_calm
theorem calm_pow : Calm2 pyPow := intOp_calm
theorem calm_sub : Calm2 pySub := intOp_calm
def intCmp (f : Int → Int → Bool) : PV → PV → R PV
  | .int i, .int j => .ok (.bl (f i j))
  | _, _ => .no
theorem intCmp_calm {f : Int → Int → Bool} : Calm2 (intCmp f) := by
  intro p q x
  unfold intCmp
  split <;> exact fun z => nomatch z
theorem intCmp_ok {f : Int → Int → Bool} : Op2 G (rI0 fun i j => .bl (f i j)) (intCmp f) := by
  intro m H₀ H F p q z x y Q zz rp rq e k
  unfold intCmp at e
  split at e
  · rename_i i j
    simp only [Rep] at rp rq
    cases e
    exact ⟨i, j, rp, rq, k _ H H₀ (Ext.refl zz) (by simp only [Rep])⟩
  · cases e
def pyLt : PV → PV → R PV := intCmp fun i j => decide (i < j)
def pyLe : PV → PV → R PV := intCmp fun i j => decide (i ≤ j)
def pyGt : PV → PV → R PV := intCmp fun i j => decide (j < i)
def pyGe : PV → PV → R PV := intCmp fun i j => decide (j ≤ i)
/-! ### + and * of ints, texts, lists, tuples -/
def pyAdd : PV → PV → R PV
  | .int i, .int j => .ok (.int (i + j))
  | .str a, .str b => if a.length + b.length ≤ sizeLine then .ok (.str (a ++ b)) else .no
  | .lst a, .lst b => if a.length + b.length ≤ sizeLine then .ok (.lst (a ++ b)) else .no
  | .tup a, .tup b => if a.length + b.length ≤ sizeLine then .ok (.tup (a ++ b)) else .no
  | _, _ => .no
def rAddAll (K : PySem.W.Frag) : R2 := fun x y H Q => (∃ i j, x = .int i ∧ y = .int j ∧ Q (.int (i + j)) H) ∨ (∃ i j, x = .str i ∧ y = .str j ∧ i.length + j.length ≤ sizeLine ∧ Q (.str (i ++ j)) H) ∨ rCat x y H Q ∨ rCatA K x y H Q
theorem op_addAll {X : Cx} : OpR X (binaryOp .Add) (rAddAll X.K) := by
  intro pins s σ H x y v u Q I rx ry h
  rcases h with h | h | h | h
  · exact op_add pins s σ H x y v u Q I rx ry h
  · exact op_add_str pins s σ H x y v u Q I rx ry h
  · exact op_cat pins s σ H x y v u Q I rx ry h
  · exact op_catA pins s σ H x y v u Q I rx ry h
theorem calm_add : Calm2 pyAdd := by
  intro p q x
  unfold pyAdd
  split <;> first | (intro z; cases z; done) | (split <;> (intro z; cases z))
theorem rep_lst_new {m : Bool} {H₀ H : Hp} {F : List Addr} {p : Addr} {l : List PV} {xs : List V} (z : Same H₀ H) (hp : H p = none) (r : Reps G (md m H₀ H F) l xs) :
    Ext H₀ H (upd H₀ p (.lst xs)) (upd H p (.lst xs)) ∧ Rep G (md m (upd H₀ p (.lst xs)) (upd H p (.lst xs)) F) (.lst l) (.ref p) := by
  have E := ext_new (o := .lst xs) z hp
  refine ⟨E, ?_⟩
  simp only [Rep]
  exact ⟨p, xs, rfl, md_new, Reps.mono (md_ext E) r⟩
theorem rep_tup_new {m : Bool} {H₀ H : Hp} {F : List Addr} {p : Addr} {l : List PV} {xs : List V} (z : Same H₀ H) (hp : H p = none) (r : Reps G (md m H₀ H F) l xs) :
    Ext H₀ H (upd H₀ p (.tup xs)) (upd H p (.tup xs)) ∧ Rep G (md m (upd H₀ p (.tup xs)) (upd H p (.tup xs)) F) (.tup l) (.ref p) := by
  have E := ext_new (o := .tup xs) z hp
  refine ⟨E, ?_⟩
  simp only [Rep]
  exact ⟨p, xs, rfl, SqT.of md_new, Reps.mono (md_ext E) r⟩
theorem Reps.nil_iff {H : Hp} {l : List PV} {xs : List V} (r : Reps G H l xs) : l = [] ↔ xs = [] := by
  cases l with
  | nil => simp only [Reps] at r; simp [r]
  | cons p ps => simp only [Reps] at r; obtain ⟨x, ys, h1, _⟩ := r; subst h1; simp
theorem add_ok : Op2 G (rAddAll G.K) pyAdd := by
  intro m H₀ H F p q z x y Q zz rp rq e k
  unfold pyAdd at e
  split at e
  · simp only [Rep] at rp rq
    cases e
    exact .inl ⟨_, _, rp, rq, k _ H H₀ (Ext.refl zz) (by simp only [Rep])⟩
  · simp only [Rep] at rp rq
    split at e
    · rename_i hs
      cases e
      exact .inr (.inl ⟨_, _, rp, rq, hs, k _ H H₀ (Ext.refl zz) (by simp only [Rep])⟩)
    · cases e
  · simp only [Rep] at rp rq
    obtain ⟨a, xs, h1, h2, h3⟩ := rp
    obtain ⟨b, ys, g1, g2, g3⟩ := rq
    split at e
    · rename_i hs
      cases e
      refine .inr (.inr (.inl ⟨a, b, xs, ys, h1, g1, md_H zz _ _ h2, md_H zz _ _ g2, by rw [← h3.length, ← g3.length]; exact hs, fun r hr => ?_⟩))
      obtain ⟨E, rr⟩ := rep_lst_new (m := m) (F := F) zz hr (h3.append g3)
      exact k _ _ _ E rr
    · cases e
  · rename_i l1 l2
    simp only [Rep] at rp rq
    obtain ⟨a, xs, h1, h2, h3⟩ := rp
    obtain ⟨b, ys, g1, g2, g3⟩ := rq
    split at e
    · rename_i hs
      cases e
      refine .inr (.inr (.inr ⟨a, b, xs, ys, h1, g1, Same.seqT (md_H zz) h2, Same.seqT (md_H zz) g2, by rw [← h3.length, ← g3.length]; exact hs, fun hx => ?_, fun hx hy => ?_, fun _ _ r hr => ?_⟩))
      · have e1 : l1 = [] := h3.nil_iff.mpr hx
        subst e1
        refine k _ H H₀ (Ext.refl zz) ?_
        simp only [Rep, List.nil_append]
        exact ⟨b, ys, rfl, g2, g3⟩
      · have e1 : l2 = [] := g3.nil_iff.mpr hy
        subst e1
        refine k _ H H₀ (Ext.refl zz) ?_
        simp only [Rep, List.append_nil]
        exact ⟨a, xs, rfl, h2, h3⟩
      · obtain ⟨E, rr⟩ := rep_tup_new (m := m) (F := F) zz hr (h3.append g3)
        exact k _ _ _ E rr
    · cases e
  · cases e
def strRep (x : Str) (n : Int) : Str := if n < 1 then Str.empty else if (n == 1 || x.length == 0) = true then x else ⟨(List.replicate n.toNat x.cps).foldl (· ++ ·) #[]⟩
def rRepS : R2 := fun x y H Q => ∃ i n, x = .str i ∧ y = .int n ∧ -1000 ≤ n ∧ n ≤ 1000 ∧ i.length ≤ 1000 ∧ (strRep i n).length ≤ sizeLine ∧ Q (.str (strRep i n)) H
theorem op_repS {X : Cx} : OpR X (binaryOp .Mult) rRepS := by
  intro pins s σ H x y v u Q I rx ry h
  obtain ⟨i, n, rfl, rfl, h1, h2, h3, h4, q⟩ := h
  obtain ⟨t, rfl⟩ := rx
  obtain ⟨t', rfl⟩ := ry
  refine PySem.P.mul_str ?_ (fun k1 k2 => ?_) (fun k1 k2 => ?_) ?_
  · have e1 : ¬ n < -(2 ^ 63 : Int) := by omega
    have e2 : ¬ n ≥ 2 ^ 63 := by omega
    rw [decide_eq_false e1, decide_eq_false e2]; rfl
  · have : (1000 : Int) < (2 ^ 63 - 1) / n := by
      refine Int.lt_of_lt_of_le (show (1000 : Int) < (2 ^ 63 - 1) / 1000 by decide) ?_
      have hn : 0 < n := by omega
      rw [Int.le_ediv_iff_mul_le hn]
      have : (2 ^ 63 - 1) / 1000 * n ≤ (2 ^ 63 - 1) / 1000 * 1000 := Int.mul_le_mul_of_nonneg_left h2 (by decide)
      refine Int.le_trans this (by decide)
    omega
  · have hm : i.length * n.toNat ≤ 1000 * 1000 := Nat.mul_le_mul h3 (by omega)
    unfold Builtin.Str.tooLong
    refine decide_eq_false ?_
    have := sizeLine_eq
    omega
  · unfold strRep at q h4
    split
    · rename_i hn
      rw [if_pos hn] at q h4
      exact ⟨by decide, ⟨.str Str.empty, H, I.tok _, ⟨_, rfl⟩, q⟩⟩
    · rename_i hn
      rw [if_neg hn] at q h4
      split
      · rename_i hc
        rw [if_pos hc] at q
        exact ⟨.str i, H, I, ⟨_, rfl⟩, q⟩
      · rename_i hc
        rw [if_neg hc] at q h4
        exact ⟨h4, ⟨.str _, H, I.tok _, ⟨_, rfl⟩, q⟩⟩
def pyMul : PV → PV → R PV
  | .str x, .int n => if -1000 ≤ n ∧ n ≤ 1000 ∧ x.length ≤ 1000 ∧ (strRep x n).length ≤ sizeLine then .ok (.str (strRep x n)) else .no
  | .int i, .int j => if mulOk i j then .ok (.int (i * j)) else .no
  | .lst l, .int k => if -(2 ^ 63) ≤ k ∧ k < 2 ^ 63 ∧ l.length * k.toNat ≤ sizeLine then .ok (.lst (List.replicate k.toNat l).flatten) else .no
  | _, _ => .no
def rMulAll : R2 := fun x y H Q => rI CMul (fun i j => .int (i * j)) x y H Q ∨ rI CMulW (fun i j => .int (i * j)) x y H Q ∨ rRep x y H Q ∨ rRepS x y H Q
theorem op_mulAll {X : Cx} : OpR X (binaryOp .Mult) rMulAll := by
  intro pins s σ H x y v u Q I rx ry h
  rcases h with h | h | h | h
  · exact op_mul pins s σ H x y v u Q I rx ry h
  · exact op_mulW pins s σ H x y v u Q I rx ry h
  · exact op_rep pins s σ H x y v u Q I rx ry h
  · exact op_repS pins s σ H x y v u Q I rx ry h
theorem calm_mul : Calm2 pyMul := by
  intro p q x
  unfold pyMul
  split <;> first | (intro z; cases z; done) | (split <;> (intro z; cases z))
theorem Reps.rep {H : Hp} {l : List PV} {xs : List V} (r : Reps G H l xs) : ∀ n : Nat, Reps G H (List.replicate n l).flatten (List.replicate n xs).flatten
  | 0 => by simp only [List.replicate_zero, List.flatten_nil]; exact Reps.nil
  | n + 1 => by simp only [List.replicate_succ, List.flatten_cons]; exact r.append (Reps.rep r n)
theorem mul_ok : Op2 G rMulAll pyMul := by
  intro m H₀ H F p q z x y Q zz rp rq e k
  unfold pyMul at e
  split at e
  · simp only [Rep] at rp rq
    split at e
    · rename_i hc
      cases e
      exact .inr (.inr (.inr ⟨_, _, rp, rq, hc.1, hc.2.1, hc.2.2.1, hc.2.2.2, k _ H H₀ (Ext.refl zz) (by simp only [Rep])⟩))
    · cases e
  · rename_i i j
    simp only [Rep] at rp rq
    split at e
    · rename_i hc
      cases e
      have kk := k (.int (i * j)) H H₀ (Ext.refl zz) (by simp only [Rep])
      unfold mulOk at hc
      simp only [Bool.or_eq_true, decide_eq_true_eq] at hc
      rcases hc with hc | hc
      · exact .inl ⟨i, j, rp, rq, hc, kk⟩
      · exact .inr (.inl ⟨i, j, rp, rq, hc, kk⟩)
    · cases e
  · rename_i l j
    simp only [Rep] at rp rq
    obtain ⟨a, xs, h1, h2, h3⟩ := rp
    split at e
    · rename_i hc
      cases e
      refine .inr (.inr (.inl ⟨a, j, xs, h1, rq, md_H zz _ _ h2, hc.1, hc.2.1, by rw [← h3.length]; exact hc.2.2, fun r hr => ?_⟩))
      obtain ⟨E, rr⟩ := rep_lst_new (m := m) (F := F) zz hr (h3.rep j.toNat)
      exact k _ _ _ E rr
    · cases e
  · cases e
/-! ### equality -/
mutual
def toPD : PV → Option PyData
  | .non => some .none
  | .bl b => some (.bool b)
  | .int i => some (.int i)
  | .str s => some (.str s)
  | .lst l => (toPDs l).map .list
  | .scr l => (toPDs l).map .list
  | .tup l => (toPDs l).map .tuple
  | .ins _ _ => none
def toPDs : List PV → Option (List PyData)
  | [] => some []
  | p :: ps => (toPD p).bind fun d => (toPDs ps).map fun ds => d :: ds
end
mutual
theorem dp_of {H : Hp} : ∀ {p : PV} {v : V} {d : PyData}, Rep G H p v → toPD p = some d → Dp G.K H v d
  | .non, v, d, r, e => by simp only [Rep] at r; simp only [toPD] at e; subst r; cases e; exact .non
  | .bl b, v, d, r, e => by simp only [Rep] at r; simp only [toPD] at e; subst r; cases e; exact .bl b
  | .int b, v, d, r, e => by simp only [Rep] at r; simp only [toPD] at e; subst r; cases e; exact .int b
  | .str b, v, d, r, e => by simp only [Rep] at r; simp only [toPD] at e; subst r; cases e; exact .str b
  | .lst l, v, d, r, e => by
    simp only [Rep] at r
    simp only [toPD] at e
    obtain ⟨a, xs, h1, h2, h3⟩ := r
    subst h1
    cases q : toPDs l with
    | none => rw [q] at e; cases e
    | some ds => rw [q] at e; cases e; exact .lst (SqL.of h2) (dps_of h3 q)
  | .scr l, v, d, r, e => by
    simp only [Rep] at r
    simp only [toPD] at e
    obtain ⟨a, xs, h1, h2, h3⟩ := r
    subst h1
    cases q : toPDs l with
    | none => rw [q] at e; cases e
    | some ds => rw [q] at e; cases e; exact .lst h2 (dps_of h3 q)
  | .tup l, v, d, r, e => by
    simp only [Rep] at r
    simp only [toPD] at e
    obtain ⟨a, xs, h1, h2, h3⟩ := r
    subst h1
    cases q : toPDs l with
    | none => rw [q] at e; cases e
    | some ds => rw [q] at e; cases e; exact .tup h2 (dps_of h3 q)
  | .ins c fs, v, d, r, e => by simp only [toPD] at e; cases e
theorem dps_of {H : Hp} : ∀ {l : List PV} {vs : List V} {ds : List PyData}, Reps G H l vs → toPDs l = some ds → DpAll G.K H vs ds
  | [], vs, ds, r, e => by simp only [Reps] at r; simp only [toPDs] at e; subst r; cases e; exact .nil
  | p :: ps, vs, ds, r, e => by
    simp only [Reps] at r
    simp only [toPDs] at e
    obtain ⟨x, ys, h1, h2, h3⟩ := r
    subst h1
    cases q : toPD p with
    | none => rw [q] at e; cases e
    | some d =>
      cases q2 : toPDs ps with
      | none => rw [q, q2] at e; cases e
      | some es => rw [q, q2] at e; cases e; exact .cons (dp_of h2 q) (dps_of h3 q2)
end
/-- the scalars that == tells apart by what they are -/
def scalP : PV → PV → Option Bool
  | .non, .non => some true
  | .non, .int _ => some false | .int _, .non => some false | .non, .bl _ => some false | .bl _, .non => some false | .non, .str _ => some false | .str _, .non => some false
  | .int i, .int j => some (decide (i = j)) | .bl i, .bl j => some (decide (i = j)) | .str i, .str j => some (decide (i = j))
  | .int _, .str _ => some false | .str _, .int _ => some false | .bl _, .str _ => some false | .str _, .bl _ => some false
  | _, _ => none
theorem scalP_ok {H : Hp} {p q : PV} {x y : V} {b : Bool} (rp : Rep G H p x) (rq : Rep G H q y) (e : scalP p q = some b) : scal x y = true ∧ decide (x = y) = b := by
  unfold scalP at e
  split at e <;> first
    | (cases e; simp only [Rep] at rp rq; subst rp; subst rq; exact ⟨rfl, by simp⟩)
    | cases e
def eqR (p q : PV) : R Bool := match scalP p q with
  | some b => .ok b
  | none => match toPD p, toPD q with
    | some d, some e => if SeqAt.shaped d = true ∧ SeqAt.shaped e = true then .ok (PyData.eqv d e) else .no
    | _, _ => .no
def pyEq (p q : PV) : R PV := (eqR p q).bind fun b => .ok (.bl b)
def pyNe (p q : PV) : R PV := (eqR p q).bind fun b => .ok (.bl (!b))
theorem eqR_calm {p q : PV} {x : PX} : eqR p q ≠ .er x := by
  unfold eqR
  split
  · exact fun z => nomatch z
  · split
    · split <;> exact fun z => nomatch z
    · exact fun z => nomatch z
theorem calm_eq : Calm2 pyEq := fun p q x => by
  unfold pyEq
  cases e : eqR p q with
  | ok b => exact fun z => nomatch z
  | er x => exact absurd e eqR_calm
  | no => exact fun z => nomatch z
theorem calm_ne : Calm2 pyNe := fun p q x => by
  unfold pyNe
  cases e : eqR p q with
  | ok b => exact fun z => nomatch z
  | er x => exact absurd e eqR_calm
  | no => exact fun z => nomatch z
def rEqAll (K : PySem.W.Frag) : R2 := fun x y H Q => rEq x y H Q ∨ rEqD K x y H Q
def rNeAll (K : PySem.W.Frag) : R2 := fun x y H Q => rNe x y H Q ∨ rNeD K x y H Q
theorem op_eqAll {X : Cx} (hu : X.A.units + 64 < cLine) : OpR X (compareOp .Eq) (rEqAll X.K) := OpR.or op_eq (op_eqD hu)
theorem op_neAll {X : Cx} (hu : X.A.units + 64 < cLine) : OpR X (compareOp .NotEq) (rNeAll X.K) := OpR.or op_ne (op_neD hu)
theorem eqR_ok {H : Hp} {p q : PV} {x y : V} {b : Bool} (rp : Rep G H p x) (rq : Rep G H q y) (e : eqR p q = .ok b) : (scal x y = true ∧ decide (x = y) = b) ∨ ∃ d f, Dp G.K H x d ∧ Dp G.K H y f ∧ SeqAt.shaped d = true ∧ SeqAt.shaped f = true ∧ PyData.eqv d f = b := by
  unfold eqR at e
  split at e
  · rename_i b' hb
    cases e
    exact .inl (scalP_ok rp rq hb)
  · split at e
    · rename_i d f h1 h2
      split at e
      · rename_i hs
        cases e
        exact .inr ⟨d, f, dp_of rp h1, dp_of rq h2, hs.1, hs.2, rfl⟩
      · cases e
    · cases e
theorem eq_ok : Op2 G (rEqAll G.K) pyEq := by
  intro m H₀ H F p q z x y Q zz rp rq e k
  unfold pyEq at e
  cases h : eqR p q with
  | er x => exact absurd h eqR_calm
  | no => rw [h] at e; cases e
  | ok b =>
    rw [h] at e
    cases e
    have kk := k (.bl b) H H₀ (Ext.refl zz) (by simp only [Rep])
    rcases eqR_ok (rep_up zz rp) (rep_up zz rq) h with ⟨h1, h2⟩ | ⟨d, f, h1, h2, h3, h4, h5⟩
    · exact .inl ⟨h1, by rw [h2]; exact kk⟩
    · exact .inr ⟨d, f, h1, h2, h3, h4, by rw [h5]; exact kk⟩
theorem ne_ok : Op2 G (rNeAll G.K) pyNe := by
  intro m H₀ H F p q z x y Q zz rp rq e k
  unfold pyNe at e
  cases h : eqR p q with
  | er x => exact absurd h eqR_calm
  | no => rw [h] at e; cases e
  | ok b =>
    rw [h] at e
    cases e
    have kk := k (.bl (!b)) H H₀ (Ext.refl zz) (by simp only [Rep])
    rcases eqR_ok (rep_up zz rp) (rep_up zz rq) h with ⟨h1, h2⟩ | ⟨d, f, h1, h2, h3, h4, h5⟩
    · exact .inl ⟨h1, by rw [h2]; exact kk⟩
    · exact .inr ⟨d, f, h1, h2, h3, h4, by rw [h5]; exact kk⟩
/-! ### in -/
def flatP : PV → Bool
  | .non | .bl _ | .int _ | .str _ => true
  | _ => false
def toV : PV → V
  | .non => .non
  | .bl b => .bl b
  | .int i => .int i
  | .str s => .str s
  | _ => .non
theorem flat_ok {H : Hp} {p : PV} {v : V} (r : Rep G H p v) (f : flatP p = true) : v = toV p ∧ flatV v = true := by
  unfold flatP at f
  split at f <;> first | (simp only [Rep] at r; subst r; exact ⟨rfl, rfl⟩) | cases f
theorem flats_ok {H : Hp} : ∀ {l : List PV} {vs : List V}, Reps G H l vs → l.all flatP = true → vs = l.map toV ∧ vs.all flatV = true
  | [], vs, r, _ => by simp only [Reps] at r; subst r; exact ⟨rfl, rfl⟩
  | p :: ps, vs, r, f => by
    simp only [Reps] at r
    obtain ⟨x, ys, h1, h2, h3⟩ := r
    subst h1
    simp only [List.all_cons, Bool.and_eq_true] at f
    obtain ⟨e1, e2⟩ := flat_ok h2 f.1
    obtain ⟨e3, e4⟩ := flats_ok h3 f.2
    refine ⟨by rw [List.map_cons, ← e1, ← e3], by rw [List.all_cons, e2, e4]; rfl⟩
/-- x in y -/
def inR : PV → PV → R Bool
  | .str a, .str b => .ok (!(Builtin.Str.occurrences b a 0 b.length 1).isEmpty)
  | p, .tup l => if flatP p = true ∧ l.all flatP = true then .ok (inV (toV p) (l.map toV)) else .no
  | p, .lst l => if flatP p = true ∧ l.all flatP = true then .ok (inV (toV p) (l.map toV)) else match toPD p, toPDs l with
    | some d, some ds => if SeqAt.shaped d = true ∧ SeqAt.shaped (.list ds) = true then .ok (ds.any fun z => PyData.eqv z d) else .no
    | _, _ => .no
  | _, _ => .no
def rInAll (K : PySem.W.Frag) (neg : Bool) : R2 := fun x y H Q => (∃ i j, x = .str i ∧ y = .str j ∧ Q (.bl (if neg then !(!(Builtin.Str.occurrences j i 0 j.length 1).isEmpty) else !(Builtin.Str.occurrences j i 0 j.length 1).isEmpty)) H) ∨ rIn K neg x y H Q ∨
  ∃ d ds, Dp K H x d ∧ Dp K H y (.list ds) ∧ SeqAt.shaped d = true ∧ SeqAt.shaped (.list ds) = true ∧ Q (.bl (if neg then !(ds.any fun z => PyData.eqv z d) else ds.any fun z => PyData.eqv z d)) H
theorem op_inAll {X : Cx} (hu : X.A.units + 65 < cLine) : OpR X (compareOp .In) (rInAll X.K false) := by
  intro pins s σ H x y v u Q I rx ry h
  rcases h with h | h | h
  · exact op_in_str pins s σ H x y v u Q I rx ry h
  · exact op_in_seq pins s σ H x y v u Q I rx ry h
  · exact op_inD hu pins s σ H x y v u Q I rx ry h
theorem op_notInAll {X : Cx} (hu : X.A.units + 65 < cLine) : OpR X (compareOp .NotIn) (rInAll X.K true) := by
  intro pins s σ H x y v u Q I rx ry h
  rcases h with h | h | h
  · exact op_notin_str pins s σ H x y v u Q I rx ry h
  · exact op_notIn_seq pins s σ H x y v u Q I rx ry h
  · exact op_notInD hu pins s σ H x y v u Q I rx ry h
def pyIn (neg : Bool) (p q : PV) : R PV := (inR p q).bind fun b => .ok (.bl (if neg then !b else b))
theorem inR_calm {p q : PV} {x : PX} : inR p q ≠ .er x := by
  unfold inR
  split
  · exact fun z => nomatch z
  · split <;> exact fun z => nomatch z
  · split
    · exact fun z => nomatch z
    · split
      · split <;> exact fun z => nomatch z
      · exact fun z => nomatch z
  · exact fun z => nomatch z
theorem calm_in {neg : Bool} : Calm2 (pyIn neg) := fun p q x => by
  unfold pyIn
  cases e : inR p q with
  | ok b => exact fun z => nomatch z
  | er x => exact absurd e inR_calm
  | no => exact fun z => nomatch z
theorem in_ok {neg : Bool} : Op2 G (rInAll G.K neg) (pyIn neg) := by
  intro m H₀ H F p q z x y Q zz rp0 rq0 e k
  have rp := rep_up zz rp0
  have rq := rep_up zz rq0
  unfold pyIn at e
  cases h : inR p q with
  | er x => exact absurd h inR_calm
  | no => rw [h] at e; cases e
  | ok b =>
    rw [h] at e
    cases e
    have kk := k (.bl (if neg then !b else b)) H H₀ (Ext.refl zz) (by simp only [Rep])
    unfold inR at h
    split at h
    · simp only [Rep] at rp rq
      cases h
      exact .inl ⟨_, _, rp, rq, kk⟩
    · simp only [Rep] at rq
      obtain ⟨a, xs, h1, h2, h3⟩ := rq
      split at h
      · rename_i hf
        cases h
        obtain ⟨e1, e2⟩ := flat_ok rp hf.1
        obtain ⟨e3, e4⟩ := flats_ok h3 hf.2
        refine .inr (.inl ⟨a, xs, h1, .inr h2, e2, e4, ?_⟩)
        rw [e1, e3]
        exact kk
      · cases h
    · simp only [Rep] at rq
      have rq' := rq
      obtain ⟨a, xs, h1, h2, h3⟩ := rq
      split at h
      · rename_i hf
        cases h
        obtain ⟨e1, e2⟩ := flat_ok rp hf.1
        obtain ⟨e3, e4⟩ := flats_ok h3 hf.2
        refine .inr (.inl ⟨a, xs, h1, .inl (SqL.of h2), e2, e4, ?_⟩)
        rw [e1, e3]
        exact kk
      · split at h
        · rename_i d ds q1 q2
          split at h
          · rename_i hs
            cases h
            subst h1
            exact .inr (.inr ⟨d, ds, dp_of rp q1, .lst (SqL.of h2) (dps_of h3 q2), hs.1, hs.2, kk⟩)
          · cases h
        · cases h
    · cases h
/-! ### subscripts -/
def idxR : PV → PV → R PV
  | .lst l, .int i => R.of (atI l i)
  | .scr l, .int i => R.of (atI l i)
  | .tup l, .int i => R.of (atI l i)
  | .str z, .int i => if z.length ≤ sizeLine then R.of ((atI z.cps.toList i).map fun c => .str ⟨#[c]⟩) else .no
  | _, _ => .no
theorem R.of_calm {α : Type} {o : Option α} {x : PX} : R.of o ≠ .er x := by cases o <;> exact fun z => nomatch z
theorem calm_idx : Calm2 idxR := by
  intro p q x
  unfold idxR
  split <;> first | exact R.of_calm | (intro z; cases z; done) | (split <;> first | exact R.of_calm | (intro z; cases z; done))
def rIxAll (K : PySem.W.Frag) : R2 := fun x y H Q => rIxL K x y H Q ∨ rIxT K x y H Q ∨ rIxS x y H Q
theorem ix_all {X : Cx} : IxR X (rIxAll X.K) := IxR.or ix_list (IxR.or ix_tup ix_str)
theorem Reps.atI {H : Hp} {l : List PV} {xs : List V} {i : Int} {p : PV} (r : Reps G H l xs) (e : L2.atI l i = some p) : ∃ v, L2.atI xs i = some v ∧ Rep G H p v := by
  unfold L2.atI at e ⊢
  rw [← r.length]
  cases q : ixN l.length i with
  | none => rw [q] at e; cases e
  | some j =>
    rw [q] at e
    exact r.get e
theorem idx_ok : Op2 G (rIxAll G.K) idxR := by
  intro m H₀ H F p q z x y Q zz rp rq e k
  unfold idxR at e
  split at e
  · rename_i l i
    simp only [Rep] at rp rq
    obtain ⟨a, xs, h1, h2, h3⟩ := rp
    cases q : L2.atI l i with
    | none => rw [q] at e; cases e
    | some w =>
      rw [q] at e
      cases e
      obtain ⟨v, e1, e2⟩ := h3.atI q
      exact .inl ⟨a, xs, i, v, h1, rq, SqL.of (md_H zz _ _ h2), e1, k v H H₀ (Ext.refl zz) e2⟩
  · rename_i l i
    simp only [Rep] at rp rq
    obtain ⟨a, xs, h1, h2, h3⟩ := rp
    cases q : L2.atI l i with
    | none => rw [q] at e; cases e
    | some w =>
      rw [q] at e
      cases e
      obtain ⟨v, e1, e2⟩ := h3.atI q
      exact .inl ⟨a, xs, i, v, h1, rq, (md_H zz).seq h2, e1, k v H H₀ (Ext.refl zz) e2⟩
  · rename_i l i
    simp only [Rep] at rp rq
    obtain ⟨a, xs, h1, h2, h3⟩ := rp
    cases q : L2.atI l i with
    | none => rw [q] at e; cases e
    | some w =>
      rw [q] at e
      cases e
      obtain ⟨v, e1, e2⟩ := h3.atI q
      exact .inr (.inl ⟨a, xs, i, v, h1, rq, Same.seqT (md_H zz) h2, e1, k v H H₀ (Ext.refl zz) e2⟩)
  · rename_i s i
    simp only [Rep] at rp rq
    split at e
    · rename_i hs
      cases q : L2.atI s.cps.toList i with
      | none => rw [q] at e; cases e
      | some w =>
        rw [q] at e
        cases e
        exact .inr (.inr ⟨s, i, w, rp, rq, hs, q, k _ H H₀ (Ext.refl zz) (by simp only [Rep])⟩)
    · cases e
  · cases e
end
section
variable {C : Fc} {W : WX} {m : Bool} {X : Cx} {a b c : Expr} {pos : Pos} {fa fb : Env → R PV}
def eIdx (fa fb : Env → R PV) : Env → R PV := eBin idxR fa fb
theorem qIdx (hK : X.K = C.G.K) (ha : QE C W m X a fa) (hb : QE C W m X b fb) (hs : PlainIx b := by exact fun _ _ => rfl) : QE C W m X (.Subscript a b pos) (eIdx fa fb) :=
  PE.imp (pe_ix ix_all ha hb hs) fun σ H Q h => op2_go calm_idx (by rw [hK]; exact idx_ok) h
theorem qAdd (hK : X.K = C.G.K) (ha : QE C W m X a fa) (hb : QE C W m X b fb) : QE C W m X (.BinOp a .Add b pos) (eBin pyAdd fa fb) := qBin op_addAll calm_add (by rw [hK]; exact add_ok) ha hb
theorem qSub (ha : QE C W m X a fa) (hb : QE C W m X b fb) : QE C W m X (.BinOp a .Sub b pos) (eBin pySub fa fb) := qBin op_sub' calm_sub sub_ok ha hb
theorem qMul (ha : QE C W m X a fa) (hb : QE C W m X b fb) : QE C W m X (.BinOp a .Mult b pos) (eBin pyMul fa fb) := qBin op_mulAll calm_mul mul_ok ha hb
theorem qFdiv (ha : QE C W m X a fa) (hb : QE C W m X b fb) : QE C W m X (.BinOp a .FloorDiv b pos) (eBin pyFdiv fa fb) := qBin op_fdivW calm_fdiv fdiv_ok ha hb
theorem qMod (ha : QE C W m X a fa) (hb : QE C W m X b fb) : QE C W m X (.BinOp a .Mod b pos) (eBin pyMod fa fb) := qBin op_mod calm_mod mod_ok ha hb
theorem qPow (ha : QE C W m X a fa) (hb : QE C W m X b fb) : QE C W m X (.BinOp a .Pow b pos) (eBin pyPow fa fb) := qBin op_pow calm_pow pow_ok ha hb
theorem qLt (ha : QE C W m X a fa) (hb : QE C W m X b fb) : QE C W m X (.Compare a [.Lt] [b] pos) (eBin pyLt fa fb) := qCmp op_lt intCmp_calm intCmp_ok ha hb
theorem qLe (ha : QE C W m X a fa) (hb : QE C W m X b fb) : QE C W m X (.Compare a [.LtE] [b] pos) (eBin pyLe fa fb) := qCmp op_le intCmp_calm intCmp_ok ha hb
theorem qGt (ha : QE C W m X a fa) (hb : QE C W m X b fb) : QE C W m X (.Compare a [.Gt] [b] pos) (eBin pyGt fa fb) := qCmp op_gt intCmp_calm intCmp_ok ha hb
theorem qGe (ha : QE C W m X a fa) (hb : QE C W m X b fb) : QE C W m X (.Compare a [.GtE] [b] pos) (eBin pyGe fa fb) := qCmp op_ge intCmp_calm intCmp_ok ha hb
theorem tLt (ha : QE C W m X a fa) (hb : QE C W m X b fb) : QT C W X (.Compare a [.Lt] [b] pos) (eTst (eBin pyLt fa fb)) := qtCmp op_lt intCmp_calm intCmp_ok ha hb
theorem tLe (ha : QE C W m X a fa) (hb : QE C W m X b fb) : QT C W X (.Compare a [.LtE] [b] pos) (eTst (eBin pyLe fa fb)) := qtCmp op_le intCmp_calm intCmp_ok ha hb
theorem tGt (ha : QE C W m X a fa) (hb : QE C W m X b fb) : QT C W X (.Compare a [.Gt] [b] pos) (eTst (eBin pyGt fa fb)) := qtCmp op_gt intCmp_calm intCmp_ok ha hb
theorem tGe (ha : QE C W m X a fa) (hb : QE C W m X b fb) : QT C W X (.Compare a [.GtE] [b] pos) (eTst (eBin pyGe fa fb)) := qtCmp op_ge intCmp_calm intCmp_ok ha hb
theorem qEq (hK : X.K = C.G.K) (hu : X.A.units + 65 < cLine) (ha : QE C W m X a fa) (hb : QE C W m X b fb) : QE C W m X (.Compare a [.Eq] [b] pos) (eBin pyEq fa fb) := qCmp (op_eqAll (by omega)) calm_eq (by rw [hK]; exact eq_ok) ha hb
theorem qNe (hK : X.K = C.G.K) (hu : X.A.units + 65 < cLine) (ha : QE C W m X a fa) (hb : QE C W m X b fb) : QE C W m X (.Compare a [.NotEq] [b] pos) (eBin pyNe fa fb) := qCmp (op_neAll (by omega)) calm_ne (by rw [hK]; exact ne_ok) ha hb
theorem tEq (hK : X.K = C.G.K) (hu : X.A.units + 65 < cLine) (ha : QE C W m X a fa) (hb : QE C W m X b fb) : QT C W X (.Compare a [.Eq] [b] pos) (eTst (eBin pyEq fa fb)) := qtCmp (op_eqAll (by omega)) calm_eq (by rw [hK]; exact eq_ok) ha hb
theorem tNe (hK : X.K = C.G.K) (hu : X.A.units + 65 < cLine) (ha : QE C W m X a fa) (hb : QE C W m X b fb) : QT C W X (.Compare a [.NotEq] [b] pos) (eTst (eBin pyNe fa fb)) := qtCmp (op_neAll (by omega)) calm_ne (by rw [hK]; exact ne_ok) ha hb
theorem qIn (hK : X.K = C.G.K) (hu : X.A.units + 65 < cLine) (ha : QE C W m X a fa) (hb : QE C W m X b fb) (hm : behindInMarks .In b = false := by rfl) : QE C W m X (.Compare a [.In] [b] pos) (eBin (pyIn false) fa fb) := qCmp (op_inAll hu) calm_in (by rw [hK]; exact in_ok) ha hb hm
theorem qNotIn (hK : X.K = C.G.K) (hu : X.A.units + 65 < cLine) (ha : QE C W m X a fa) (hb : QE C W m X b fb) (hm : behindInMarks .NotIn b = false := by rfl) : QE C W m X (.Compare a [.NotIn] [b] pos) (eBin (pyIn true) fa fb) := qCmp (op_notInAll hu) calm_in (by rw [hK]; exact in_ok) ha hb hm
theorem tIn (hK : X.K = C.G.K) (hu : X.A.units + 65 < cLine) (ha : QE C W m X a fa) (hb : QE C W m X b fb) (hm : behindInMarks .In b = false := by rfl) : QT C W X (.Compare a [.In] [b] pos) (eTst (eBin (pyIn false) fa fb)) := qtCmp (op_inAll hu) calm_in (by rw [hK]; exact in_ok) ha hb hm
theorem tNotIn (hK : X.K = C.G.K) (hu : X.A.units + 65 < cLine) (ha : QE C W m X a fa) (hb : QE C W m X b fb) (hm : behindInMarks .NotIn b = false := by rfl) : QT C W X (.Compare a [.NotIn] [b] pos) (eTst (eBin (pyIn true) fa fb)) := qtCmp (op_notInAll hu) calm_in (by rw [hK]; exact in_ok) ha hb hm
/-! is None -/
def isN : PV → Bool
  | .non => true
  | _ => false
theorem isN_ok {G : Gc} {H : Hp} {p : PV} {v : V} (r : Rep G H p v) : decide (v = .non) = isN p := by
  cases p with
  | non => simp only [Rep] at r; subst r; rfl
  | bl b => simp only [Rep] at r; subst r; rfl
  | int b => simp only [Rep] at r; subst r; rfl
  | str b => simp only [Rep] at r; subst r; rfl
  | lst l => simp only [Rep] at r; obtain ⟨a, xs, h1, _⟩ := r; subst h1; rfl
  | scr l => simp only [Rep] at r; obtain ⟨a, xs, h1, _⟩ := r; subst h1; rfl
  | tup l => simp only [Rep] at r; obtain ⟨a, xs, h1, _⟩ := r; subst h1; rfl
  | ins c fs => simp only [Rep] at r; obtain ⟨a, dx, xs, h1, _⟩ := r; subst h1; rfl
def eIsN (f : Env → R PV) : Env → R PV := fun ρ => (f ρ).bind fun p => .ok (.bl (isN p))
def eNotN (f : Env → R PV) : Env → R PV := fun ρ => (f ρ).bind fun p => .ok (.bl (!isN p))
theorem isN_go {σ : L2.St} {H : Hp} {Q : VK} (g : Bool → Bool) (h : tE C W m (fun ρ => (fa ρ).bind fun p => .ok (.bl (g (isN p)))) σ H Q) : tE C W m fa σ H fun x H1 => Q (.bl (g (decide (x = .non)))) H1 := by
  rw [tE_iff] at h ⊢
  obtain ⟨H₀, F, ρ, S, h⟩ := h
  rw [Goes.bind] at h
  refine ⟨H₀, F, ρ, S, h.imp fun p _ h v H1 H₁ E1 r1 => ?_⟩
  rw [isN_ok r1]
  exact h _ H1 H₁ E1 (by simp only [Rep])
theorem qIsN {j pos'} (ha : QE C W m X a fa) : QE C W m X (.Compare a [.Is] [.Constant .none j pos'] pos) (eIsN fa) := PE.imp (pe_cmp (pc_isN ha)) fun σ H Q h => isN_go (fun b => b) h
theorem qNotN {j pos'} (ha : QE C W m X a fa) : QE C W m X (.Compare a [.IsNot] [.Constant .none j pos'] pos) (eNotN fa) := PE.imp (pe_cmp (pc_notN ha)) fun σ H Q h => isN_go (fun b => !b) h
theorem tst_isN {σ : L2.St} {H : Hp} {Q : Bool → Hp → Prop} (g : Bool → Bool) (h : tTt C W (eTst (fun ρ => (fa ρ).bind fun p => .ok (.bl (g (isN p))))) σ H Q) : tE C W m fa σ H fun x H1 => ∃ c, V.bl (g (decide (x = .non))) = .bl c ∧ Q c H1 :=
  isN_go (m := m) (Q := fun x H1 => ∃ c, x = .bl c ∧ Q c H1) g (tst_go h)
theorem tIsN {j pos'} (ha : QE C W m X a fa) : QT C W X (.Compare a [.Is] [.Constant .none j pos'] pos) (eTst (eIsN fa)) := PT.imp (pt_cmp (pc_isN ha)) fun σ H Q h => tst_isN (fun b => b) h
theorem tNotN {j pos'} (ha : QE C W m X a fa) : QT C W X (.Compare a [.IsNot] [.Constant .none j pos'] pos) (eTst (eNotN fa)) := PT.imp (pt_cmp (pc_notN ha)) fun σ H Q h => tst_isN (fun b => !b) h
/-! -x -/
def pyNeg : PV → R PV
  | .int i => .ok (.int (-i))
  | _ => .no
def eUn (g : PV → R PV) (f : Env → R PV) : Env → R PV := fun ρ => (f ρ).bind g
theorem qNeg (ha : QE C W m X a fa) : QE C W m X (.UnaryOp .USub a pos) (eUn pyNeg fa) := by
  refine PE.imp (pe_un un_neg ha) fun σ H Q h => ?_
  show tE C W m fa σ H fun x H1 => ∃ i, x = .int i ∧ Q (.int (-i)) H1
  rw [tE_iff] at h ⊢
  obtain ⟨H₀, F, ρ, S, h⟩ := h
  unfold eUn at h
  rw [Goes.bind] at h
  refine ⟨H₀, F, ρ, S, h.imp fun p _ h v H1 H₁ E1 r1 => ?_⟩
  cases p with
  | int i =>
    simp only [Rep] at r1
    exact ⟨i, r1, h _ H1 H₁ E1 (by simp only [Rep])⟩
  | _ => exact (show False from h).elim
end
end L3

/-! L3. 4: built-ins, slices, fields, isinstance -/
namespace L3
open PySem PySem.Spec PyProof.Rows L2
/-! ### built-ins by values -/
def OpC (Γ : Gc) (r : List V → Hp → VK → Prop) (g : List PV → R PV) : Prop := ∀ (m : Bool) (H₀ H : Hp) (F : List Addr) (ps : List PV) (z : PV) (vs : List V) (Q : VK), Same H₀ H → Reps Γ (md m H₀ H F) ps vs → g ps = .ok z →
  (∀ v H' H₀', Ext H₀ H H₀' H' → Rep Γ (md m H₀' H' F) z v → Q v H') → r vs H Q
def OpF (Γ : Gc) (r : List V → Hp → VK → Prop) (g : List PV → R OV) : Prop := ∀ (H₀ H : Hp) (ps : List PV) (o : OV) (vs : List V) (Q : VK), Same H₀ H → Reps Γ H₀ ps vs → g ps = .ok o →
  (∀ v H' H₀' Fv, Ext H₀ H H₀' H' → OwnR Γ H₀' H' o v Fv → Fv.Nodup → (∀ a ∈ Fv, H a = none ∧ H₀' a = none) → Q v H') → r vs H Q
def CalmC {α : Type} (g : List PV → R α) : Prop := ∀ ps x, g ps ≠ .er x
def eB (g : List PV → R PV) (fas : Env → R (List PV)) : Env → R PV := fun ρ => (fas ρ).bind g
def fB (g : List PV → R OV) (fas : Env → R (List PV)) : Env → R OV := fun ρ => (fas ρ).bind g
section
variable {C : Fc} {W : WX} {m : Bool} {X : Cx} {a b c e : Expr} {es : List Expr} {pos p : Pos} {x : Str} {fas : Env → R (List PV)} {fa : Env → R PV} {σ : L2.St} {H : Hp}
theorem opC_go {r : List V → Hp → VK → Prop} {g : List PV → R PV} (hg : CalmC g) (ho : OpC C.G r g) {Q : VK} (h : tE C W m (eB g fas) σ H Q) : tAs C W m fas σ H fun vs H1 => r vs H1 Q := by
  rw [tE_iff] at h
  rw [tA_iff]
  obtain ⟨H₀, F, ρ, S, h⟩ := h
  unfold eB at h
  rw [Goes.bind] at h
  refine ⟨H₀, F, ρ, S, h.imp fun ps _ h vs H1 H₁ E1 r1 => ?_⟩
  cases q : g ps with
  | ok z =>
    rw [q] at h
    exact ho m H₁ H1 F ps z vs Q E1.z r1 q fun v H2 H₂ E2 r2 => h v H2 H₂ (E1.trans E2) r2
  | er x => exact absurd q (hg ps x)
  | no =>
    rw [q] at h
    exact h.elim
theorem opF_go {r : List V → Hp → VK → Prop} {g : List PV → R OV} (hg : CalmC g) (ho : OpF C.G r g) {Q : VK} (h : tF C W (fB g fas) σ H Q) : tAs C W true fas σ H fun vs H1 => r vs H1 Q := by
  rw [tF_iff] at h
  rw [tA_iff]
  obtain ⟨H₀, F, ρ, S, h⟩ := h
  unfold fB at h
  rw [Goes.bind] at h
  refine ⟨H₀, F, ρ, S, h.imp fun ps _ h vs H1 H₁ E1 r1 => ?_⟩
  cases q : g ps with
  | ok z =>
    rw [q] at h
    exact ho H₁ H1 ps z vs Q E1.z r1 q fun v H2 H₂ Fv E2 r2 n2 f2 => h v H2 H₂ Fv (E1.trans E2) r2 n2 fun a ha => ⟨Same.free E1.s (f2 a ha).1, (f2 a ha).2⟩
  | er x => exact absurd q (hg ps x)
  | no =>
    rw [q] at h
    exact h.elim
theorem qB {id : String} {r : List V → Hp → VK → Prop} {g : List PV → R PV} (hc : CallR X (.builtin id) r) (hg : CalmC g) (ho : OpC C.G r g) (hm : X.mg x = none) (hv : bootBuiltins x = some (.builtin id)) (ha : QA C W m X (e :: es) fas)
    (hgl : Gl X x := by rfl) (hn : x ≠ "__name__" := by decide) (hdb : (x == ("__debug__" : Str)) = false := by decide) (he : starEach (e :: es) X.env = (false, eval e X.env) :: starEach es X.env := by rfl) (hpl : (backTo pos (starEach es X.env)).any (·.1) = false := by rfl) :
    QE C W m X (.Call (.Name x p) (e :: es) [] pos) (eB g fas) := PE.imp (pe_callB hc hgl hm hv ha hn hdb he hpl) fun σ H Q h => opC_go hg ho h
theorem qBty {id : String} {r : List V → Hp → VK → Prop} {g : List PV → R PV} (hc : CallR X (.type id) r) (hg : CalmC g) (ho : OpC C.G r g) (hm : X.mg x = none) (hv : bootBuiltins x = some (.type id)) (ha : QA C W m X (e :: es) fas)
    (hgl : Gl X x := by rfl) (hn : x ≠ "__name__" := by decide) (hdb : (x == ("__debug__" : Str)) = false := by decide) (he : starEach (e :: es) X.env = (false, eval e X.env) :: starEach es X.env := by rfl) (hpl : (backTo pos (starEach es X.env)).any (·.1) = false := by rfl) :
    QE C W m X (.Call (.Name x p) (e :: es) [] pos) (eB g fas) := PE.imp (pe_callTy hc hgl hm hv ha hn hdb he hpl) fun σ H Q h => opC_go hg ho h
theorem qFB {id : String} {r : List V → Hp → VK → Prop} {g : List PV → R OV} (hc : CallR X (.builtin id) r) (hg : CalmC g) (ho : OpF C.G r g) (hm : X.mg x = none) (hv : bootBuiltins x = some (.builtin id)) (ha : QA C W true X (e :: es) fas)
    (hgl : Gl X x := by rfl) (hn : x ≠ "__name__" := by decide) (hdb : (x == ("__debug__" : Str)) = false := by decide) (he : starEach (e :: es) X.env = (false, eval e X.env) :: starEach es X.env := by rfl) (hpl : (backTo pos (starEach es X.env)).any (·.1) = false := by rfl) :
    QF C W X (.Call (.Name x p) (e :: es) [] pos) (fB g fas) := PE.imp (pe_callB hc hgl hm hv ha hn hdb he hpl) fun σ H Q h => opF_go hg ho h
theorem qFBty {id : String} {r : List V → Hp → VK → Prop} {g : List PV → R OV} (hc : CallR X (.type id) r) (hg : CalmC g) (ho : OpF C.G r g) (hm : X.mg x = none) (hv : bootBuiltins x = some (.type id)) (ha : QA C W true X (e :: es) fas)
    (hgl : Gl X x := by rfl) (hn : x ≠ "__name__" := by decide) (hdb : (x == ("__debug__" : Str)) = false := by decide) (he : starEach (e :: es) X.env = (false, eval e X.env) :: starEach es X.env := by rfl) (hpl : (backTo pos (starEach es X.env)).any (·.1) = false := by rfl) :
    QF C W X (.Call (.Name x p) (e :: es) [] pos) (fB g fas) := PE.imp (pe_callTy hc hgl hm hv ha hn hdb he hpl) fun σ H Q h => opF_go hg ho h
end
/-! the functions -/
def bLen : List PV → R PV
  | [.lst l] => .ok (.int l.length)
  | [.scr l] => .ok (.int l.length)
  | [.tup l] => .ok (.int l.length)
  | [.str z] => if z.length ≤ sizeLine then .ok (.int z.length) else .no
  | _ => .no
def bAbs : List PV → R PV
  | [.int i] => .ok (.int (if i < 0 then -i else i))
  | _ => .no
def bInt : List PV → R PV
  | [.int i] => .ok (.int i)
  | [.bl b] => .ok (.int (if b then 1 else 0))
  | _ => .no
def bStr : List PV → R PV
  | [.int i] => if i.natAbs.log2 < 1920 then .ok (.str (toString i)) else .no
  | [.str s] => .ok (.str s)
  | _ => .no
def toInts : List PV → Option (List Int)
  | [] => some []
  | .int i :: r => (toInts r).map (i :: ·)
  | _ => none
def toBls : List PV → Option (List Bool)
  | [] => some []
  | .bl i :: r => (toBls r).map (i :: ·)
  | _ => none
def maxL : List Int → Int
  | [] => 0
  | [a] => a
  | a :: r => max a (maxL r)
def minL : List Int → Int
  | [] => 0
  | [a] => a
  | a :: r => min a (minL r)
def bMax : List PV → R PV
  | [.int i, .int j] => .ok (.int (if j > i then j else i))
  | [.lst l] => match toInts l with
    | some (n :: ns) => .ok (.int (maxL (n :: ns)))
    | _ => .no
  | _ => .no
def bMin : List PV → R PV
  | [.int i, .int j] => .ok (.int (if j < i then j else i))
  | [.lst l] => match toInts l with
    | some (n :: ns) => .ok (.int (minL (n :: ns)))
    | _ => .no
  | _ => .no
def bSum : List PV → R PV
  | [.lst l] => match toInts l with
    | some ns => .ok (.int ns.sum)
    | _ => .no
  | _ => .no
def bAll : List PV → R PV
  | [.lst l] => match toBls l with
    | some bs => .ok (.bl (bs.all id))
    | _ => .no
  | _ => .no
def bAny : List PV → R PV
  | [.lst l] => match toBls l with
    | some bs => .ok (.bl (bs.any id))
    | _ => .no
  | _ => .no
def bTuple : List PV → R PV
  | [.lst l] => .ok (.tup l)
  | [.tup l] => .ok (.tup l)
  | _ => .no
/-- a new list -/
def bList : List PV → R OV
  | [.lst l] => .ok (.own (l.map .sh))
  | [.tup l] => .ok (.own (l.map .sh))
  | _ => .no
section
variable {G : Gc} {X : Cx}
theorem R.not_er {α : Type} {P : Prop} [Decidable P] {a : α} {x : PX} : (if P then R.ok a else R.no) ≠ .er x := by
  split <;> (intro z; cases z)
theorem calm_len : CalmC bLen := fun ps x => by unfold bLen; split <;> first | exact R.not_er | (intro z; cases z)
theorem calm_abs : CalmC bAbs := fun ps x => by unfold bAbs; split <;> (intro z; cases z)
theorem calm_int : CalmC bInt := fun ps x => by unfold bInt; split <;> (intro z; cases z)
theorem calm_str : CalmC bStr := fun ps x => by unfold bStr; split <;> first | exact R.not_er | (intro z; cases z)
theorem calm_max : CalmC bMax := fun ps x => by unfold bMax; split <;> first | (intro z; cases z; done) | (split <;> (intro z; cases z))
theorem calm_min : CalmC bMin := fun ps x => by unfold bMin; split <;> first | (intro z; cases z; done) | (split <;> (intro z; cases z))
theorem calm_sum : CalmC bSum := fun ps x => by unfold bSum; split <;> first | (intro z; cases z; done) | (split <;> (intro z; cases z))
theorem calm_all : CalmC bAll := fun ps x => by unfold bAll; split <;> first | (intro z; cases z; done) | (split <;> (intro z; cases z))
theorem calm_any : CalmC bAny := fun ps x => by unfold bAny; split <;> first | (intro z; cases z; done) | (split <;> (intro z; cases z))
theorem calm_tuple : CalmC bTuple := fun ps x => by unfold bTuple; split <;> (intro z; cases z)
theorem calm_list : CalmC bList := fun ps x => by unfold bList; split <;> (intro z; cases z)
theorem reps1 {H : Hp} {p : PV} {vs : List V} (r : Reps G H [p] vs) : ∃ v, vs = [v] ∧ Rep G H p v := by
  simp only [Reps] at r
  obtain ⟨x, ys, h1, h2, h3⟩ := r
  subst h3
  exact ⟨x, h1, h2⟩
theorem reps2 {H : Hp} {p q : PV} {vs : List V} (r : Reps G H [p, q] vs) : ∃ v w, vs = [v, w] ∧ Rep G H p v ∧ Rep G H q w := by
  simp only [Reps] at r
  obtain ⟨x, ys, h1, h2, y, zs, h3, h4, h5⟩ := r
  subst h5 h3
  exact ⟨x, y, h1, h2, h4⟩
theorem ints_ok {H : Hp} : ∀ {l : List PV} {ns : List Int} {xs : List V}, Reps G H l xs → toInts l = some ns → xs = ns.map V.int
  | [], ns, xs, r, e => by simp only [Reps] at r; subst r; cases e; rfl
  | p :: ps, ns, xs, r, e => by
    simp only [Reps] at r
    obtain ⟨x, ys, h1, h2, h3⟩ := r
    subst h1
    cases p <;> try (cases e; done)
    rename_i i
    simp only [toInts] at e
    cases q : toInts ps with
    | none => rw [q] at e; cases e
    | some ms =>
      rw [q] at e
      cases e
      simp only [Rep] at h2
      rw [h2, ints_ok h3 q]
      rfl
theorem bls_ok {H : Hp} : ∀ {l : List PV} {ns : List Bool} {xs : List V}, Reps G H l xs → toBls l = some ns → xs = ns.map V.bl
  | [], ns, xs, r, e => by simp only [Reps] at r; subst r; cases e; rfl
  | p :: ps, ns, xs, r, e => by
    simp only [Reps] at r
    obtain ⟨x, ys, h1, h2, h3⟩ := r
    subst h1
    cases p <;> try (cases e; done)
    rename_i i
    simp only [toBls] at e
    cases q : toBls ps with
    | none => rw [q] at e; cases e
    | some ms =>
      rw [q] at e
      cases e
      simp only [Rep] at h2
      rw [h2, bls_ok h3 q]
      rfl
theorem maxL_is : ∀ (n : Int) (ns : List Int) (k : Int), k ∈ n :: ns → (∀ y, y ∈ n :: ns → y ≤ k) → k = maxL (n :: ns)
  | n, [], k, h, _ => by simpa [maxL] using h
  | n, a :: r, k, h, u => by
    show k = max n (maxL (a :: r))
    have mem : ∀ (a : Int) (r : List Int), maxL (a :: r) ∈ a :: r := by
      intro a r
      induction r generalizing a with
      | nil => simp [maxL]
      | cons b t ih =>
        show max a (maxL (b :: t)) ∈ _
        rcases Int.le_total a (maxL (b :: t)) with z | z
        · rw [Int.max_eq_right z]; exact List.mem_cons_of_mem _ (ih b)
        · rw [Int.max_eq_left z]; exact List.mem_cons_self
    have up : ∀ (a : Int) (r : List Int) (y : Int), y ∈ a :: r → y ≤ maxL (a :: r) := by
      intro a r
      induction r generalizing a with
      | nil => intro y hy; simp at hy; simp [maxL, hy]
      | cons b t ih =>
        intro y hy
        show y ≤ max a (maxL (b :: t))
        rcases List.mem_cons.mp hy with e | hy
        · omega
        · have := ih b y hy; omega
    have h1 := u n List.mem_cons_self
    have h2 := u _ (List.mem_cons_of_mem _ (mem a r))
    rcases List.mem_cons.mp h with e | hk
    · omega
    · have := up a r k hk; omega
theorem minL_is : ∀ (n : Int) (ns : List Int) (k : Int), k ∈ n :: ns → (∀ y, y ∈ n :: ns → k ≤ y) → k = minL (n :: ns)
  | n, [], k, h, _ => by simpa [minL] using h
  | n, a :: r, k, h, u => by
    show k = min n (minL (a :: r))
    have mem : ∀ (a : Int) (r : List Int), minL (a :: r) ∈ a :: r := by
      intro a r
      induction r generalizing a with
      | nil => simp [minL]
      | cons b t ih =>
        show min a (minL (b :: t)) ∈ _
        rcases Int.le_total a (minL (b :: t)) with z | z
        · rw [Int.min_eq_left z]; exact List.mem_cons_self
        · rw [Int.min_eq_right z]; exact List.mem_cons_of_mem _ (ih b)
    have up : ∀ (a : Int) (r : List Int) (y : Int), y ∈ a :: r → minL (a :: r) ≤ y := by
      intro a r
      induction r generalizing a with
      | nil => intro y hy; simp at hy; simp [minL, hy]
      | cons b t ih =>
        intro y hy
        show min a (minL (b :: t)) ≤ y
        rcases List.mem_cons.mp hy with e | hy
        · omega
        · have := ih b y hy; omega
    have h1 := u n List.mem_cons_self
    have h2 := u _ (List.mem_cons_of_mem _ (mem a r))
    rcases List.mem_cons.mp h with e | hk
    · omega
    · have := up a r k hk; omega
def rLenAll (K : PySem.W.Frag) : List V → Hp → VK → Prop := fun xs H Q => (∃ p ys, xs = [.ref p] ∧ (SqL K H p ys ∨ SqT K H p ys) ∧ Q (.int ys.length) H) ∨ ∃ z, xs = [.str z] ∧ z.length ≤ sizeLine ∧ Q (.int z.length) H
theorem cr_lenAll : CallR X (.builtin "len") (rLenAll X.K) := CallR.or call_len_seq call_len_str
theorem len_ok : OpC G (rLenAll G.K) bLen := by
  intro m H₀ H F ps z vs Q zz rs e k
  unfold bLen at e
  split at e
  · obtain ⟨v, e1, r⟩ := reps1 rs
    simp only [Rep] at r
    obtain ⟨a, xs, h1, h2, h3⟩ := r
    cases e
    subst h1
    refine .inl ⟨a, xs, e1, .inl (SqL.of (md_H zz _ _ h2)), ?_⟩
    rw [← h3.length]
    exact k _ H H₀ (Ext.refl zz) (by simp only [Rep])
  · obtain ⟨v, e1, r⟩ := reps1 rs
    simp only [Rep] at r
    obtain ⟨a, xs, h1, h2, h3⟩ := r
    cases e
    subst h1
    refine .inl ⟨a, xs, e1, .inl ((md_H zz).seq h2), ?_⟩
    rw [← h3.length]
    exact k _ H H₀ (Ext.refl zz) (by simp only [Rep])
  · obtain ⟨v, e1, r⟩ := reps1 rs
    simp only [Rep] at r
    obtain ⟨a, xs, h1, h2, h3⟩ := r
    cases e
    subst h1
    refine .inl ⟨a, xs, e1, .inr (Same.seqT (md_H zz) h2), ?_⟩
    rw [← h3.length]
    exact k _ H H₀ (Ext.refl zz) (by simp only [Rep])
  · obtain ⟨v, e1, r⟩ := reps1 rs
    simp only [Rep] at r
    split at e
    · rename_i hs
      cases e
      subst r
      exact .inr ⟨_, e1, hs, k _ H H₀ (Ext.refl zz) (by simp only [Rep])⟩
    · cases e
  · cases e
theorem abs_ok : OpC G (fun xs H Q => ∃ i, xs = [.int i] ∧ Q (.int (if i < 0 then -i else i)) H) bAbs := by
  intro m H₀ H F ps z vs Q zz rs e k
  unfold bAbs at e
  split at e
  · obtain ⟨v, e1, r⟩ := reps1 rs
    simp only [Rep] at r
    subst r
    cases e
    exact ⟨_, e1, k _ H H₀ (Ext.refl zz) (by simp only [Rep])⟩
  · cases e
theorem int_ok : OpC G (fun xs H Q => (∃ i, xs = [.int i] ∧ Q (.int i) H) ∨ ∃ k, xs = [.bl k] ∧ Q (.int (if k then 1 else 0)) H) bInt := by
  intro m H₀ H F ps z vs Q zz rs e k
  unfold bInt at e
  split at e
  · obtain ⟨v, e1, r⟩ := reps1 rs
    simp only [Rep] at r
    subst r
    cases e
    exact .inl ⟨_, e1, k _ H H₀ (Ext.refl zz) (by simp only [Rep])⟩
  · obtain ⟨v, e1, r⟩ := reps1 rs
    simp only [Rep] at r
    subst r
    cases e
    exact .inr ⟨_, e1, k _ H H₀ (Ext.refl zz) (by simp only [Rep])⟩
  · cases e
def rMaxAll (K : PySem.W.Frag) : List V → Hp → VK → Prop := fun xs H Q => (∃ i j, xs = [.int i, .int j] ∧ Q (.int (if j > i then j else i)) H) ∨ rMax K xs H Q
def rMinAll (K : PySem.W.Frag) : List V → Hp → VK → Prop := fun xs H Q => (∃ i j, xs = [.int i, .int j] ∧ Q (.int (if j < i then j else i)) H) ∨ rMin K xs H Q
theorem cr_maxAll (hc : X.calm = true) : CallR X (.builtin "max") (rMaxAll X.K) := CallR.or (call_max2 hc) (cr_max hc)
theorem cr_minAll (hc : X.calm = true) : CallR X (.builtin "min") (rMinAll X.K) := CallR.or (call_min2 hc) (cr_min hc)
theorem max_ok : OpC G (rMaxAll G.K) bMax := by
  intro m H₀ H F ps z vs Q zz rs e k
  unfold bMax at e
  split at e
  · obtain ⟨v, w, e1, r, r'⟩ := reps2 rs
    simp only [Rep] at r r'
    subst r r'
    cases e
    exact .inl ⟨_, _, e1, k _ H H₀ (Ext.refl zz) (by simp only [Rep])⟩
  · obtain ⟨v, e1, r⟩ := reps1 rs
    simp only [Rep] at r
    obtain ⟨a, xs, h1, h2, h3⟩ := r
    subst h1
    split at e
    · rename_i n ns hi
      cases e
      have ex := ints_ok h3 hi
      subst ex
      refine .inr ⟨a, n :: ns, e1, SqL.of (md_H zz _ _ h2), by simp, fun j hj hu => ?_⟩
      rw [maxL_is n ns j hj hu]
      exact k _ H H₀ (Ext.refl zz) (by simp only [Rep])
    · cases e
  · cases e
theorem min_ok : OpC G (rMinAll G.K) bMin := by
  intro m H₀ H F ps z vs Q zz rs e k
  unfold bMin at e
  split at e
  · obtain ⟨v, w, e1, r, r'⟩ := reps2 rs
    simp only [Rep] at r r'
    subst r r'
    cases e
    exact .inl ⟨_, _, e1, k _ H H₀ (Ext.refl zz) (by simp only [Rep])⟩
  · obtain ⟨v, e1, r⟩ := reps1 rs
    simp only [Rep] at r
    obtain ⟨a, xs, h1, h2, h3⟩ := r
    subst h1
    split at e
    · rename_i n ns hi
      cases e
      have ex := ints_ok h3 hi
      subst ex
      refine .inr ⟨a, n :: ns, e1, SqL.of (md_H zz _ _ h2), by simp, fun j hj hu => ?_⟩
      rw [minL_is n ns j hj hu]
      exact k _ H H₀ (Ext.refl zz) (by simp only [Rep])
    · cases e
  · cases e
theorem sum_ok : OpC G (rSum G.K) bSum := by
  intro m H₀ H F ps z vs Q zz rs e k
  unfold bSum at e
  split at e
  · obtain ⟨v, e1, r⟩ := reps1 rs
    simp only [Rep] at r
    obtain ⟨a, xs, h1, h2, h3⟩ := r
    subst h1
    split at e
    · rename_i ns hi
      cases e
      have ex := ints_ok h3 hi
      subst ex
      exact ⟨a, ns, e1, SqL.of (md_H zz _ _ h2), k _ H H₀ (Ext.refl zz) (by simp only [Rep])⟩
    · cases e
  · cases e
theorem all_ok : OpC G (rAll G.K) bAll := by
  intro m H₀ H F ps z vs Q zz rs e k
  unfold bAll at e
  split at e
  · obtain ⟨v, e1, r⟩ := reps1 rs
    simp only [Rep] at r
    obtain ⟨a, xs, h1, h2, h3⟩ := r
    subst h1
    split at e
    · rename_i ns hi
      cases e
      have ex := bls_ok h3 hi
      subst ex
      exact ⟨a, ns, e1, SqL.of (md_H zz _ _ h2), k _ H H₀ (Ext.refl zz) (by simp only [Rep])⟩
    · cases e
  · cases e
theorem any_ok : OpC G (rAny G.K) bAny := by
  intro m H₀ H F ps z vs Q zz rs e k
  unfold bAny at e
  split at e
  · obtain ⟨v, e1, r⟩ := reps1 rs
    simp only [Rep] at r
    obtain ⟨a, xs, h1, h2, h3⟩ := r
    subst h1
    split at e
    · rename_i ns hi
      cases e
      have ex := bls_ok h3 hi
      subst ex
      exact ⟨a, ns, e1, SqL.of (md_H zz _ _ h2), k _ H H₀ (Ext.refl zz) (by simp only [Rep])⟩
    · cases e
  · cases e
theorem tuple_ok : OpC G (fun xs H Q => ∃ p ys, xs = [.ref p] ∧ ((SqL G.K H p ys ∧ ∀ l, H l = none → Q (.ref l) (upd H l (.tup ys))) ∨ (SqT G.K H p ys ∧ Q (.ref p) H))) bTuple := by
  intro m H₀ H F ps z vs Q zz rs e k
  unfold bTuple at e
  split at e
  · obtain ⟨v, e1, r⟩ := reps1 rs
    simp only [Rep] at r
    obtain ⟨a, xs, h1, h2, h3⟩ := r
    subst h1
    cases e
    refine ⟨a, xs, e1, .inl ⟨SqL.of (md_H zz _ _ h2), fun l hl => ?_⟩⟩
    obtain ⟨E, rr⟩ := rep_tup_new (m := m) (F := F) zz hl h3
    exact k _ _ _ E rr
  · obtain ⟨v, e1, r⟩ := reps1 rs
    have r' := r
    simp only [Rep] at r
    obtain ⟨a, xs, h1, h2, h3⟩ := r
    subst h1
    cases e
    exact ⟨a, xs, e1, .inr ⟨Same.seqT (md_H zz) h2, k _ H H₀ (Ext.refl zz) r'⟩⟩
  · cases e
theorem list_ok : OpF G (fun xs H Q => ∃ p ys, xs = [.ref p] ∧ (SqL G.K H p ys ∨ SqT G.K H p ys) ∧ ∀ l, H l = none → Q (.ref l) (upd H l (.lst ys))) bList := by
  intro H₀ H ps o vs Q zz rs e k
  unfold bList at e
  have go : ∀ {l : List PV} {xs : List V} {p : Addr}, Reps G H₀ l xs → H p = none → o = .own (l.map .sh) → Q (.ref p) (upd H p (.lst xs)) := fun {l xs p} r hp eo => by
    subst eo
    have h0 : H₀ p = none := Same.free zz hp
    refine k (.ref p) (upd H p (.lst xs)) H₀ [p] ⟨fun b u q => ?_, Same.refl _, fun b u q => ?_, fun _ _ => rfl⟩ ?_ (by simp) fun a ha => ?_
    · rw [upd_ne fun z => by rw [z, hp] at q; cases q]; exact q
    · rw [upd_ne fun z => by rw [z, h0] at q; cases q]; exact zz b u q
    · simp only [OwnR]
      exact ⟨p, xs, [], rfl, rfl, upd_same, ownRs_sh (C := ⟨G, H, H, none, H⟩) r⟩
    · rw [List.mem_singleton.mp ha]; exact ⟨hp, h0⟩
  split at e
  · obtain ⟨v, e1, r⟩ := reps1 rs
    simp only [Rep] at r
    obtain ⟨a, xs, h1, h2, h3⟩ := r
    subst h1
    cases e
    exact ⟨a, xs, e1, .inl (SqL.of (zz _ _ h2)), fun l hl => go h3 hl rfl⟩
  · obtain ⟨v, e1, r⟩ := reps1 rs
    simp only [Rep] at r
    obtain ⟨a, xs, h1, h2, h3⟩ := r
    subst h1
    cases e
    exact ⟨a, xs, e1, .inr (Same.seqT zz h2), fun l hl => go h3 hl rfl⟩
  · cases e
theorem bt_len : bootBuiltins "len" = some (.builtin "len") := by decide +kernel
theorem bt_abs : bootBuiltins "abs" = some (.builtin "abs") := by decide +kernel
theorem bt_max : bootBuiltins "max" = some (.builtin "max") := by decide +kernel
theorem bt_min : bootBuiltins "min" = some (.builtin "min") := by decide +kernel
theorem bt_sum : bootBuiltins "sum" = some (.builtin "sum") := by decide +kernel
theorem bt_all : bootBuiltins "all" = some (.builtin "all") := by decide +kernel
theorem bt_any : bootBuiltins "any" = some (.builtin "any") := by decide +kernel
theorem bt_isi : bootBuiltins "isinstance" = some (.builtin "isinstance") := by decide +kernel
theorem bt_int : bootBuiltins "int" = some (.type "int") := by decide +kernel
theorem bt_bool : bootBuiltins "bool" = some (.type "bool") := by decide +kernel
theorem bt_str : bootBuiltins "str" = some (.type "str") := by decide +kernel
theorem bt_tuple : bootBuiltins "tuple" = some (.type "tuple") := by decide +kernel
theorem bt_list : bootBuiltins "list" = some (.type "list") := by decide +kernel
theorem bt_ve : bootBuiltins "ValueError" = some (.type "ValueError") := by decide +kernel
end
section
variable {C : Fc} {W : WX} {m : Bool} {X : Cx} {a b c e : Expr} {es : List Expr} {pos p p2 : Pos} {x : Str} {fas : Env → R (List PV)} {fa : Env → R PV}
theorem qLen (hK : X.K = C.G.K) (hm : X.mg "len" = none) (ha : QA C W m X [e] fas) (hgl : Gl X "len" := by rfl) (he : starEach (e :: []) X.env = (false, eval e X.env) :: starEach [] X.env := by rfl) : QE C W m X (.Call (.Name "len" p) [e] [] pos) (eB bLen fas) := qB cr_lenAll calm_len (by rw [hK]; exact len_ok) hm bt_len ha hgl (by decide) (by decide) he rfl
theorem qAbs (hm : X.mg "abs" = none) (ha : QA C W m X [e] fas) (hgl : Gl X "abs" := by rfl) (he : starEach (e :: []) X.env = (false, eval e X.env) :: starEach [] X.env := by rfl) : QE C W m X (.Call (.Name "abs" p) [e] [] pos) (eB bAbs fas) := qB call_abs calm_abs abs_ok hm bt_abs ha hgl (by decide) (by decide) he rfl
theorem qIntB (hm : X.mg "int" = none) (ha : QA C W m X [e] fas) (hgl : Gl X "int" := by rfl) (he : starEach (e :: []) X.env = (false, eval e X.env) :: starEach [] X.env := by rfl) : QE C W m X (.Call (.Name "int" p) [e] [] pos) (eB bInt fas) := qBty call_int1 calm_int int_ok hm bt_int ha hgl (by decide) (by decide) he rfl
theorem qMax (hK : X.K = C.G.K) (hc : X.calm = true) (hm : X.mg "max" = none) (ha : QA C W m X (e :: es) fas) (hgl : Gl X "max" := by rfl) (he : starEach (e :: es) X.env = (false, eval e X.env) :: starEach es X.env := by rfl) (hpl : (backTo pos (starEach es X.env)).any (·.1) = false := by rfl) : QE C W m X (.Call (.Name "max" p) (e :: es) [] pos) (eB bMax fas) :=
  qB (cr_maxAll hc) calm_max (by rw [hK]; exact max_ok) hm bt_max ha hgl (by decide) (by decide) he hpl
theorem qMin (hK : X.K = C.G.K) (hc : X.calm = true) (hm : X.mg "min" = none) (ha : QA C W m X (e :: es) fas) (hgl : Gl X "min" := by rfl) (he : starEach (e :: es) X.env = (false, eval e X.env) :: starEach es X.env := by rfl) (hpl : (backTo pos (starEach es X.env)).any (·.1) = false := by rfl) : QE C W m X (.Call (.Name "min" p) (e :: es) [] pos) (eB bMin fas) :=
  qB (cr_minAll hc) calm_min (by rw [hK]; exact min_ok) hm bt_min ha hgl (by decide) (by decide) he hpl
theorem qSum (hK : X.K = C.G.K) (hc : X.calm = true) (hm : X.mg "sum" = none) (ha : QA C W m X [e] fas) (hgl : Gl X "sum" := by rfl) (he : starEach (e :: []) X.env = (false, eval e X.env) :: starEach [] X.env := by rfl) : QE C W m X (.Call (.Name "sum" p) [e] [] pos) (eB bSum fas) := qB (cr_sum hc) calm_sum (by rw [hK]; exact sum_ok) hm bt_sum ha hgl (by decide) (by decide) he rfl
theorem qAll (hK : X.K = C.G.K) (hc : X.calm = true) (hm : X.mg "all" = none) (ha : QA C W m X [e] fas) (hgl : Gl X "all" := by rfl) (he : starEach (e :: []) X.env = (false, eval e X.env) :: starEach [] X.env := by rfl) : QE C W m X (.Call (.Name "all" p) [e] [] pos) (eB bAll fas) := qB (cr_all hc) calm_all (by rw [hK]; exact all_ok) hm bt_all ha hgl (by decide) (by decide) he rfl
theorem qAny (hK : X.K = C.G.K) (hc : X.calm = true) (hm : X.mg "any" = none) (ha : QA C W m X [e] fas) (hgl : Gl X "any" := by rfl) (he : starEach (e :: []) X.env = (false, eval e X.env) :: starEach [] X.env := by rfl) : QE C W m X (.Call (.Name "any" p) [e] [] pos) (eB bAny fas) := qB (cr_any hc) calm_any (by rw [hK]; exact any_ok) hm bt_any ha hgl (by decide) (by decide) he rfl
theorem qTuple (hK : X.K = C.G.K) (hm : X.mg "tuple" = none) (ha : QA C W m X [e] fas) (hgl : Gl X "tuple" := by rfl) (he : starEach (e :: []) X.env = (false, eval e X.env) :: starEach [] X.env := by rfl) : QE C W m X (.Call (.Name "tuple" p) [e] [] pos) (eB bTuple fas) := qBty call_tuple_of calm_tuple (by rw [hK]; exact tuple_ok) hm bt_tuple ha hgl (by decide) (by decide) he rfl
theorem qList (hK : X.K = C.G.K) (hm : X.mg "list" = none) (ha : QA C W true X [e] fas) (hgl : Gl X "list" := by rfl) (he : starEach (e :: []) X.env = (false, eval e X.env) :: starEach [] X.env := by rfl) : QF C W X (.Call (.Name "list" p) [e] [] pos) (fB bList fas) := qFBty call_list_of calm_list (by rw [hK]; exact list_ok) hm bt_list ha hgl (by decide) (by decide) he rfl
/-! ### slices -/
def tOp3 (C : Fc) (W : WX) (m : Bool) (f : Env → R (Option Int)) : L2.TO := fun σ H Q => ∃ H₀ F ρ, SR C H₀ F ρ σ H ∧ Goes C.G W (f ρ) σ H H₀ fun i => ∀ H' H₀', Ext H₀ H H₀' H' → Q i H'
abbrev QO (C : Fc) (W : WX) (m : Bool) (X : Cx) (e : Option Expr) (f : Env → R (Option Int)) : Prop := PO X e (tOp3 C W m f)
def oNone : Env → R (Option Int) := fun _ => .ok none
def oSome (f : Env → R PV) : Env → R (Option Int) := fun ρ => (f ρ).bind fun p => match p with
  | .int i => .ok (some i)
  | _ => .no
theorem PO.imp {X : Cx} {e : Option Expr} {t t' : L2.TO} (h : PO X e t) (k : ∀ σ H Q, t' σ H Q → t σ H Q) : PO X e t' := ⟨fun pins s σ H Q I q => h.run pins s σ H Q I (k _ _ _ q)⟩
theorem qoNone : QO C W m X none oNone := PO.imp po_none fun σ H Q ⟨H₀, F, ρ, S, h⟩ => h H H₀ (Ext.refl S.z)
theorem qoSome (ha : QE C W m X e fa) : QO C W m X (some e) (oSome fa) := by
  refine PO.imp (po_some ha) fun σ H Q h => ?_
  show tE C W m fa σ H fun x H1 => ∃ i, x = .int i ∧ Q (some i) H1
  rw [tE_iff]
  obtain ⟨H₀, F, ρ, S, h⟩ := h
  unfold oSome at h
  rw [Goes.bind] at h
  refine ⟨H₀, F, ρ, S, h.imp fun p _ h v H1 H₁ E1 r1 => ?_⟩
  cases p with
  | int i =>
    simp only [Rep] at r1
    exact ⟨i, r1, h H1 H₁ E1⟩
  | _ => exact (show False from h).elim
def slR (p : PV) (lo hi : Option Int) : R PV := match p with
  | .str z => if z.length ≤ sizeLine then .ok (.str (cutS z lo hi)) else .no
  | .tup l => if HT.sIx l.length 0 lo = 0 ∧ HT.sIx l.length l.length hi = l.length then .no else .ok (.tup (cutVP l lo hi))
  | .lst l => .ok (.lst (cutVP l lo hi))
  | _ => .no
where cutVP (xs : List PV) (lo hi : Option Int) : List PV := (xs.drop (HT.sIx xs.length 0 lo)).take (HT.sIx xs.length xs.length hi - HT.sIx xs.length 0 lo)
def eSl (f : Env → R PV) (l h : Env → R (Option Int)) : Env → R PV := fun ρ => (f ρ).bind fun p => (l ρ).bind fun lo => (h ρ).bind fun hi => slR p lo hi
def rSlAll (K : PySem.W.Frag) : V → Option Int → Option Int → Hp → VK → Prop := fun x lo hi H Q => rSlL K x lo hi H Q ∨ rSlT K x lo hi H Q ∨ rSlS x lo hi H Q
theorem sl_all {X : Cx} : L2.SlR X (rSlAll X.K) := by
  intro pins s σ H x v vl vu lo hi sl Q I rx hs pl pu h
  rcases h with h | h | h
  · exact sl_list pins s σ H x v vl vu lo hi sl Q I rx hs pl pu h
  · exact sl_tup pins s σ H x v vl vu lo hi sl Q I rx hs pl pu h
  · exact sl_str pins s σ H x v vl vu lo hi sl Q I rx hs pl pu h
theorem cut_ok {G : Gc} {H : Hp} {l : List PV} {xs : List V} (r : Reps G H l xs) (lo hi : Option Int) : Reps G H (slR.cutVP l lo hi) (cutV xs lo hi) := by
  unfold slR.cutVP cutV
  rw [r.length]
  exact (r.drop _).take _
theorem slR_ok {G : Gc} {H₀ H : Hp} {F : List Addr} {p z : PV} {v : V} {lo hi : Option Int} {Q : VK} (zz : Same H₀ H) (r : Rep G (md m H₀ H F) p v) (e : slR p lo hi = .ok z) (k : ∀ v H' H₀', Ext H₀ H H₀' H' → Rep G (md m H₀' H' F) z v → Q v H') :
    rSlAll G.K v lo hi H Q := by
  unfold slR at e
  split at e
  · simp only [Rep] at r
    split at e
    · rename_i hs
      cases e
      exact .inr (.inr ⟨_, r, hs, k _ H H₀ (Ext.refl zz) (by simp only [Rep])⟩)
    · cases e
  · simp only [Rep] at r
    obtain ⟨a, xs, h1, h2, h3⟩ := r
    split at e
    · cases e
    · rename_i hs
      cases e
      refine .inr (.inl ⟨a, xs, h1, Same.seqT (md_H zz) h2, by rw [← h3.length]; exact hs, fun q hq => ?_⟩)
      obtain ⟨E, rr⟩ := rep_tup_new (m := m) (F := F) zz hq (cut_ok h3 lo hi)
      exact k _ _ _ E rr
  · simp only [Rep] at r
    obtain ⟨a, xs, h1, h2, h3⟩ := r
    cases e
    refine .inl ⟨a, xs, h1, SqL.of (md_H zz _ _ h2), fun q hq => ?_⟩
    obtain ⟨E, rr⟩ := rep_lst_new (m := m) (F := F) zz hq (cut_ok h3 lo hi)
    exact k _ _ _ E rr
  · cases e
theorem qSl {lo hi : Option Expr} {fl fh : Env → R (Option Int)} (hK : X.K = C.G.K) (ha : QE C W m X a fa) (hl : QO C W m X lo fl) (hh : QO C W m X hi fh) : QE C W m X (.Subscript a (.Slice lo hi none p2) pos) (eSl fa fl fh) := by
  refine PE.imp (pe_slice sl_all ha hl hh) fun σ H Q h => ?_
  show tE C W m fa σ H fun x H1 => tOp3 C W m fl σ H1 fun l H2 => tOp3 C W m fh σ H2 fun u H3 => rSlAll X.K x l u H3 Q
  rw [tE_iff] at h ⊢
  obtain ⟨H₀, F, ρ, S, h⟩ := h
  unfold eSl at h
  rw [Goes.bind] at h
  refine ⟨H₀, F, ρ, S, h.imp fun p _ h v H1 H₁ E1 r1 => ?_⟩
  rw [Goes.bind] at h
  refine ⟨H₁, F, ρ, S.ext E1, (h.later E1).imp fun lo _ h H2 H₂ E2 => ?_⟩
  rw [Goes.bind] at h
  refine ⟨H₂, F, ρ, (S.ext E1).ext E2, (h.later (E1.trans E2)).imp fun hi _ h H3 H₃ E3 => ?_⟩
  have E := (E1.trans E2).trans E3
  cases q : slR p lo hi with
  | ok z =>
    rw [q] at h
    rw [hK]
    exact slR_ok (m := m) (F := F) E3.z (Rep.mono ((md_ext E2).trans (md_ext E3)) r1) q fun w H' H₀' E4 r4 => h w H' H₀' (E.trans E4) r4
  | er x =>
    exfalso
    revert q
    unfold slR
    split <;> first | (intro z; cases z; done) | (split <;> (intro z; cases z))
  | no =>
    rw [q] at h
    exact h.elim
/-! ### fields -/
def eFld (f : Str) (ok : Nat → Bool) (fa : Env → R PV) : Env → R PV := fun ρ => (fa ρ).bind fun p => match p with
  | .ins c fs => if ok c then R.of (fs.lookup f) else .no
  | _ => .no
theorem qFld {f : Str} {ok : Nat → Bool} (hK : X.K = C.G.K) (T : ∀ c, ok c = true → Cls C.G.K (C.G.CA c) ∧ NoAttr C.G.K (C.G.CA c) f) (ha : QE C W m X a fa) (hb : attributeBase a f X.env (eval a X.env) = eval a X.env := by rfl) :
    QE C W m X (.Attribute a f pos) (eFld f ok fa) := by
  refine PE.imp (pe_fld ha hb) fun σ H Q h => ?_
  show tE C W m fa σ H fun x H1 => ∃ a C dx fs v, x = .ref a ∧ H1 a = some (.ins C dx fs) ∧ Cls X.K C ∧ NoAttr X.K C f ∧ fs.lookup f = some v ∧ Q v H1
  rw [tE_iff] at h ⊢
  obtain ⟨H₀, F, ρ, S, h⟩ := h
  unfold eFld at h
  rw [Goes.bind] at h
  refine ⟨H₀, F, ρ, S, h.imp fun p _ h v H1 H₁ E1 r1 => ?_⟩
  cases p with
  | ins c fs =>
    simp only [Rep] at r1
    obtain ⟨a, dx, vs, h1, h2, h3⟩ := r1
    by_cases hc : ok c = true
    · simp only [hc, if_true] at h
      cases q : fs.lookup f with
      | none => rw [q] at h; exact h.elim
      | some w =>
        rw [q] at h
        obtain ⟨u, e1, e2⟩ := h3.get q
        obtain ⟨t1, t2⟩ := T c hc
        rw [hK]
        exact ⟨a, _, dx, vs, u, h1, md_H E1.z _ _ h2, t1, t2, e1, h u H1 H₁ E1 e2⟩
    · simp only [hc, if_false] at h
      exact h.elim
  | _ => exact (show False from h).elim
/-! ### isinstance -/
def isiP (tb : String → Option Bool) (ib : Nat → Option Bool) : PV → R PV := fun p => R.of ((match p with
  | .non => tb "NoneType"
  | .bl _ => tb "bool"
  | .int _ => tb "int"
  | .str _ => tb "str"
  | .lst _ => tb "list"
  | .tup _ => tb "tuple"
  | .ins c _ => ib c
  | .scr _ => none).map PV.bl)
/-- what the own class at A must have for its instances' isinstance -/
structure IsC (K : PySem.W.Frag) (A : Addr) : Prop where
  cl : Cls K A
  ha : PySem.W.findIn K (.ref A) "__class__" = some (some (.builtin "object.__class__"))
  hn : PySem.W.specialIn K (.builtin "object.__class__") "__get__" = some (some (.builtin "getset_descriptor.__get__"))
  ht : PySem.W.takesIn K (.builtin "object.__class__") = some true
  hm : PySem.W.mroIn K A (.type "object") = some true
def eIsi (tb : String → Option Bool) (ib : Nat → Option Bool) (fa : Env → R PV) : Env → R PV := eUn (isiP tb ib) fa
theorem tup_ty {K : PySem.W.Frag} {H : Hp} {t : Addr} {xs : List V} (h : SqT K H t xs) : TyX K H (.ref t) (.type "tuple") := by
  rcases h with (h | ⟨o, h⟩) | ⟨o, its, n, h, hc, _⟩
  · exact .base (.tup h)
  · exact .fTuple h
  · exact .kTuple h hc
theorem isi_go {tb : String → Option Bool} {ib : Nat → Option Bool} {cv : V} {u : Value} (hcl : ClsV cv u) (ht : ∀ t b, tb t = some b → PySem.W.kitOne C.G.K (.type t) u = some b) (hi : ∀ c b, ib c = some b → IsC C.G.K (C.G.CA c) ∧ PySem.W.kitOne C.G.K (.ref (C.G.CA c)) u = some b)
    {σ : L2.St} {H : Hp} {Q : VK} (h : tE C W m (eIsi tb ib fa) σ H Q) : tE C W m fa σ H fun x H1 => rIsi C.G.K [x, cv] H1 Q := by
  rw [tE_iff] at h ⊢
  obtain ⟨H₀, F, ρ, S, h⟩ := h
  unfold eIsi eUn at h
  rw [Goes.bind] at h
  refine ⟨H₀, F, ρ, S, h.imp fun p _ h v H1 H₁ E1 r1 => ?_⟩
  have r2 := rep_up E1.z r1
  have fin : ∀ {b : Bool} {t : Value}, TyX C.G.K H1 v t → PySem.W.kitOne C.G.K t u = some b → Goes C.G W (R.of ((some b).map PV.bl)) σ H H₀ (fun p => ∀ v H' H₀', Ext H₀ H H₀' H' → Rep C.G (md m H₀' H' F) p v → Q v H') → rIsi C.G.K [v, cv] H1 Q :=
    fun {b t} ty ki g => ⟨v, cv, t, u, b, rfl, hcl, ty, ki, g (.bl b) H1 H₁ E1 (by simp only [Rep])⟩
  unfold isiP at h
  cases p with
  | non => simp only [Rep] at r2; subst r2; cases q : tb "NoneType" with
    | none => simp only [q, Option.map_none] at h; exact h.elim
    | some b => simp only [q] at h; exact fin (.base .non) (ht _ _ q) h
  | bl b => simp only [Rep] at r2; subst r2; cases q : tb "bool" with
    | none => simp only [q, Option.map_none] at h; exact h.elim
    | some b => simp only [q] at h; exact fin (.base (.bl _)) (ht _ _ q) h
  | int b => simp only [Rep] at r2; subst r2; cases q : tb "int" with
    | none => simp only [q, Option.map_none] at h; exact h.elim
    | some b => simp only [q] at h; exact fin (.base (.int _)) (ht _ _ q) h
  | str b => simp only [Rep] at r2; subst r2; cases q : tb "str" with
    | none => simp only [q, Option.map_none] at h; exact h.elim
    | some b => simp only [q] at h; exact fin (.base (.str _)) (ht _ _ q) h
  | lst l => simp only [Rep] at r2; obtain ⟨a, xs, h1, h2, h3⟩ := r2; subst h1; cases q : tb "list" with
    | none => simp only [q, Option.map_none] at h; exact h.elim
    | some b => simp only [q] at h; exact fin (.base (.lst h2)) (ht _ _ q) h
  | scr l => exact h.elim
  | tup l => simp only [Rep] at r2; obtain ⟨a, xs, h1, h2, h3⟩ := r2; subst h1; cases q : tb "tuple" with
    | none => simp only [q, Option.map_none] at h; exact h.elim
    | some b => simp only [q] at h; exact fin (tup_ty h2) (ht _ _ q) h
  | ins c fs => simp only [Rep] at r2; obtain ⟨a, dx, xs, h1, h2, h3⟩ := r2; subst h1; cases q : ib c with
    | none => simp only [q, Option.map_none] at h; exact h.elim
    | some b =>
      simp only [q] at h
      obtain ⟨I, ki⟩ := hi c b q
      exact fin (.base (.ins h2 I.cl I.ha I.hn I.ht I.hm)) ki h
/-- isinstance(a, T), T a built-in class -/
theorem qIsiT {T : Str} {t : String} {tb : String → Option Bool} {ib : Nat → Option Bool} (hK : X.K = C.G.K) (hm : X.mg "isinstance" = none) (hT : X.mg T = none) (hv : bootBuiltins T = some (.type t)) (ht : ∀ s b, tb s = some b → kitB s t = some b)
    (hi : ∀ c b, ib c = some b → IsC C.G.K (C.G.CA c) ∧ PySem.W.kitOne C.G.K (.ref (C.G.CA c)) (.type t) = some b) (ha : QE C W m X a fa) (hgl : Gl X "isinstance" := by rfl) (hgT : Gl X T := by rfl) (hn : T ≠ "__name__" := by decide) (hd : (T == ("__debug__" : Str)) = false := by decide)
    (h1 : starEach (a :: [.Name T p2]) X.env = (false, eval a X.env) :: starEach [.Name T p2] X.env := by rfl) (h2 : starEach (.Name T p2 :: []) X.env = (false, eval (.Name T p2) X.env) :: starEach [] X.env := by rfl) (h3 : (backTo pos (starEach [.Name T p2] X.env)).any (·.1) = false := by rfl) :
    QE C W m X (.Call (.Name "isinstance" p) [a, .Name T p2] [] pos) (eIsi tb ib fa) := by
  refine PE.imp (pe_callB call_isi hgl hm bt_isi (pa_cons ha (pa_cons (pe_bltn (v := .ty t) hgT hT hv rfl hn hd) pa_nil h2) h1) (by decide) (by decide) h1 h3) fun σ H Q h => ?_
  rw [hK]
  exact isi_go (C := C) (.ty t) (fun s b q => kit_ty (ht s b q)) hi h
/-- .. T an own class -/
theorem qIsiC {T : Str} {A : Addr} {tb : String → Option Bool} {ib : Nat → Option Bool} (hK : X.K = C.G.K) (hm : X.mg "isinstance" = none) (hT : X.mg T = some (.ref A)) (ht : ∀ s b, tb s = some b → PySem.W.kitOne C.G.K (.type s) (.ref A) = some b)
    (hi : ∀ c b, ib c = some b → IsC C.G.K (C.G.CA c) ∧ PySem.W.kitOne C.G.K (.ref (C.G.CA c)) (.ref A) = some b) (ha : QE C W m X a fa) (hgl : Gl X "isinstance" := by rfl) (hgT : Gl X T := by rfl) (hd : (T == ("__debug__" : Str)) = false := by decide)
    (h1 : starEach (a :: [.Name T p2]) X.env = (false, eval a X.env) :: starEach [.Name T p2] X.env := by rfl) (h2 : starEach (.Name T p2 :: []) X.env = (false, eval (.Name T p2) X.env) :: starEach [] X.env := by rfl) (h3 : (backTo pos (starEach [.Name T p2] X.env)).any (·.1) = false := by rfl) :
    QE C W m X (.Call (.Name "isinstance" p) [a, .Name T p2] [] pos) (eIsi tb ib fa) := by
  refine PE.imp (pe_callB call_isi hgl hm bt_isi (pa_cons ha (pa_cons (pe_glob (v := .ref A) hgT hT rfl hd) pa_nil h2) h1) (by decide) (by decide) h1 h3) fun σ H Q h => ?_
  rw [hK]
  exact isi_go (C := C) (.own A) ht hi h
end
end L3

/-! L3. 5: what is walked, targets, comprehensions -/
namespace L3
open PySem PySem.Spec PyProof.Rows L2
/-! ### what is walked -/
structure ItP (Γ : Gc) (J : It) (Hv : Hp) (ps : List PV) : Prop where
  stop : ∀ i H, Same Hv H → ps.length ≤ i → J.stop i H
  go : ∀ i H p, Same Hv H → ps[i]? = some p → J.go i H ∧ ∀ x H', J.yld i H x H' → H' = H ∧ Rep Γ Hv p x
def tI (C : Fc) (W : WX) (m : Bool) (f : Env → R (List PV)) : TI := fun σ H Rr => ∃ H₀ F ρ, SR C H₀ F ρ σ H ∧ Goes C.G W (f ρ) σ H H₀ fun ps => ∀ J H' H₀', Ext H₀ H H₀' H' → ItP C.G J (md m H₀' H' F) ps → Rr J H'
abbrev QI (C : Fc) (W : WX) (m : Bool) (X : Cx) (tg e : Expr) (f : Env → R (List PV)) : Prop := PI X tg e (tI C W m f)
theorem PI.imp {X : Cx} {tg e : Expr} {t t' : TI} (h : PI X tg e t) (k : ∀ σ H Q, t' σ H Q → t σ H Q) : PI X tg e t' := ⟨fun pins s σ H Q I q => h.run pins s σ H Q I (k _ _ _ q)⟩
theorem PI.or {X : Cx} {tg e : Expr} {t t' : TI} (h : PI X tg e t) (h' : PI X tg e t') : PI X tg e (fun σ H Q => t σ H Q ∨ t' σ H Q) := ⟨fun pins s σ H Q I q => q.elim (h.run pins s σ H Q I) (h'.run pins s σ H Q I)⟩
def seqR : PV → R (List PV)
  | .lst l => .ok l
  | .scr l => .ok l
  | .tup l => .ok l
  | .str z => .ok (z.cps.toList.map fun c => .str ⟨#[c]⟩)
  | _ => .no
def iSeq (f : Env → R PV) : Env → R (List PV) := fun ρ => (f ρ).bind seqR
section
variable {C : Fc} {W : WX} {m : Bool} {X : Cx} {tg a b e : Expr} {es : List Expr} {pos p : Pos} {fa fb : Env → R PV} {fas : Env → R (List PV)} {σ : L2.St} {H H₀ : Hp} {F : List Addr} {ρ : Env}
theorem rep_of_get {G : Gc} {Hv : Hp} {l : List PV} {xs : List V} {i : Nat} {x : V} (r : Reps G Hv l xs) {p : PV} (e : l[i]? = some p) (ex : xs[i]? = some x) : Rep G Hv p x := by
  obtain ⟨v, e1, e2⟩ := r.get e
  rw [ex] at e1
  cases e1
  exact e2
theorem itp_list {G : Gc} {Hv : Hp} {a : Addr} {l : List PV} {xs : List V} (h : SqL G.K Hv a xs) (r : Reps G Hv l xs) : ItP G (Itl G.K a) Hv l := by
  refine ⟨fun i H s hi => ⟨xs, s.seq h, by rw [← r.length]; exact hi⟩, fun i H p s e => ?_⟩
  obtain ⟨v, e1, e2⟩ := r.get e
  exact ⟨⟨xs, v, s.seq h, e1⟩, fun x H' y => ⟨y.1, rep_of_get r e (y.2 xs (s.seq h))⟩⟩
theorem itp_tup {G : Gc} {Hv : Hp} {a : Addr} {l : List PV} {xs : List V} (h : SqT G.K Hv a xs) (r : Reps G Hv l xs) : ItP G (Itt G.K a) Hv l := by
  refine ⟨fun i H s hi => ⟨xs, Same.seqT s h, by rw [← r.length]; exact hi⟩, fun i H p s e => ?_⟩
  obtain ⟨v, e1, e2⟩ := r.get e
  exact ⟨⟨xs, v, Same.seqT s h, e1⟩, fun x H' y => ⟨y.1, rep_of_get r e (y.2 xs (Same.seqT s h))⟩⟩
theorem itp_str {G : Gc} {Hv : Hp} {z : Str} : ItP G (Its z) Hv (z.cps.toList.map fun c => .str ⟨#[c]⟩) := by
  refine ⟨fun i H s hi => by simpa [Its] using hi, fun i H p s e => ?_⟩
  rw [List.getElem?_map] at e
  cases q : z.cps.toList[i]? with
  | none => rw [q] at e; cases e
  | some c =>
    rw [q] at e
    cases e
    have q' : z.cps[i]? = some c := by simpa using q
    refine ⟨(Array.getElem?_eq_some_iff.mp q').1, fun x H' y => ⟨y.1, ?_⟩⟩
    obtain ⟨c', h1, h2⟩ := y.2
    rw [q'] at h1
    cases h1
    simp only [Rep]
    exact h2
theorem qiSeq (hK : X.K = C.G.K) (ha : QE C W m X a fa) : QI C W m X tg a (iSeq fa) := by
  refine PI.imp (PI.or (pi_list ha) (PI.or (pi_tup ha) (pi_str ha))) fun σ H Q h => ?_
  obtain ⟨H₀, F, ρ, S, h⟩ := h
  unfold iSeq at h
  rw [Goes.bind] at h
  have key : ∀ (R1 : VK), (∀ p, fa ρ = .ok p → Goes C.G W (seqR p) σ H H₀ (fun ps => ∀ J H' H₀', Ext H₀ H H₀' H' → ItP C.G J (md m H₀' H' F) ps → Q J H') → ∀ v H1 H₁, Ext H₀ H H₁ H1 → Rep C.G (md m H₁ H1 F) p v → R1 v H1) → tE C W m fa σ H R1 := by
    intro R1 k
    rw [tE_iff]
    exact ⟨H₀, F, ρ, S, h.imp fun p e g v H1 H₁ E1 r1 => k p e g v H1 H₁ E1 r1⟩
  cases q : fa ρ with
  | er x =>
    refine .inl (key _ fun p e => ?_)
    rw [q] at e
    cases e
  | no =>
    rw [q] at h
    exact h.elim
  | ok p =>
    cases p with
    | lst l =>
      refine .inl (key _ fun p e g v H1 H₁ E1 r1 => ?_)
      rw [q] at e
      cases e
      simp only [Rep] at r1
      obtain ⟨a', xs, h1, h2, h3⟩ := r1
      subst h1
      rw [hK]
      exact ⟨a', rfl, ⟨xs, SqL.of (md_H E1.z _ _ h2)⟩, g _ H1 H₁ E1 (itp_list (SqL.of h2) h3)⟩
    | scr l =>
      refine .inl (key _ fun p e g v H1 H₁ E1 r1 => ?_)
      rw [q] at e
      cases e
      simp only [Rep] at r1
      obtain ⟨a', xs, h1, h2, h3⟩ := r1
      subst h1
      rw [hK]
      exact ⟨a', rfl, ⟨xs, (md_H E1.z).seq h2⟩, g _ H1 H₁ E1 (itp_list h2 h3)⟩
    | tup l =>
      refine .inr (.inl (key _ fun p e g v H1 H₁ E1 r1 => ?_))
      rw [q] at e
      cases e
      simp only [Rep] at r1
      obtain ⟨a', xs, h1, h2, h3⟩ := r1
      subst h1
      rw [hK]
      exact ⟨a', rfl, ⟨xs, Same.seqT (md_H E1.z) h2⟩, g _ H1 H₁ E1 (itp_tup h2 h3)⟩
    | str z =>
      refine .inr (.inr (key _ fun p e g v H1 H₁ E1 r1 => ?_))
      rw [q] at e
      cases e
      simp only [Rep] at r1
      exact ⟨z, r1, g _ H1 H₁ E1 itp_str⟩
    | non => rw [q] at h; exact h.elim
    | bl b => rw [q] at h; exact h.elim
    | int b => rw [q] at h; exact h.elim
    | ins c fs => rw [q] at h; exact h.elim
/-- numbers in a row -/
def rngP (lo : Int) (n : Nat) : List PV := (List.range n).map fun (i : Nat) => .int (lo + (i : Int))
theorem itp_rng {G : Gc} {Hv : Hp} {lo : Int} {n : Nat} : ItP G (Itr lo n) Hv (rngP lo n) := by
  refine ⟨fun i H s hi => ?_, fun i H p s e => ?_⟩
  · have hl : (rngP lo n).length = n := by simp [rngP]
    show n ≤ i
    omega
  unfold rngP at e
  rw [List.getElem?_map] at e
  cases q : (List.range n)[i]? with
  | none => rw [q] at e; cases e
  | some j =>
    rw [q] at e
    cases e
    obtain ⟨hl, hj⟩ := List.getElem?_eq_some_iff.mp q
    rw [List.length_range] at hl
    rw [List.getElem_range] at hj
    subst hj
    exact ⟨hl, fun x H' y => ⟨y.1, by simp only [Rep]; exact y.2⟩⟩
def rng1R : List PV → R (List PV)
  | [.int j] => if -(2 ^ 62) ≤ j ∧ j < 2 ^ 62 then .ok (rngP 0 j.toNat) else .no
  | _ => .no
def rng2R : List PV → R (List PV)
  | [.int i, .int j] => if -(2 ^ 62) ≤ i ∧ i < 2 ^ 62 ∧ -(2 ^ 62) ≤ j ∧ j < 2 ^ 62 then .ok (rngP i (j - i).toNat) else .no
  | _ => .no
def iRg (g : List PV → R (List PV)) (f : Env → R (List PV)) : Env → R (List PV) := fun ρ => (f ρ).bind g
theorem rng_go {g : List PV → R (List PV)} {r : List V → Hp → (It → Hp → Prop) → Prop} (ho : ∀ (m : Bool) (H₀ H : Hp) (F : List Addr) (ps qs : List PV) (vs : List V) (Q : It → Hp → Prop), Reps C.G (md m H₀ H F) ps vs → g ps = .ok qs → (∀ J, ItP C.G J (md m H₀ H F) qs → Q J H) → r vs H Q)
    (hg : CalmC g) {Q : It → Hp → Prop} (h : tI C W m (iRg g fas) σ H Q) : tAs C W m fas σ H fun vs H1 => r vs H1 Q := by
  obtain ⟨H₀, F, ρ, S, h⟩ := h
  unfold iRg at h
  rw [Goes.bind] at h
  rw [tA_iff]
  refine ⟨H₀, F, ρ, S, h.imp fun ps _ h vs H1 H₁ E1 r1 => ?_⟩
  cases q : g ps with
  | ok qs =>
    rw [q] at h
    exact ho m H₁ H1 F ps qs vs Q r1 q fun J ip => h J H1 H₁ E1 ip
  | er x => exact absurd q (hg ps x)
  | no => rw [q] at h; exact h.elim
theorem qiRng1 (hm : X.mg "range" = none) (ha : QA C W m X [a] fas) (hg : Gl X "range" := by rfl) (hs : starEach [a] X.env = [(false, eval a X.env)] := by rfl) : QI C W m X tg (.Call (.Name "range" p) [a] [] pos) (iRg rng1R fas) := by
  refine PI.imp (pi_range1 hg hm ha hs) fun σ H Q h => ?_
  refine rng_go (r := fun vs H1 Q => ∃ j : Int, vs = [.int j] ∧ -(2 ^ 62) ≤ j ∧ j < 2 ^ 62 ∧ Q (Itr 0 j.toNat) H1) (fun m H₀ H F ps qs vs Q r1 e k => ?_) (fun ps x => by unfold rng1R; split <;> first | exact R.not_er | (intro z; cases z)) h
  unfold rng1R at e
  split at e
  · split at e
    · rename_i hh
      cases e
      obtain ⟨v, e1, r⟩ := reps1 r1
      simp only [Rep] at r
      subst r
      exact ⟨_, e1, hh.1, hh.2, k _ itp_rng⟩
    · cases e
  · cases e
theorem qiRng2 (hm : X.mg "range" = none) (ha : QA C W m X [a, b] fas) (hg : Gl X "range" := by rfl) (hs : starEach [a, b] X.env = [(false, eval a X.env), (false, eval b X.env)] := by rfl) (hs2 : starEach [b] X.env = [(false, eval b X.env)] := by rfl) :
    QI C W m X tg (.Call (.Name "range" p) [a, b] [] pos) (iRg rng2R fas) := by
  refine PI.imp (pi_range2 hg hm ha hs hs2) fun σ H Q h => ?_
  refine rng_go (r := fun vs H1 Q => ∃ i j : Int, vs = [.int i, .int j] ∧ (-(2 ^ 62) ≤ i ∧ i < 2 ^ 62 ∧ -(2 ^ 62) ≤ j ∧ j < 2 ^ 62) ∧ Q (Itr i (j - i).toNat) H1) (fun m H₀ H F ps qs vs Q r1 e k => ?_) (fun ps x => by unfold rng2R; split <;> first | exact R.not_er | (intro z; cases z)) h
  unfold rng2R at e
  split at e
  · split at e
    · rename_i hh
      cases e
      obtain ⟨v, w, e1, r, r'⟩ := reps2 r1
      simp only [Rep] at r r'
      subst r r'
      exact ⟨_, _, e1, hh, k _ itp_rng⟩
    · cases e
  · cases e
/-! ### targets -/
inductive Tg where
  | nm (i : Nat) | tp (is : List Nat)
def Tg.slots : Tg → List Nat
  | .nm i => [i]
  | .tp is => is
def setMany : List Nat → List PV → Env → Env
  | i :: is, p :: ps, ρ => setMany is ps (ρ.set i (some (.sh p)))
  | _, _, ρ => ρ
def tgS : Tg → PV → Env → R Env
  | .nm i, p, ρ => .ok (ρ.set i (some (.sh p)))
  | .tp is, .lst l, ρ => if l.length = is.length then .ok (setMany is l ρ) else .no
  | .tp is, .tup l, ρ => if l.length = is.length then .ok (setMany is l ρ) else .no
  | .tp _, _, _ => .no
theorem tgS_calm {T : Tg} {p : PV} {ρ : Env} {x : PX} : tgS T p ρ ≠ .er x := by
  unfold tgS
  split <;> first | (intro z; cases z; done) | exact R.not_er
/-- the first slot may be kept -/
def fxOk (C : Fc) (i : Nat) : Prop := ∀ j v, C.fx = some (j, v) → j ≠ i
theorem SR.put (S : SR C H₀ F ρ σ H) {i : Nat} {o : OV} {v : V} {Fv : List Addr} (r : OwnR C.G H₀ H o v Fv) (nd : Fv.Nodup) (fr : ∀ a ∈ Fv, C.He a = none ∧ H₀ a = none ∧ a ∉ F) (hx : fxOk C i) :
    ∃ F', SR C H₀ F' (ρ.set i (some o)) (σ.set i (some v)) H := by
  obtain ⟨F', e1, e2, e3⟩ := EnvR.put i S.env r S.nd nd fun a ha => (fr a ha).2.2
  refine ⟨F', S.e, S.z, S.n, S.hz, e1, e2, fun a ha => ?_, fun j w hw => ?_, S.hx⟩
  · rcases e3 a ha with z | z
    · exact S.fr a z
    · exact ⟨(fr a z).1, (fr a z).2.1⟩
  · rw [List.getElem?_set_ne (Ne.symm (hx j w hw))]
    exact S.fx j w hw
theorem SR.sh (S : SR C H₀ F ρ σ H) {i : Nat} {p : PV} {v : V} (r : Rep C.G H₀ p v) (hx : fxOk C i) : ∃ F', SR C H₀ F' (ρ.set i (some (.sh p))) (σ.set i (some v)) H :=
  S.put (Fv := []) (by simp only [OwnR]; exact ⟨r, trivial⟩) List.nodup_nil (fun a ha => by cases ha) hx
theorem SR.drop (S : SR C H₀ F ρ σ H) (i : Nat) : ∃ F', SR C H₀ F' (ρ.set i none) σ H := by
  obtain ⟨F', e1, e2, e3⟩ := EnvR.drop i S.env S.nd
  exact ⟨F', S.e, S.z, S.n, S.hz, e1, e2, fun a ha => S.fr a (e3 a ha), S.fx, S.hx⟩
theorem SR.any (S : SR C H₀ F ρ σ H) {i : Nat} (x : Option V) (e : ρ[i]? = some none) (hx : fxOk C i) : SR C H₀ F ρ (σ.set i x) H :=
  ⟨S.e, S.z, S.n, S.hz, EnvR.any i x S.env e, S.nd, S.fr, fun j w hw => by
    rw [List.getElem?_set_ne (Ne.symm (hx j w hw))]
    exact S.fx j w hw, S.hx⟩
/-- a target by its slots: stores what is frozen -/
structure QG (C : Fc) (X : Cx) (tg : Expr) (T : Tg) : Prop where
  ex : ∃ t, PG X tg t ∧ ∀ (p : PV) (v : V) (H₀ : Hp) (F : List Addr) (ρ ρ' : Env) (σ : L2.St) (H : Hp) (Q : L2.St → Hp → Prop), SR C H₀ F ρ σ H → Rep C.G H₀ p v → tgS T p ρ = .ok ρ' →
    (∀ σ' F', SR C H₀ F' ρ' σ' H → (∀ vs, (∀ i ∈ T.slots, i ∈ vs) → wipe σ' vs = wipe σ vs) → Q σ' H) → t v σ H Q
theorem wipe_get : ∀ (vs : List Nat) (σ : L2.St) (j : Nat), j < σ.length → (wipe σ vs)[j]? = if j ∈ vs then some none else σ[j]?
  | [], σ, j, h => by simp [wipe]
  | v :: vs, σ, j, h => by
    show ((wipe σ vs).set v none)[j]? = _
    have hl : (wipe σ vs).length = σ.length := wipe_length σ vs
    by_cases e : v = j
    · subst e
      rw [List.getElem?_set_self (by rw [hl]; exact h)]
      simp
    · rw [List.getElem?_set_ne e, wipe_get vs σ j h]
      have : (j ∈ v :: vs) = (j ∈ vs) := by
        simp only [List.mem_cons, eq_iff_iff]
        exact ⟨fun z => z.elim (fun q => absurd q.symm e) id, .inr⟩
      simp only [this]
theorem wipe_set {σ : L2.St} {i : Nat} {x : Option V} {vs : List Nat} (h : i ∈ vs) : wipe (σ.set i x) vs = wipe σ vs := by
  apply List.ext_getElem?
  intro j
  by_cases hj : j < σ.length
  · rw [wipe_get vs _ j (by simpa using hj), wipe_get vs σ j hj]
    by_cases e : j ∈ vs
    · simp [e]
    · rw [if_neg e, if_neg e, List.getElem?_set_ne (fun q => e (by rw [← q]; exact h))]
  · rw [List.getElem?_eq_none (by rw [wipe_length]; simpa using hj), List.getElem?_eq_none (by rw [wipe_length]; omega)]
theorem qgName {i : Nat} {x : Str} (hx : fxOk C i) (hN : X.N.Nodup) (hi : X.N[i]? = some x := by rfl) (hl : Loc X.env.scope x := by first | exact Or.inl rfl | exact Or.inr rfl) (hf : X.fn x = true ∨ X.env.scope.names.lookup x = some .local := by first | exact .inl rfl | exact .inr rfl) : QG C X (.Name x pos) (.nm i) :=
  ⟨gName i, pg_name hN hi hl hf, fun p v H₀ F ρ ρ' σ H Q S r e k => by
    simp only [tgS] at e
    cases e
    obtain ⟨F', S'⟩ := S.sh r hx
    exact k _ F' S' fun vs hv => wipe_set (hv i (by simp [Tg.slots]))⟩
/-- names in a row -/
structure QGs (C : Fc) (X : Cx) (ts : List Expr) (is : List Nat) : Prop where
  ex : ∃ t, PGs X ts t ∧ ∀ (ps : List PV) (vs : List V) (H₀ : Hp) (F : List Addr) (ρ : Env) (σ : L2.St) (H : Hp) (Q : L2.St → Hp → Prop), SR C H₀ F ρ σ H → Reps C.G H₀ ps vs → ps.length = is.length →
    (∀ σ' F', SR C H₀ F' (setMany is ps ρ) σ' H → (∀ ws, (∀ i ∈ is, i ∈ ws) → wipe σ' ws = wipe σ ws) → Q σ' H) → t vs σ H Q
theorem qgsNil : QGs C X [] [] := ⟨gNil, pgs_nil, fun ps vs H₀ F ρ σ H Q S r e k => by
  have e1 : ps = [] := List.length_eq_zero_iff.mp e
  subst e1
  simp only [Reps] at r
  exact ⟨r, k σ F S fun _ _ => rfl⟩⟩
theorem qgsCons {i : Nat} {x : Str} {px : Pos} {ts : List Expr} {is : List Nat} (hx : fxOk C i) (hN : X.N.Nodup) (hr : QGs C X ts is) (hi : X.N[i]? = some x := by rfl) (hl : Loc X.env.scope x := by first | exact Or.inl rfl | exact Or.inr rfl) (hf : X.fn x = true ∨ X.env.scope.names.lookup x = some .local := by first | exact .inl rfl | exact .inr rfl)
    (hs : (assignEach (.Name x px :: ts) X.env).map (·.2) = assign (.Name x px) X.env :: (assignEach ts X.env).map (·.2) := by rfl) : QGs C X (.Name x px :: ts) (i :: is) := by
  obtain ⟨t, h1, h2⟩ := hr.ex
  refine ⟨gCons (gName i) t, pgs_cons (pg_name hN hi hl hf) h1 hs, fun ps vs H₀ F ρ σ H Q S r e k => ?_⟩
  cases ps with
  | nil => cases e
  | cons p ps =>
    simp only [Reps] at r
    obtain ⟨v, ws, e1, r1, r2⟩ := r
    obtain ⟨F1, S1⟩ := S.sh r1 hx
    refine ⟨v, ws, e1, h2 ps ws H₀ F1 _ _ H Q S1 r2 (by simpa using e) fun σ' F' S' w => k σ' F' S' fun ws hw => ?_⟩
    rw [w ws fun j hj => hw j (List.mem_cons_of_mem _ hj), wipe_set (hw i List.mem_cons_self)]
theorem PG.or {X : Cx} {e : Expr} {t t' : TG} (h : PG X e t) (h' : PG X e t') : PG X e (fun v σ H Q => t v σ H Q ∨ t' v σ H Q) := ⟨fun pins s σ H v u Q I r q => q.elim (h.run pins s σ H v u Q I r) (h'.run pins s σ H v u Q I r)⟩
theorem qgTup {ts : List Expr} {is : List Nat} {k n : Nat} (hK : X.K = C.G.K) (hc : X.calm = true) (h : QGs C X ts is) (hl : is.length = n := by rfl) (hn : (assignEach ts X.env).length = n := by rfl) (hst : (assignEach ts X.env).findIdx? (·.1) = none := by rfl) : QG C X (.Tuple ts k pos) (.tp is) := by
  obtain ⟨t, h1, h2⟩ := h.ex
  refine ⟨_, PG.or (pg_tup hc h1 hn hst) (pg_lst hc h1 hn hst), fun p v H₀ F ρ ρ' σ H Q S r e kk => ?_⟩
  have go : ∀ {l : List PV} {xs : List V}, Reps C.G H₀ l xs → l.length = is.length → ρ' = setMany is l ρ → t xs σ H Q := fun {l xs} r' hlen er =>
    h2 l xs H₀ F ρ σ H Q S r' hlen fun σ' F' S' w => kk σ' F' (er ▸ S') w
  cases p with
  | lst l =>
    simp only [tgS] at e
    split at e
    · rename_i hlen
      cases e
      simp only [Rep] at r
      obtain ⟨a, xs, e1, e2, e3⟩ := r
      exact .inr ⟨a, xs, e1, SqL.of (S.z _ _ e2), by rw [← e3.length, hlen, hl], go e3 hlen rfl⟩
    · cases e
  | tup l =>
    simp only [tgS] at e
    split at e
    · rename_i hlen
      cases e
      simp only [Rep] at r
      obtain ⟨a, xs, e1, e2, e3⟩ := r
      refine .inl ⟨a, xs, e1, ?_, by rw [← e3.length, hlen, hl], go e3 hlen rfl⟩
      rw [hK]
      exact Same.seqT S.z e2
    · cases e
  | _ => simp only [tgS] at e; cases e
/-! ### comprehensions -/
def wipeE (ρ : Env) : List Nat → Env
  | [] => ρ
  | v :: vs => (wipeE ρ vs).set v none
theorem SR.wipe : ∀ (vs : List Nat) {F : List Addr} {ρ : Env} {σ : L2.St}, SR C H₀ F ρ σ H → (∀ i ∈ vs, fxOk C i) → ∃ F', SR C H₀ F' (wipeE ρ vs) (L2.wipe σ vs) H
  | [], F, ρ, σ, S, _ => ⟨F, S⟩
  | v :: vs, F, ρ, σ, S, hv => by
    obtain ⟨F1, S1⟩ := SR.wipe vs S fun i hi => hv i (List.mem_cons_of_mem _ hi)
    obtain ⟨F2, S2⟩ := S1.drop v
    refine ⟨F2, ?_⟩
    show SR C H₀ F2 ((wipeE ρ vs).set v none) ((L2.wipe σ vs).set v none) H
    by_cases hl : v < (wipeE ρ vs).length
    · exact S2.any none (List.getElem?_set_self hl) (hv v List.mem_cons_self)
    · have e2 : (L2.wipe σ vs).set v none = L2.wipe σ vs := List.set_eq_of_length_le (by rw [← S1.env.length]; omega)
      rw [e2]
      exact S2
/-- nothing is said where something is raised -/
def R.calm {α : Type} : R α → R α
  | .er _ => .no
  | r => r
theorem R.calm_ok {α : Type} {r : R α} {a : α} (h : R.calm r = .ok a) : r = .ok a := by
  cases r with
  | ok b => exact h
  | er x => cases h
  | no => cases h
@[simp] theorem R.calm_ok' {α : Type} (a : α) : R.calm (R.ok a) = .ok a := rfl
theorem R.bind_eq {α β : Type} {r : R α} {f : α → R β} {b : β} (h : r.bind f = .ok b) : ∃ a, r = .ok a ∧ f a = .ok b := by
  cases r with
  | ok a => exact ⟨a, rfl, h⟩
  | er x => cases h
  | no => cases h
def lcGo (T : Tg) (t : Env → R Bool) (e : Env → R OV) (ρ : Env) : List PV → R (List OV)
  | [] => .ok []
  | p :: ps => (tgS T p ρ).bind fun ρ1 => (R.calm (t ρ1)).bind fun b => if b = true then (R.calm (e ρ1)).bind fun o => (lcGo T t e ρ ps).bind fun os => .ok (o :: os) else lcGo T t e ρ ps
def fLc (T : Tg) (vs : List Nat) (f : Env → R (List PV)) (t : Env → R Bool) (e : Env → R OV) : Env → R OV := fun ρ => (f ρ).bind fun ps => if ps.length ≤ sizeLine then (R.calm (lcGo T t e (wipeE ρ vs) ps)).bind fun os => .ok (.own os) else .no
abbrev W0 : WX := fun _ _ _ _ => False
/-- the invariant of a comprehension: behind i items -/
structure LcI (C : Fc) (T : Tg) (t : Env → R Bool) (e : Env → R OV) (ρw : Env) (ps : List PV) (tot : List OV) (D : Addr) (H₁ H1 : Hp) (i : Nat) (H : Hp) : Prop where
  ex : ∃ H₀ Fa os osr acc, Ext H₁ H1 H₀ H ∧ H D = some (.lst acc) ∧ H₀ D = none ∧ OwnRs C.G H₀ H os acc Fa ∧ (D :: Fa).Nodup ∧ (∀ a ∈ Fa, H1 a = none ∧ H₀ a = none) ∧ acc.length ≤ i ∧ lcGo T t e ρw (ps.drop i) = .ok osr ∧ os ++ osr = tot
theorem OwnRs.snoc {G : Gc} {H₀ H : Hp} {o : OV} {v : V} {Fv : List Addr} (r : OwnR G H₀ H o v Fv) : ∀ {os : List OV} {acc : List V} {Fa : List Addr}, OwnRs G H₀ H os acc Fa → OwnRs G H₀ H (os ++ [o]) (acc ++ [v]) (Fa ++ Fv)
  | [], acc, Fa, h => by
    simp only [OwnRs] at h
    obtain ⟨h1, h2⟩ := h
    subst h1 h2
    simp only [List.nil_append, OwnRs]
    exact ⟨v, [], Fv, [], rfl, by simp, r, rfl, rfl⟩
  | q :: os, acc, Fa, h => by
    simp only [OwnRs] at h
    obtain ⟨x, ys, F1, F2, h1, h2, h3, h4⟩ := h
    subst h1 h2
    show OwnRs G H₀ H (q :: (os ++ [o])) (x :: (ys ++ [v])) _
    simp only [OwnRs]
    exact ⟨x, _, F1, F2 ++ Fv, rfl, by rw [List.append_assoc], h3, OwnRs.snoc r h4⟩
theorem lc_go {T : Tg} {vs : List Nat} {f : Env → R (List PV)} {t : Env → R Bool} {el : Env → R OV} {g : TG} (hvs : ∀ i ∈ T.slots, i ∈ vs) (hfx : ∀ i ∈ vs, fxOk C i)
    (hgo : ∀ (p : PV) (v : V) (H₀ : Hp) (F : List Addr) (ρ ρ' : Env) (σ : L2.St) (H : Hp) (Q : L2.St → Hp → Prop), SR C H₀ F ρ σ H → Rep C.G H₀ p v → tgS T p ρ = .ok ρ' → (∀ σ' F', SR C H₀ F' ρ' σ' H → (∀ vs, (∀ i ∈ T.slots, i ∈ vs) → wipe σ' vs = wipe σ vs) → Q σ' H) → g v σ H Q)
    {Q : VK} (h : tF C W (fLc T vs f t el) σ H Q) : tLc (tI C W true f) g (tTt C W0 t) (tF C W0 el) vs σ H Q := by
  rw [tF_iff] at h
  obtain ⟨H₀, F, ρ, S, h⟩ := h
  unfold fLc at h
  rw [Goes.bind] at h
  refine ⟨H₀, F, ρ, S, h.imp fun ps _ h J H1 H₁ E1 ip D hD => ?_⟩
  have ip : ItP C.G J H₁ ps := ip
  split at h
  · rename_i hlen
    rw [Goes.bind] at h
    cases q : lcGo T t el (wipeE ρ vs) ps with
    | er x => rw [q] at h; exact h.elim
    | no => rw [q] at h; exact h.elim
    | ok tot =>
      rw [q] at h
      have h : ∀ v H' H₀' Fv, Ext H₀ H H₀' H' → OwnR C.G H₀' H' (.own tot) v Fv → Fv.Nodup → (∀ a ∈ Fv, H a = none ∧ H₀' a = none) → Q v H' := h
      have D0 : H₁ D = none := Same.free E1.z hD
      have ext_D : ∀ {Ha Hb : Hp} {acc acc' : List V}, Ext H₁ H1 Ha Hb → Ha D = none → Ext H₁ H1 Ha (upd Hb D (.lst acc')) := fun {Ha Hb acc acc'} E0 hD0 => by
        refine ⟨fun b u q => ?_, E0.s0, fun b u q => ?_, E0.n⟩
        · rw [upd_ne fun z => by rw [z, hD] at q; cases q]; exact E0.s b u q
        · rw [upd_ne fun z => by rw [z, hD0] at q; cases q]; exact E0.z b u q
      refine ⟨fun i mm Hc => mm = ps.length - i ∧ i ≤ ps.length ∧ LcI C T t el (wipeE ρ vs) ps tot D H₁ H1 i Hc, ⟨ps.length, by simp, Nat.zero_le _, ⟨H₁, [], [], tot, [], ext_D (acc := []) (Ext.refl E1.z) D0, upd_same, D0, by simp [OwnRs], by simp, fun a ha => (by cases ha), by simp, by simpa using q, rfl⟩⟩, ?_⟩
      rintro i mm Hc ⟨rfl, hi, ⟨H₀c, Fa, os, osr, acc, Ec, hDc, hD0, own, nd, fr, hacc, hgo', htot⟩⟩
      have sc : Same H₁ Hc := Ec.s0.trans Ec.z
      by_cases hlt : i < ps.length
      · have hp : ps[i]? = some ps[i] := by simp [hlt]
        obtain ⟨jg, jy⟩ := ip.go i Hc _ sc hp
        refine .inr ⟨jg, fun H' => ps.length - (i + 1) = ps.length - (i + 1) ∧ i + 1 ≤ ps.length ∧ LcI C T t el (wipeE ρ vs) ps tot D H₁ H1 (i + 1) H', fun H' z => ⟨ps.length - (i + 1), by omega, z⟩, fun x H' y => ?_⟩
        obtain ⟨e1, rx⟩ := jy x H' y
        subst e1
        rw [List.drop_eq_getElem_cons hlt] at hgo'
        unfold lcGo at hgo'
        obtain ⟨ρ1, et, hgo'⟩ := R.bind_eq hgo'
        obtain ⟨b, eb, hgo'⟩ := R.bind_eq hgo'
        have eb := R.calm_ok eb
        obtain ⟨Fw, Sw⟩ := SR.wipe vs ((S.ext E1).ext Ec) hfx
        refine hgo _ x H₀c Fw _ ρ1 _ H' _ Sw (Rep.mono Ec.s0 rx) et fun σ2 F2 S2 w2 => ⟨?_, ?_⟩
        · rw [w2 vs hvs]
          apply List.ext_getElem?
          intro j
          by_cases hj : j < σ.length
          · rw [wipe_get vs _ j (by rw [wipe_length]; exact hj), wipe_get vs σ j hj]
            by_cases e : j ∈ vs
            · simp [e]
            · simp [e]
          · rw [List.getElem?_eq_none (by rw [wipe_length, wipe_length]; omega), List.getElem?_eq_none (by rw [wipe_length]; omega)]
        · rw [tT_iff]
          refine ⟨H₀c, F2, ρ1, S2, ?_⟩
          rw [eb]
          intro H3 H₃ E3
          cases b with
          | false =>
            rw [if_neg Bool.false_ne_true] at hgo'
            show if false = true then _ else _
            rw [if_neg Bool.false_ne_true]
            have mono : ∀ a ∈ Fa, H3 a = H' a := fun a ha => by
              obtain ⟨u, e⟩ := OwnRs.there own a ha
              rw [e, E3.s a u e]
            refine ⟨rfl, hlt, ⟨H₃, Fa, os, osr, acc, Ec.trans E3, E3.s _ _ hDc, by rw [E3.n D (ne_none_of hDc)]; exact hD0, OwnRs.mono E3.s0 mono own, nd, fun a ha => ⟨(fr a ha).1, ?_⟩, by omega, hgo', htot⟩⟩
            obtain ⟨u, e⟩ := OwnRs.there own a ha
            rw [E3.n a (ne_none_of e)]
            exact (fr a ha).2
          | true =>
            rw [if_pos rfl] at hgo'
            show if true = true then _ else _
            rw [if_pos rfl, tF_iff]
            obtain ⟨o, eo, hgo'⟩ := R.bind_eq hgo'
            have eo := R.calm_ok eo
            obtain ⟨osr', er, hgo'⟩ := R.bind_eq hgo'
            cases hgo'
            refine ⟨H₃, F2, ρ1, S2.ext E3, ?_⟩
            rw [eo]
            intro y H4 H₄ Fv E4 ro ndv frv
            have E34 := E3.trans E4
            have hD4 : H4 D = some (.lst acc) := E34.s _ _ hDc
            have hD40 : H₄ D = none := by rw [E34.n D (ne_none_of hDc)]; exact hD0
            have aD : ∀ a ∈ Fa, a ≠ D := fun a ha z => (List.nodup_cons.mp nd).1 (z ▸ ha)
            have vD : ∀ a ∈ Fv, a ≠ D := fun a ha z => by
              have z2 := (frv a ha).1
              rw [z, E3.s _ _ hDc] at z2
              cases z2
            have mono : ∀ a ∈ Fa, H4 a = H' a := fun a ha => by
              obtain ⟨u, e⟩ := OwnRs.there own a ha
              rw [e, E34.s a u e]
            have own4 : OwnRs C.G H₄ H4 os acc Fa := OwnRs.mono E34.s0 mono own
            have own5 := OwnRs.snoc ro own4
            have nD : ∀ a ∈ Fa ++ Fv, a ≠ D := fun a ha => (List.mem_append.mp ha).elim (aD a) (vD a)
            refine ⟨acc, hD4, by have := hlen; omega, rfl, hlt, ⟨H₄, Fa ++ Fv, os ++ [o], osr', acc ++ [y], ext_D (acc := acc) (Ec.trans E34) hD40, upd_same, hD40, OwnRs.mono (Same.refl _) (fun a ha => upd_ne (nD a ha)) own5, ?_, fun a ha => ?_, by rw [List.length_append, List.length_singleton]; omega, er, by rw [← htot, List.append_assoc]; rfl⟩⟩
            · refine List.nodup_cons.mpr ⟨fun z => nD D z rfl, List.nodup_append.mpr ⟨(List.nodup_cons.mp nd).2, ndv, fun a ha b hb e => ?_⟩⟩
              subst e
              obtain ⟨u, e⟩ := OwnRs.there own a ha
              have z2 := (frv a hb).1
              rw [E3.s a u e] at z2
              cases z2
            · rcases List.mem_append.mp ha with z | z
              · obtain ⟨u, e⟩ := OwnRs.there own a z
                exact ⟨(fr a z).1, by rw [E34.n a (ne_none_of e)]; exact (fr a z).2⟩
              · refine ⟨Same.free (Ec.s.trans E3.s) (frv a z).1, (frv a z).2⟩
      · have hie : i = ps.length := by omega
        refine .inl ⟨ip.stop i Hc sc (by omega), ?_⟩
        rw [hie, List.drop_length] at hgo'
        unfold lcGo at hgo'
        cases hgo'
        rw [List.append_nil] at htot
        subst htot
        refine h (.ref D) Hc H₀c (D :: Fa) (E1.trans Ec) (by simp only [OwnR]; exact ⟨D, acc, Fa, rfl, rfl, hDc, own⟩) nd fun a ha => ?_
        rcases List.mem_cons.mp ha with z | z
        · rw [z]; exact ⟨Same.free E1.s hD, hD0⟩
        · exact ⟨Same.free E1.s (fr a z).1, (fr a z).2⟩
  · exact h.elim
/-- a clause's tests -/
def tYesB : Env → R Bool := fun _ => .ok true
theorem PTs.imp {X : Cx} {es : List Expr} {t t' : TT} (h : PTs X es t) (k : ∀ σ H Q, t' σ H Q → t σ H Q) : PTs X es t' := ⟨fun pins s σ H Q I q => h.run pins s σ H Q I (k _ _ _ q)⟩
theorem qtsNil : PTs X [] (tTt C W0 tYesB) := PTs.imp pts_nil fun σ H Q ⟨H₀, F, ρ, S, h⟩ => h H H₀ (Ext.refl S.z)
theorem qtsOne {t : Env → R Bool} (h : QT C W0 X e t) : PTs X [e] (tTt C W0 t) := pts_one h
theorem qLc {elt iter : Expr} {ifs : List Expr} {scope : Scope} {own : List (Str × Nat)} {T : Tg} {f : Env → R (List PV)} {t : Env → R Bool} {el : Env → R OV} (hc : X.calm = true) (hN : X.N.Nodup) (hi : QI C W true X tg iter f) (ok : BlkOk X.N X.env.scope scope own) (hvs : ∀ i ∈ T.slots, i ∈ own.map (·.2)) (hfx : ∀ i ∈ own.map (·.2), fxOk C i)
    (hg : ∃ g : TG, (∀ (s : Shared) (H : Hp) (c : Addr) (cl : List (Str × Addr)) (fp : List Addr), PG (X.blk s H scope (compEnvC scope cl c X.env) fp) tg g) ∧ ∀ (p : PV) (v : V) (H₀ : Hp) (F : List Addr) (ρ ρ' : Env) (σ : L2.St) (H : Hp) (Q : L2.St → Hp → Prop), SR C H₀ F ρ σ H → Rep C.G H₀ p v → tgS T p ρ = .ok ρ' → (∀ σ' F', SR C H₀ F' ρ' σ' H → (∀ vs, (∀ i ∈ T.slots, i ∈ vs) → wipe σ' vs = wipe σ vs) → Q σ' H) → g v σ H Q)
    (ht : ∀ (s : Shared) (H : Hp) (c : Addr) (cl : List (Str × Addr)) (fp : List Addr), PTs (X.blk s H scope (compEnvC scope cl c X.env) fp) ifs (tTt C W0 t))
    (he : ∀ (s : Shared) (H : Hp) (c : Addr) (cl : List (Str × Addr)) (fp : List Addr), QF C W0 (X.blk s H scope (compEnvC scope cl c X.env) fp) elt el) (hs : ∀ x, foldedSetIterable iter X.env x = pure x := by intro _; rfl) :
    QF C W X (.ListComp elt [⟨tg, iter, ifs, 0⟩] scope pos) (fLc T (own.map (·.2)) f t el) := by
  obtain ⟨g, hg1, hg2⟩ := hg
  exact PE.imp (pe_lc hc hN hi ok hg1 ht he hs) fun σ H Q h => lc_go hvs hfx hg2 h
/-- a name as the comprehension's target -/
theorem lcName {scope : Scope} {i : Nat} {x : Str} (hx : fxOk C i) (hN : X.N.Nodup) (hi : X.N[i]? = some x) (hl : ∀ c cl, (compEnvC scope cl c X.env).scope.names.lookup x = some .local) :
    ∃ g : TG, (∀ (s : Shared) (H : Hp) (c : Addr) (cl : List (Str × Addr)) (fp : List Addr), PG (X.blk s H scope (compEnvC scope cl c X.env) fp) (.Name x pos) g) ∧ ∀ (p : PV) (v : V) (H₀ : Hp) (F : List Addr) (ρ ρ' : Env) (σ : L2.St) (H : Hp) (Q : L2.St → Hp → Prop), SR C H₀ F ρ σ H → Rep C.G H₀ p v → tgS (.nm i) p ρ = .ok ρ' → (∀ σ' F', SR C H₀ F' ρ' σ' H → (∀ vs, (∀ j ∈ (Tg.nm i).slots, j ∈ vs) → wipe σ' vs = wipe σ vs) → Q σ' H) → g v σ H Q :=
  ⟨gName i, fun s H c cl fp => pg_name hN hi (.inl (hl c cl)) (.inr (hl c cl)), fun p v H₀ F ρ ρ' σ H Q S r e k => by
    simp only [tgS] at e
    cases e
    obtain ⟨F', S'⟩ := S.sh r hx
    exact k _ F' S' fun vs hv => wipe_set (hv i (by simp [Tg.slots]))⟩
end
end L3

/-! L3. 6: calls of defs, methods, classes -/
namespace L3
open PySem PySem.Spec PyProof.Rows L2
/-! ### contracts -/
section
variable (Γ : Gc)
/-- a def's promise -/
def spP (F : List PV → R OV) : Sp := fun vs H Q E => ∃ H₀ ps, Same H₀ H ∧ Reps Γ H₀ ps vs ∧ Goes Γ (fun cls d _ H' => E cls d H') (F ps) [] H H₀ fun o =>
  ∀ v H' H₀' Fv, Ext H₀ H H₀' H' → OwnR Γ H₀' H' o v Fv → Fv.Nodup → (∀ a ∈ Fv, H a = none ∧ H₀' a = none) → Q v H'
def del (H : Hp) (x : Addr) : Hp := fun a => if a = x then none else H a
/-- an __init__'s promise: the new instance's fields -/
def spI (c : Nat) (F : List PV → R (List (Str × OV))) : Sp := fun vs H Q E => ∃ x dx ws H₀ ps, vs = .ref x :: ws ∧ H x = some (.ins (Γ.CA c) dx []) ∧ H₀ x = none ∧ Same H₀ H ∧ Reps Γ H₀ ps ws ∧ (match F ps with
  | .ok fs => ∀ H' H₀' Fv, Ext H₀ (del H x) H₀' (del H' x) → OwnR Γ H₀' H' (.obj c fs) (.ref x) Fv → Fv.Nodup → (∀ a ∈ Fv, (a = x ∨ H a = none) ∧ H₀' a = none) → Q .non H'
  | .er z => ∀ cls d H' H₀', Ext H₀ (del H x) H₀' (del H' x) → RepX Γ H₀' z cls d → E cls d H'
  | .no => False)
end
/-! ### results without lists: these may leave what is only looked at -/
mutual
def PV.flat : PV → Bool
  | .non => true
  | .bl _ => true
  | .int _ => true
  | .str _ => true
  | .lst _ => false
  | .scr _ => false
  | .tup l => PV.flats l
  | .ins _ _ => false
def PV.flats : List PV → Bool
  | [] => true
  | p :: ps => p.flat && PV.flats ps
end
def PV.flatf : List (Str × PV) → Bool
  | [] => true
  | (_, p) :: ps => p.flat && PV.flatf ps
mutual
def OV.flat : OV → Bool
  | .sh p => p.flat
  | .own l => OV.flats l
  | .obj _ fs => OV.flatf fs
def OV.flats : List OV → Bool
  | [] => true
  | o :: l => o.flat && OV.flats l
def OV.flatf : List (Str × OV) → Bool
  | [] => true
  | (_, o) :: l => o.flat && OV.flatf l
end
def capR (m : Bool) : R OV → R OV
  | .ok o => if m = true ∨ o.flat = true then .ok o else .no
  | .er x => if m = true ∨ PV.flatf x.fs = true then .er x else .no
  | .no => .no
theorem Goes.cap_ok {Γ : Gc} {W : WX} {σ : L2.St} {H H₀ : Hp} {k : OV → Prop} {m : Bool} {o : OV} (h : Goes Γ W (capR m (.ok o)) σ H H₀ k) : (m = true ∨ o.flat = true) ∧ k o := by
  have e : capR m (.ok o) = if m = true ∨ o.flat = true then .ok o else .no := rfl
  rw [e] at h
  by_cases hc : m = true ∨ o.flat = true
  · rw [if_pos hc] at h
    exact ⟨hc, h⟩
  · rw [if_neg hc] at h
    exact h.elim
theorem Goes.cap_er {Γ : Gc} {W : WX} {σ : L2.St} {H H₀ : Hp} {k : OV → Prop} {m : Bool} {x : PX} (h : Goes Γ W (capR m (.er x)) σ H H₀ k) : (m = true ∨ PV.flatf x.fs = true) ∧ ∀ cls d H' H₀', Ext H₀ H H₀' H' → RepX Γ H₀' x cls d → W cls d σ H' := by
  have e : capR m (.er x) = if m = true ∨ PV.flatf x.fs = true then .er x else .no := rfl
  rw [e] at h
  by_cases hc : m = true ∨ PV.flatf x.fs = true
  · rw [if_pos hc] at h
    exact ⟨hc, h⟩
  · rw [if_neg hc] at h
    exact h.elim
@[simp] theorem capR_true (r : R OV) : capR true r = r := by cases r <;> simp [capR]
def mask (H : Hp) (F : List Addr) : Hp := fun a => if a ∈ F then none else H a
def isLI : HO → Prop
  | .lst _ => True
  | .ins _ _ _ => True
  | _ => False
section
variable {C : Fc} {G : Gc} {m : Bool} {H₀ H Hc H' : Hp} {F : List Addr} {ρ : Env} {σ : L2.St}
theorem mask_get {a : Addr} {o : HO} (hF : ∀ a ∈ F, ∀ o, Hc a = some o → isLI o) (h : Hc a = some o) (k : ¬ isLI o) : mask Hc F a = some o := by
  unfold mask
  rw [if_neg fun z => k (hF a z o h)]
  exact h
mutual
theorem Rep.mask (hF : ∀ a ∈ F, ∀ o, Hc a = some o → isLI o) : ∀ {p : PV} {v : V}, p.flat = true → Rep G Hc p v → Rep G (mask Hc F) p v
  | .non, _, _, h => by simpa only [Rep] using h
  | .bl _, _, _, h => by simpa only [Rep] using h
  | .int _, _, _, h => by simpa only [Rep] using h
  | .str _, _, _, h => by simpa only [Rep] using h
  | .lst _, _, e, _ => by simp [PV.flat] at e
  | .scr _, _, e, _ => by simp [PV.flat] at e
  | .tup l, v, e, h => by
    simp only [PV.flat] at e
    simp only [Rep] at h ⊢
    obtain ⟨a, xs, h1, h2, h3⟩ := h
    refine ⟨a, xs, h1, ?_, Reps.mask hF e h3⟩
    rcases h2 with (h2 | ⟨o, h2⟩) | h2
    · exact .inl (.inl (mask_get hF h2 id))
    · exact .inl (.inr ⟨o, mask_get hF h2 id⟩)
    · exact .inr h2
  | .ins _ _, _, e, _ => by simp [PV.flat] at e
theorem Reps.mask (hF : ∀ a ∈ F, ∀ o, Hc a = some o → isLI o) : ∀ {ps : List PV} {vs : List V}, PV.flats ps = true → Reps G Hc ps vs → Reps G (mask Hc F) ps vs
  | [], _, _, h => by simpa only [Reps] using h
  | p :: ps, vs, e, h => by
    simp only [PV.flats, Bool.and_eq_true] at e
    simp only [Reps] at h ⊢
    obtain ⟨x, ys, h1, h2, h3⟩ := h
    exact ⟨x, ys, h1, Rep.mask hF e.1 h2, Reps.mask hF e.2 h3⟩
end
theorem RepF.mask (hF : ∀ a ∈ F, ∀ o, Hc a = some o → isLI o) : ∀ {ps : List (Str × PV)} {vs : List (Str × V)}, PV.flatf ps = true → RepF G Hc ps vs → RepF G (mask Hc F) ps vs
  | [], _, _, h => by simpa only [RepF] using h
  | (f, p) :: ps, vs, e, h => by
    simp only [PV.flatf, Bool.and_eq_true] at e
    simp only [RepF] at h ⊢
    obtain ⟨x, ys, h1, h2, h3⟩ := h
    exact ⟨x, ys, h1, Rep.mask hF e.1 h2, RepF.mask hF e.2 h3⟩
mutual
theorem OwnR.mask (hF : ∀ a ∈ F, ∀ o, Hc a = some o → isLI o) : ∀ {o : OV} {v : V} {Fv : List Addr}, o.flat = true → OwnR G Hc H o v Fv → OwnR G (mask Hc F) H o v Fv
  | .sh p, v, Fv, e, h => by
    simp only [OV.flat] at e
    simp only [OwnR] at h ⊢
    exact ⟨Rep.mask hF e h.1, h.2⟩
  | .own l, v, Fv, e, h => by
    simp only [OV.flat] at e
    simp only [OwnR] at h ⊢
    obtain ⟨a, xs, F', h1, h2, h3, h4⟩ := h
    exact ⟨a, xs, F', h1, h2, h3, OwnRs.mask hF e h4⟩
  | .obj c fs, v, Fv, e, h => by
    simp only [OV.flat] at e
    simp only [OwnR] at h ⊢
    obtain ⟨a, dx, vs, F', h1, h2, h3, h4⟩ := h
    exact ⟨a, dx, vs, F', h1, h2, h3, OwnRf.mask hF e h4⟩
theorem OwnRs.mask (hF : ∀ a ∈ F, ∀ o, Hc a = some o → isLI o) : ∀ {l : List OV} {xs : List V} {Fv : List Addr}, OV.flats l = true → OwnRs G Hc H l xs Fv → OwnRs G (mask Hc F) H l xs Fv
  | [], xs, Fv, _, h => by simpa only [OwnRs] using h
  | o :: l, xs, Fv, e, h => by
    simp only [OV.flats, Bool.and_eq_true] at e
    simp only [OwnRs] at h ⊢
    obtain ⟨x, ys, F1, F2, h1, h2, h3, h4⟩ := h
    exact ⟨x, ys, F1, F2, h1, h2, OwnR.mask hF e.1 h3, OwnRs.mask hF e.2 h4⟩
theorem OwnRf.mask (hF : ∀ a ∈ F, ∀ o, Hc a = some o → isLI o) : ∀ {l : List (Str × OV)} {xs : List (Str × V)} {Fv : List Addr}, OV.flatf l = true → OwnRf G Hc H l xs Fv → OwnRf G (mask Hc F) H l xs Fv
  | [], xs, Fv, _, h => by simpa only [OwnRf] using h
  | (f, o) :: l, xs, Fv, e, h => by
    simp only [OV.flatf, Bool.and_eq_true] at e
    simp only [OwnRf] at h ⊢
    obtain ⟨x, ys, F1, F2, h1, h2, h3, h4⟩ := h
    exact ⟨x, ys, F1, F2, h1, h2, OwnR.mask hF e.1 h3, OwnRf.mask hF e.2 h4⟩
end
mutual
theorem OwnR.kind : ∀ {o : OV} {v : V} {F : List Addr}, OwnR G H₀ H o v F → ∀ a ∈ F, ∃ u, H a = some u ∧ isLI u
  | .sh p, v, F, h, a, ha => by simp only [OwnR] at h; rw [h.2] at ha; cases ha
  | .own l, v, F, h, a, ha => by
    simp only [OwnR] at h
    obtain ⟨b, xs, F', h1, h2, h3, h4⟩ := h
    subst h2
    rcases List.mem_cons.mp ha with e | ha
    · rw [e]; exact ⟨_, h3, trivial⟩
    · exact OwnRs.kind h4 a ha
  | .obj c fs, v, F, h, a, ha => by
    simp only [OwnR] at h
    obtain ⟨b, dx, vs, F', h1, h2, h3, h4⟩ := h
    subst h2
    rcases List.mem_cons.mp ha with e | ha
    · rw [e]; exact ⟨_, h3, trivial⟩
    · exact OwnRf.kind h4 a ha
theorem OwnRs.kind : ∀ {l : List OV} {xs : List V} {F : List Addr}, OwnRs G H₀ H l xs F → ∀ a ∈ F, ∃ u, H a = some u ∧ isLI u
  | [], xs, F, h, a, ha => by simp only [OwnRs] at h; rw [h.2] at ha; cases ha
  | o :: l, xs, F, h, a, ha => by
    simp only [OwnRs] at h
    obtain ⟨x, ys, F1, F2, h1, h2, h3, h4⟩ := h
    subst h2
    rcases List.mem_append.mp ha with ha | ha
    · exact OwnR.kind h3 a ha
    · exact OwnRs.kind h4 a ha
theorem OwnRf.kind : ∀ {l : List (Str × OV)} {xs : List (Str × V)} {F : List Addr}, OwnRf G H₀ H l xs F → ∀ a ∈ F, ∃ u, H a = some u ∧ isLI u
  | [], xs, F, h, a, ha => by simp only [OwnRf] at h; rw [h.2] at ha; cases ha
  | (f, o) :: l, xs, F, h, a, ha => by
    simp only [OwnRf] at h
    obtain ⟨x, ys, F1, F2, h1, h2, h3, h4⟩ := h
    subst h2
    rcases List.mem_append.mp ha with ha | ha
    · exact OwnR.kind h3 a ha
    · exact OwnRf.kind h4 a ha
end
theorem EnvR.kind : ∀ {ρ : Env} {σ : L2.St} {F : List Addr}, EnvR G H₀ H ρ σ F → ∀ a ∈ F, ∃ u, H a = some u ∧ isLI u
  | [], σ, F, h, a, ha => by rw [h.2] at ha; cases ha
  | none :: ρ, σ, F, h, a, ha => by
    obtain ⟨x, τ, h1, h2⟩ := h
    exact EnvR.kind h2 a ha
  | some o :: ρ, σ, F, h, a, ha => by
    obtain ⟨v, τ, F1, F2, h1, h2, h3, h4⟩ := h
    subst h2
    rcases List.mem_append.mp ha with ha | ha
    · exact OwnR.kind h3 a ha
    · exact EnvR.kind h4 a ha
/-- behind a call: what the callee froze is frozen, what is owned is owned again -/
theorem cap (S : SR C H₀ F ρ σ H) (E : Ext (md m H₀ H F) H Hc H') : ∃ H₀', Ext H₀ H H₀' H' ∧ (∀ o v Fv, (m = true ∨ o.flat = true) → OwnR C.G Hc H' o v Fv → OwnR C.G H₀' H' o v Fv) ∧
    (∀ x cls d, (m = true ∨ PV.flatf x.fs = true) → RepX C.G Hc x cls d → RepX C.G H₀' x cls d) ∧ (∀ a, Hc a = none → H₀' a = none) := by
  cases m with
  | true => exact ⟨Hc, E, fun o v Fv _ r => r, fun x cls d _ r => r, fun a h => h⟩
  | false =>
    have E : Ext (vw H₀ H F) H Hc H' := E
    have hF : ∀ a ∈ F, ∀ o, Hc a = some o → isLI o := fun a ha o e => by
      obtain ⟨u, e1, e2⟩ := S.env.kind a ha
      rw [E.n a (ne_none_of e1)] at e
      unfold vw at e
      rw [if_pos ha, e1] at e
      cases e
      exact e2
    refine ⟨mask Hc F, ⟨E.s, fun a o e => ?_, fun a o e => ?_, fun a ha => ?_⟩, fun o v Fv h r => ?_, fun x cls d h r => ?_, fun a h => ?_⟩
    · have na : a ∉ F := fun z => by rw [(S.fr a z).2] at e; cases e
      unfold mask
      rw [if_neg na]
      refine E.s0 a o ?_
      unfold vw
      rw [if_neg na]
      exact e
    · unfold mask at e
      split at e
      · cases e
      · exact E.z a o e
    · unfold mask
      split
      · rename_i z
        exact (S.fr a z).2.symm
      · rename_i z
        rw [E.n a ha]
        unfold vw
        rw [if_neg z]
    · exact OwnR.mask hF (h.resolve_left Bool.false_ne_true) r
    · obtain ⟨r1, r2⟩ := r
      refine ⟨r1, r2.imp id ?_⟩
      rintro ⟨dd, vs, e1, e2, e3⟩
      exact ⟨dd, vs, e1, mask_get hF e2 id, RepF.mask hF (h.resolve_left Bool.false_ne_true) e3⟩
    · unfold mask
      split
      · rfl
      · exact h
end
/-! ### calls -/
section
variable {C : Fc} {W : WX} {m : Bool} {X : Cx} {o e : Expr} {es : List Expr} {p pos apos : Pos} {σ : L2.St} {H H₀ : Hp} {ρ : Env} {x mth : Str} {k c : Nat} {f Ca : Addr} {fd : FuncData} {ns : List Str} {dvs : List V} {ds : List Value} {dps : List PV}
  {fo : Env → R PV} {fas : Env → R (List PV)} {Fn : List PV → R OV} {FI : List PV → R (List (Str × OV))}
theorem Reps.snoc_all {G : Gc} {Hv : Hp} {ps : List PV} {vs : List V} (r : Reps G Hv ps vs) (hp : ∀ H, Reps G H dps dvs) : Reps G Hv (ps ++ dps) (vs ++ dvs) := r.append (hp _)
theorem call_go {F : List Addr} {qs : List PV} {vs : List V} {Q : VK} (S : SR C H₀ F ρ σ H) (r : Reps C.G (md m H₀ H F) qs vs)
    (h : Goes C.G W (capR m (Fn qs)) σ H H₀ fun o => ∀ v H' H₀' Fv, Ext H₀ H H₀' H' → OwnR C.G H₀' H' o v Fv → Fv.Nodup → (∀ a ∈ Fv, H a = none ∧ H₀' a = none) → Q v H') : spP C.G Fn vs H Q (WE W σ) := by
  refine ⟨md m H₀ H F, qs, md_H S.z, r, ?_⟩
  cases q : Fn qs with
  | ok o =>
    rw [q] at h
    obtain ⟨hc, h⟩ := h.cap_ok
    intro v H' Hc Fv E ro nd fr
    obtain ⟨H₀', E', c1, c2, c3⟩ := cap S E
    exact h v H' H₀' Fv E' (c1 _ _ _ hc ro) nd fun a ha => ⟨(fr a ha).1, c3 a (fr a ha).2⟩
  | er z =>
    rw [q] at h
    obtain ⟨hc, h⟩ := h.cap_er
    intro cls d H' Hc E rx
    obtain ⟨H₀', E', c1, c2, c3⟩ := cap S E
    exact h cls d H' H₀' E' (c2 _ _ _ hc rx)
  | no =>
    rw [q] at h
    exact h.elim
def fCall (m : Bool) (Fn : List PV → R OV) (dps : List PV) (fas : Env → R (List PV)) : Env → R OV := fun ρ => (fas ρ).bind fun ps => capR m (Fn (ps ++ dps))
theorem qCall (Fo : FnOk X.prog X.w X.K X.mg X.base (L2N.CX X.prog X.w) k f fd ns (spP C.G Fn)) (hr : Room k X.A) (tk : L2N.Takes X W) (hm : X.mg x = some (.ref f)) (hk : PySem.W.keepIn X.K (.ref f) = true) (hb : Binds X.K fd ns ds) (hd : Vals dvs ds) (hp : ∀ H, Reps C.G H dps dvs)
    (ha : QA C W m X (e :: es) fas) (hg : Gl X x := by rfl) (hdb : (x == ("__debug__" : Str)) = false := by decide) (he : starEach (e :: es) X.env = (false, eval e X.env) :: starEach es X.env := by rfl) (hpl : (backTo pos (starEach es X.env)).any (·.1) = false := by rfl) :
    QF C W X (.Call (.Name x p) (e :: es) [] pos) (fCall m Fn dps fas) := by
  refine PE.imp (pe_callSD Fo hr hg hm hk hb hd (fun σ => L2N.passAt tk σ) ha hdb he hpl) fun σ H Q h => ?_
  show tAs C W m fas σ H fun vs H1 => spP C.G Fn (vs ++ dvs) H1 Q (WE W σ)
  rw [tF_iff] at h
  rw [tA_iff]
  obtain ⟨H₀, F, ρ, S, h⟩ := h
  unfold fCall at h
  rw [Goes.bind] at h
  refine ⟨H₀, F, ρ, S, h.imp fun ps _ h vs H1 H₁ E1 r1 => ?_⟩
  refine call_go (S.ext E1) (r1.append (hp _)) ((h.later E1).imp fun o _ h v H' H₀' Fv E ro nd fr => h v H' H₀' Fv (E1.trans E) ro nd fun a ha => ⟨Same.free E1.s (fr a ha).1, (fr a ha).2⟩)
theorem qCall0 (Fo : FnOk X.prog X.w X.K X.mg X.base (L2N.CX X.prog X.w) k f fd ns (spP C.G Fn)) (hr : Room k X.A) (tk : L2N.Takes X W) (hm : X.mg x = some (.ref f)) (hk : PySem.W.keepIn X.K (.ref f) = true) (hb : Binds X.K fd ns ds) (hd : Vals dvs ds) (hp : ∀ H, Reps C.G H dps dvs)
    (hg : Gl X x := by rfl) (hdb : (x == ("__debug__" : Str)) = false := by decide) : QF C W X (.Call (.Name x p) [] [] pos) (fCall true Fn dps aNil) := by
  refine ⟨fun pins s σ H Q I h => ?_⟩
  refine wpAny_Call_Name_kw (ld_glob I hg hm ?_ hdb)
  refine PySem.W.callWith_K0 I.kIn hk (run_fnSD (us := []) (vs := []) (E := WE W) Fo hr hb hd (L2N.passAt tk σ) I .nil ?_)
  rw [tF_iff] at h
  obtain ⟨H₀, F, ρ, S, h⟩ := h
  unfold fCall aNil at h
  rw [R.bind_ok] at h
  exact call_go (m := true) (qs := [] ++ dps) (vs := [] ++ dvs) S (Reps.nil.append (hp _)) h
/-! methods -/
def tMethS (Ca : Addr) (mth : Str) (sp : Sp) (dvs : List V) (E : L2.St → XK) (ta : TE) (t : TA) : TE := fun σ H Q => ta σ H fun x H1 => ∃ a dx fs, x = .ref a ∧ H1 a = some (.ins Ca dx fs) ∧ fs.lookup mth = none ∧ t σ H1 fun vs H2 => sp (x :: (vs ++ dvs)) H2 Q (E σ)
section
variable {CX : CXT} {sp : Sp} {E : L2.St → XK} {ta : TE} {t : TA}
theorem pe_methS {pl : Sem Bool} (he : PE X o ta) (c : Cls X.K Ca) (hm : Meth X.K Ca mth f) (F : FnOk X.prog X.w X.K X.mg X.base CX k f fd ns sp) (hr : Room k X.A) (hb : Binds X.K fd ns ds) (hd : Vals dvs ds) (hx : ∀ σ, PassesAt CX X σ (E σ)) (ha : PA X (e :: es) t)
    (hst : starEach (e :: es) X.env = (false, eval e X.env) :: starEach es X.env := by rfl) (hpl : (backTo pos (starEach es X.env)).any (·.1) = false := by rfl)
    (ht : eval (.Call (.Attribute o mth apos) (e :: es) [] pos) X.env = (do
      let ov ← eval o X.env
      standAt apos.atName
      let (f, first) ← holding [ov] (getMethod ov mth pl)
      callWith pos f first (backTo pos (starEach (e :: es) X.env)) (backToKw pos (keywordEach [] X.env))) := by rfl) :
    PE X (.Call (.Attribute o mth apos) (e :: es) [] pos) (tMethS Ca mth sp dvs E ta t) := by
  refine ⟨fun pins s σ H Q I h => ?_⟩
  refine PySem.W.methodCall_KW (pl := pl) (thn (he.run pins s σ H _ I h) fun u s1 ⟨x, H1, I1, rx, a, dx, fs, ex, ea, l, q⟩ => ?_) ht
  subst ex
  obtain rfl : u = Value.ref a := rx
  refine getmeth_ok I1 ea c hm l ?_
  refine PySem.W.callWith_K (first := [.ref a]) (h₀ := X.base) I.ok.mod.kin hm.kp (thn (ha.run pos pins s1 σ H1 _ I1 q) fun us s2 ⟨vs, H2, I2, r, q2⟩ => ⟨I2.kIn, ?_⟩) hst hpl
  exact run_fnSD (us := .ref a :: us) (vs := .ref a :: vs) F hr hb hd (hx σ) I2 (.cons rfl r) q2
theorem pe_methS0 {pl : Sem Bool} (he : PE X o ta) (c : Cls X.K Ca) (hm : Meth X.K Ca mth f) (F : FnOk X.prog X.w X.K X.mg X.base CX k f fd ns sp) (hr : Room k X.A) (hb : Binds X.K fd ns ds) (hd : Vals dvs ds) (hx : ∀ σ, PassesAt CX X σ (E σ))
    (ht : eval (.Call (.Attribute o mth apos) [] [] pos) X.env = (do
      let ov ← eval o X.env
      standAt apos.atName
      let (f, first) ← holding [ov] (getMethod ov mth pl)
      callWith pos f first (backTo pos (starEach [] X.env)) (backToKw pos (keywordEach [] X.env))) := by rfl) :
    PE X (.Call (.Attribute o mth apos) [] [] pos) (tMethS Ca mth sp dvs E ta tNil) := by
  refine ⟨fun pins s σ H Q I h => ?_⟩
  refine PySem.W.methodCall_KW (pl := pl) (thn (he.run pins s σ H _ I h) fun u s1 ⟨x, H1, I1, rx, a, dx, fs, ex, ea, l, q⟩ => ?_) ht
  subst ex
  obtain rfl : u = Value.ref a := rx
  refine getmeth_ok I1 ea c hm l ?_
  exact PySem.W.callWith_K0 (first := [.ref a]) I1.kIn hm.kp (run_fnSD (us := [.ref a]) (vs := [.ref a]) F hr hb hd (hx σ) I1 (.cons rfl .nil) q)
end
def fMeth (m : Bool) (c : Nat) (mth : Str) (Fn : List PV → R OV) (dps : List PV) (fo : Env → R PV) (fas : Env → R (List PV)) : Env → R OV := fun ρ => (fo ρ).bind fun p => match p with
  | .ins c' fs => if c' = c ∧ fs.lookup mth = none then (fas ρ).bind fun ps => capR m (Fn (.ins c' fs :: (ps ++ dps))) else .no
  | _ => .no
theorem meth_go {t : TA} (ht : t = tAs C W m fas ∨ (t = tNil ∧ fas = aNil)) (hp : ∀ H, Reps C.G H dps dvs) {Q : VK} (h : tF C W (fMeth m c mth Fn dps fo fas) σ H Q) : tMethS (C.G.CA c) mth (spP C.G Fn) dvs (WE W) (tE C W m fo) t σ H Q := by
  show tE C W m fo σ H fun x H1 => ∃ a dx fs, x = .ref a ∧ H1 a = some (.ins (C.G.CA c) dx fs) ∧ fs.lookup mth = none ∧ t σ H1 fun vs H2 => spP C.G Fn (x :: (vs ++ dvs)) H2 Q (WE W σ)
  rw [tF_iff] at h
  rw [tE_iff]
  obtain ⟨H₀, F, ρ, S, h⟩ := h
  unfold fMeth at h
  rw [Goes.bind] at h
  refine ⟨H₀, F, ρ, S, h.imp fun p _ hb v H1 H₁ E1 r1 => ?_⟩
  clear h
  cases p with
  | ins c' fs =>
    dsimp only at hb
    by_cases hc : c' = c ∧ fs.lookup mth = none
    · rw [if_pos hc] at hb
      obtain ⟨hc1, hc2⟩ := hc
      subst hc1
      have r1' := r1
      simp only [Rep] at r1'
      obtain ⟨a, dx, vs, e1, e2, e3⟩ := r1'
      have S1 := S.ext E1
      refine ⟨a, dx, vs, e1, md_H S1.z _ _ e2, e3.none_of hc2, ?_⟩
      rw [Goes.bind] at hb
      rcases ht with rfl | ⟨rfl, rfl⟩
      · rw [tA_iff]
        refine ⟨H₁, F, ρ, S1, (hb.later E1).imp fun ps _ h ws H2 H₂ E2 r2 => ?_⟩
        have E12 := E1.trans E2
        refine call_go (S1.ext E2) (Reps.cons (Rep.mono (md_ext E2) r1) (r2.append (hp _))) ((h.later E12).imp fun o _ h v H' H₀' Fv E ro nd fr => h v H' H₀' Fv (E12.trans E) ro nd fun a ha => ⟨Same.free E12.s (fr a ha).1, (fr a ha).2⟩)
      · have hb : Goes C.G W (capR m (Fn (.ins c' fs :: ([] ++ dps)))) σ H H₀ fun o => ∀ v H' H₀' Fv, Ext H₀ H H₀' H' → OwnR C.G H₀' H' o v Fv → Fv.Nodup → (∀ a ∈ Fv, H a = none ∧ H₀' a = none) → Q v H' := hb
        refine call_go S1 (qs := .ins c' fs :: ([] ++ dps)) (vs := v :: ([] ++ dvs)) (Reps.cons r1 (Reps.nil.append (hp _))) ((hb.later E1).imp fun o _ h v H' H₀' Fv E ro nd fr => h v H' H₀' Fv (E1.trans E) ro nd fun a ha => ⟨Same.free E1.s (fr a ha).1, (fr a ha).2⟩)
    · rw [if_neg hc] at hb
      exact hb.elim
  | _ => exact (show False from hb).elim
theorem qMeth {pl : Sem Bool} (Fo : FnOk X.prog X.w X.K X.mg X.base (L2N.CX X.prog X.w) k f fd ns (spP C.G Fn)) (hc : Cls X.K (C.G.CA c)) (hm : Meth X.K (C.G.CA c) mth f) (hr : Room k X.A) (tk : L2N.Takes X W) (hb : Binds X.K fd ns ds) (hd : Vals dvs ds) (hp : ∀ H, Reps C.G H dps dvs)
    (ho : QE C W m X o fo) (ha : QA C W m X (e :: es) fas)
    (hst : starEach (e :: es) X.env = (false, eval e X.env) :: starEach es X.env := by rfl) (hpl : (backTo pos (starEach es X.env)).any (·.1) = false := by rfl)
    (ht : eval (.Call (.Attribute o mth apos) (e :: es) [] pos) X.env = (do
      let ov ← eval o X.env
      standAt apos.atName
      let (f, first) ← holding [ov] (getMethod ov mth pl)
      callWith pos f first (backTo pos (starEach (e :: es) X.env)) (backToKw pos (keywordEach [] X.env))) := by rfl) :
    QF C W X (.Call (.Attribute o mth apos) (e :: es) [] pos) (fMeth m c mth Fn dps fo fas) :=
  PE.imp (pe_methS (E := WE W) (dvs := dvs) ho hc hm Fo hr hb hd (fun σ => L2N.passAt tk σ) ha hst hpl ht) fun σ H Q h => meth_go (.inl rfl) hp h
theorem qMeth0 {pl : Sem Bool} (Fo : FnOk X.prog X.w X.K X.mg X.base (L2N.CX X.prog X.w) k f fd ns (spP C.G Fn)) (hc : Cls X.K (C.G.CA c)) (hm : Meth X.K (C.G.CA c) mth f) (hr : Room k X.A) (tk : L2N.Takes X W) (hb : Binds X.K fd ns ds) (hd : Vals dvs ds) (hp : ∀ H, Reps C.G H dps dvs)
    (ho : QE C W m X o fo)
    (ht : eval (.Call (.Attribute o mth apos) [] [] pos) X.env = (do
      let ov ← eval o X.env
      standAt apos.atName
      let (f, first) ← holding [ov] (getMethod ov mth pl)
      callWith pos f first (backTo pos (starEach [] X.env)) (backToKw pos (keywordEach [] X.env))) := by rfl) :
    QF C W X (.Call (.Attribute o mth apos) [] [] pos) (fMeth m c mth Fn dps fo aNil) :=
  PE.imp (pe_methS0 (E := WE W) (dvs := dvs) ho hc hm Fo hr hb hd (fun σ => L2N.passAt tk σ) ht) fun σ H Q h => meth_go (.inr ⟨rfl, rfl⟩) hp h
/-! classes -/
def tMakeS (Ca : Addr) (sp : Sp) (dvs : List V) (E : L2.St → XK) (t : TA) : TE := fun σ H Q => t σ H fun vs H1 => ∀ x dx, H1 x = none → H1 dx = none → dx ≠ x →
  sp (.ref x :: (vs ++ dvs)) (upd (upd H1 dx (.own x)) x (.ins Ca dx [])) (fun v H2 => v = .non ∧ Q (.ref x) H2) (E σ)
section
variable {CX : CXT} {sp : Sp} {E : L2.St → XK} {t : TA}
theorem run_makeS {pins : List (Addr × Obj)} {s : Shared} {Q : VK} {us : List Value} {vs : List V} (M : Mk X.K Ca f) (F : FnOk X.prog X.w X.K X.mg X.base CX k f fd ns sp) (hr : Room (k + 1) X.A) (hb : Binds X.K fd ns ds) (hd : Vals dvs ds)
    (hx : PassesAt CX X σ (E σ)) (I : Inv X pins σ H s) (r : Vals vs us)
    (h : ∀ x dx, H x = none → H dx = none → dx ≠ x → sp (.ref x :: (vs ++ dvs)) (upd (upd H dx (.own x)) x (.ins Ca dx [])) (fun v H2 => v = .non ∧ Q (.ref x) H2) (E σ)) :
    wpAny (model X.prog X.w) X.A (call (.ref Ca) us) (EP X pins σ Q) X.xe s := by
  have hq := h (s.heap.objs.size + 1) s.heap.objs.size (I.hok.fresh (Nat.le_succ _)) (I.hok.fresh (Nat.le_refl _)) (Nat.ne_of_lt (Nat.lt_succ_self _))
  have I2 := Inv.made (C := Ca) I
  have r2 : Vals (V.ref (s.heap.objs.size + 1) :: (vs ++ dvs)) (Value.ref (s.heap.objs.size + 1) :: (us ++ ds)) := .cons rfl (r.append hd)
  have hl : (Value.ref (s.heap.objs.size + 1) :: us ++ ds).length = ns.length := by
    have e := r2.length
    rw [F.len _ _ _ _ hq] at e
    exact e.symm
  refine wpAny_call (make_map (f := f) I.kIn M.makes M.init (beq_iff_eq.mp M.fn) (codeAny_mono (F.run _ X.stack _ _ ⟨Value.ref (s.heap.objs.size + 1) :: us, []⟩ (Value.ref (s.heap.objs.size + 1) :: (us ++ ds)) _ _ (E σ) (hr.make Ca us [])
    (I2.env0.make Ca us []) (hb _ (Value.ref (s.heap.objs.size + 1) :: us) I2.kIn hl) r2 hq) fun r s' hq' => ?_))
  cases r with
  | error e => exact hx pins _ _ e s' I2 hq'
  | ok fl =>
    cases fl with
    | ret u =>
      obtain ⟨v, H', I3, rv, ev, q3⟩ := I2.after hq'
      subst ev
      exact ⟨rv, ⟨V.ref (s.heap.objs.size + 1), H', I3, rfl, q3⟩⟩
    | next => exact False.elim hq'
    | brk => exact False.elim hq'
    | cont => exact False.elim hq'
theorem pe_makeS (M : Mk X.K Ca f) (F : FnOk X.prog X.w X.K X.mg X.base CX k f fd ns sp) (hr : Room (k + 1) X.A) (hg : Gl X x) (hm : X.mg x = some (.ref Ca)) (hb : Binds X.K fd ns ds) (hd : Vals dvs ds) (hx : ∀ σ, PassesAt CX X σ (E σ))
    (ha : PA X (e :: es) t) (hdb : (x == ("__debug__" : Str)) = false := by decide) (he : starEach (e :: es) X.env = (false, eval e X.env) :: starEach es X.env := by rfl) (hpl : (backTo pos (starEach es X.env)).any (·.1) = false := by rfl) :
    PE X (.Call (.Name x p) (e :: es) [] pos) (tMakeS Ca sp dvs E t) := by
  refine ⟨fun pins s σ H Q I h => ?_⟩
  refine wpAny_Call_Name_kw (ld_glob I hg hm ?_ hdb)
  refine PySem.W.callWith_K (h₀ := X.base) I.ok.mod.kin M.kp (thn (ha.run pos pins s σ H _ I h) fun us s1 ⟨vs, H1, I1, r, q⟩ => ⟨I1.kIn, ?_⟩) he hpl
  exact run_makeS M F hr hb hd (hx σ) I1 r q
end
def fMake (m : Bool) (c : Nat) (FI : List PV → R (List (Str × OV))) (dps : List PV) (fas : Env → R (List PV)) : Env → R OV := fun ρ => (fas ρ).bind fun ps => capR m ((FI (ps ++ dps)).bind fun fs => .ok (.obj c fs))
theorem make_ext {x dx : Addr} {Ca : Addr} {H₀ H H₀' H' : Hp} (hx : H x = none) (hdx : H dx = none) (ne : dx ≠ x) (E : Ext H₀ (del (upd (upd H dx (.own x)) x (.ins Ca dx [])) x) H₀' (del H' x)) (hz : Same H₀ H) : Ext H₀ H H₀' H' := by
  have de : ∀ a, a ≠ x → a ≠ dx → del (upd (upd H dx (.own x)) x (.ins Ca dx [])) x a = H a := fun a h1 h2 => by
    unfold del
    rw [if_neg h1, upd_ne h1, upd_ne h2]
  have dn : ∀ a o, H a = some o → a ≠ x ∧ a ≠ dx := fun a o e => ⟨fun z => (by rw [z, hx] at e; cases e), fun z => (by rw [z, hdx] at e; cases e)⟩
  have un : ∀ a o, del H' x a = some o → H' a = some o := fun a o e => by
    unfold del at e
    split at e
    · cases e
    · exact e
  refine ⟨fun a o e => ?_, E.s0, fun a o e => un a o (E.z a o e), fun a ha => ?_⟩
  · obtain ⟨n1, n2⟩ := dn a o e
    exact un a o (E.s a o (by rw [de a n1 n2]; exact e))
  · refine E.n a ?_
    cases e : H a with
    | none => exact absurd e ha
    | some o =>
      obtain ⟨n1, n2⟩ := dn a o e
      rw [de a n1 n2, e]
      exact fun z => nomatch z
theorem qMake (Fo : FnOk X.prog X.w X.K X.mg X.base (L2N.CX X.prog X.w) k f fd ns (spI C.G c FI)) (M : Mk X.K (C.G.CA c) f) (hr : Room (k + 1) X.A) (tk : L2N.Takes X W) (hm : X.mg x = some (.ref (C.G.CA c))) (hb : Binds X.K fd ns ds) (hd : Vals dvs ds) (hp : ∀ H, Reps C.G H dps dvs)
    (ha : QA C W m X (e :: es) fas) (hg : Gl X x := by rfl) (hdb : (x == ("__debug__" : Str)) = false := by decide) (he : starEach (e :: es) X.env = (false, eval e X.env) :: starEach es X.env := by rfl) (hpl : (backTo pos (starEach es X.env)).any (·.1) = false := by rfl) :
    QF C W X (.Call (.Name x p) (e :: es) [] pos) (fMake m c FI dps fas) := by
  refine PE.imp (pe_makeS (E := WE W) M Fo hr hg hm hb hd (fun σ => L2N.passAt tk σ) ha hdb he hpl) fun σ H Q h => ?_
  show tAs C W m fas σ H fun vs H1 => ∀ x dx, H1 x = none → H1 dx = none → dx ≠ x → spI C.G c FI (.ref x :: (vs ++ dvs)) (upd (upd H1 dx (.own x)) x (.ins (C.G.CA c) dx [])) (fun v H2 => v = .non ∧ Q (.ref x) H2) (WE W σ)
  rw [tF_iff] at h
  rw [tA_iff]
  obtain ⟨H₀, F, ρ, S, h⟩ := h
  unfold fMake at h
  rw [Goes.bind] at h
  refine ⟨H₀, F, ρ, S, h.imp fun ps _ h vs H1 H₁ E1 r1 x dx hx hdx ne => ?_⟩
  have S1 := S.ext E1
  have zm : Same (md m H₁ H1 F) H1 := md_H S1.z
  refine ⟨x, dx, vs ++ dvs, md m H₁ H1 F, ps ++ dps, rfl, upd_same, Same.free zm hx, fun a o q => ?_, r1.append (hp _), ?_⟩
  · have n1 : a ≠ x := fun z => by rw [z, Same.free zm hx] at q; cases q
    have n2 : a ≠ dx := fun z => by rw [z, Same.free zm hdx] at q; cases q
    rw [upd_ne n1, upd_ne n2]
    exact zm a o q
  · cases q : FI (ps ++ dps) with
    | ok fs =>
      rw [q, R.bind_ok] at h
      obtain ⟨hc, h⟩ := h.cap_ok
      intro H' Hc Fv E ro nd fr
      have E2 := make_ext hx hdx ne E zm
      obtain ⟨H₀', E', c1, c2, c3⟩ := cap S1 E2
      refine ⟨rfl, h _ H' H₀' Fv (E1.trans E') (c1 _ _ _ hc ro) nd fun a ha => ⟨?_, c3 a (fr a ha).2⟩⟩
      refine Same.free E1.s ?_
      rcases (fr a ha).1 with z | z
      · rw [z]; exact hx
      · by_cases n1 : a = x
        · rw [n1]; exact hx
        · rw [upd_ne n1] at z
          by_cases n2 : a = dx
          · rw [n2]; exact hdx
          · rw [upd_ne n2] at z
            exact z
    | er z =>
      rw [q, R.bind_er] at h
      obtain ⟨hc, h⟩ := h.cap_er
      intro cls d H' Hc E rx
      have E2 := make_ext hx hdx ne E zm
      obtain ⟨H₀', E', c1, c2, c3⟩ := cap S1 E2
      exact h cls d H' H₀' (E1.trans E') (c2 _ _ _ hc rx)
    | no =>
      rw [q] at h
      exact h.elim
end
end L3

/-! L3. 7: statements -/
namespace L3
open PySem PySem.Spec PyProof.Rows L2
/-- how a block ends -/
inductive RS where
  | nx (ρ : Env) | rt (o : OV) | bk (ρ : Env) | ct (ρ : Env) | er (x : PX) (ρ : Env) | no
def R.to {α : Type} (r : R α) (ρ : Env) (k : α → RS) : RS := match r with
  | .ok a => k a
  | .er x => .er x ρ
  | .no => .no
@[simp] theorem R.to_ok {α : Type} (a : α) (ρ : Env) (k : α → RS) : (R.ok a).to ρ k = k a := rfl
@[simp] theorem R.to_er {α : Type} (x : PX) (ρ : Env) (k : α → RS) : (R.er x).to ρ k = .er x ρ := rfl
@[simp] theorem R.to_no {α : Type} (ρ : Env) (k : α → RS) : (R.no).to ρ k = .no := rfl
def Ret (C : Fc) (D : VK) (o : OV) : Prop := ∀ v H H₀ Fv, Ext C.Hz C.He H₀ H → OwnR C.G H₀ H o v Fv → Fv.Nodup → (∀ a ∈ Fv, C.He a = none ∧ H₀ a = none) → D v H
def Aft (C : Fc) (W : WX) (D : Ends) : RS → Prop
  | .nx ρ => ∀ σ H H₀ F, SR C H₀ F ρ σ H → D.nx σ H
  | .rt o => Ret C D.rt o
  | .bk ρ => ∀ σ H H₀ F, SR C H₀ F ρ σ H → D.bk σ H
  | .ct ρ => ∀ σ H H₀ F, SR C H₀ F ρ σ H → D.ct σ H
  | .er x ρ => ∀ cls d σ H H₀ F, SR C H₀ F ρ σ H → RepX C.G H₀ x cls d → W cls d σ H
  | .no => False
def tS (C : Fc) (W : WX) (f : Env → RS) : TS := fun D σ H => ∃ H₀ F ρ, SR C H₀ F ρ σ H ∧ Aft C W D (f ρ)
abbrev QS (C : Fc) (W : WX) (X : Cx) (st : Stmt) (f : Env → RS) : Prop := PS X st (tS C W f)
abbrev QSs (C : Fc) (W : WX) (X : Cx) (sts : List Stmt) (f : Env → RS) : Prop := PSs X sts (tS C W f)
/-! ### values that may be moved -/
def tM (C : Fc) (W : WX) (f : Env → R (OV × Env)) : TE := fun σ H Q => ∃ H₀ F ρ, SR C H₀ F ρ σ H ∧ Goes C.G W (f ρ) σ H H₀ fun q => ∀ v H' H₀' Fo Fr, Ext H₀ H H₀' H' → SR C H₀' Fr q.2 σ H' → OwnR C.G H₀' H' q.1 v Fo → (Fo ++ Fr).Nodup → (∀ a ∈ Fo, C.He a = none ∧ H₀' a = none) → Q v H'
abbrev QM (C : Fc) (W : WX) (X : Cx) (e : Expr) (f : Env → R (OV × Env)) : Prop := PE X e (tM C W f)
def mSh (f : Env → R PV) : Env → R (OV × Env) := fun ρ => (f ρ).bind fun p => .ok (.sh p, ρ)
def mFr (f : Env → R OV) : Env → R (OV × Env) := fun ρ => (f ρ).bind fun o => .ok (o, ρ)
def mMv (i : Nat) : Env → R (OV × Env) := fun ρ => match ρ[i]? with
  | some (some o) => .ok (o, ρ.set i none)
  | _ => .no
section
variable {G : Gc} {H₀ H : Hp}
/-- a slot's value, and the rest -/
theorem EnvR.take : ∀ {ρ : Env} {σ : L2.St} {F : List Addr} {i : Nat} {o : OV}, EnvR G H₀ H ρ σ F → ρ[i]? = some (some o) → F.Nodup → ∃ v Fo Fr, σ[i]? = some (some v) ∧ OwnR G H₀ H o v Fo ∧ EnvR G H₀ H (ρ.set i none) σ Fr ∧ (Fo ++ Fr).Nodup ∧ (∀ a, a ∈ Fo ∨ a ∈ Fr → a ∈ F)
  | [], σ, F, i, o, h, e, _ => by simp at e
  | none :: ρ, σ, F, 0, o, h, e, _ => by simp at e
  | none :: ρ, σ, F, i + 1, o, h, e, nd => by
    obtain ⟨x, τ, h1, h2⟩ := h
    subst h1
    obtain ⟨v, Fo, Fr, e1, e2, e3, e4, e5⟩ := EnvR.take (i := i) h2 (by simpa using e) nd
    exact ⟨v, Fo, Fr, by simpa using e1, e2, ⟨x, τ, rfl, e3⟩, e4, e5⟩
  | some o' :: ρ, σ, F, 0, o, h, e, nd => by
    obtain ⟨v, τ, F1, F2, h1, h2, h3, h4⟩ := h
    subst h1 h2
    simp at e
    subst e
    exact ⟨v, F1, F2, rfl, h3, ⟨_, τ, rfl, h4⟩, nd, fun a ha => List.mem_append.mpr ha⟩
  | some o' :: ρ, σ, F, i + 1, o, h, e, nd => by
    obtain ⟨v, τ, F1, F2, h1, h2, h3, h4⟩ := h
    subst h1 h2
    obtain ⟨m1, m2, m3⟩ := List.nodup_append.mp nd
    obtain ⟨w, Fo, Fr, e1, e2, e3, e4, e5⟩ := EnvR.take (i := i) h4 (by simpa using e) m2
    refine ⟨w, Fo, F1 ++ Fr, by simpa using e1, e2, ⟨v, τ, F1, Fr, rfl, rfl, h3, e3⟩, ?_, fun a ha => ?_⟩
    · obtain ⟨k1, k2, k3⟩ := List.nodup_append.mp e4
      refine List.nodup_append.mpr ⟨k1, List.nodup_append.mpr ⟨m1, k2, fun a ha b hb e => m3 a ha b (e5 b (.inr hb)) e⟩, fun a ha b hb e => ?_⟩
      rcases List.mem_append.mp hb with z | z
      · exact m3 b z a (e5 a (.inl ha)) e.symm
      · exact k3 a ha b z e
    · rcases ha with z | z
      · exact List.mem_append_right _ (e5 a (.inl z))
      · rcases List.mem_append.mp z with z | z
        · exact List.mem_append_left _ z
        · exact List.mem_append_right _ (e5 a (.inr z))
end
section
variable {C : Fc} {W : WX} {D : Ends} {m : Bool} {X : Cx} {e c : Expr} {es : List Expr} {a b : List Stmt} {st : Stmt} {pos p : Pos} {σ : L2.St} {H H₀ : Hp} {F : List Addr} {ρ : Env} {x : Str} {i : Nat}
theorem SR.entry (S : SR C H₀ F ρ σ H) : Ext C.Hz C.He H₀ H := ⟨S.e, S.hz, S.z, S.n⟩
theorem Aft.to {α : Type} {r : R α} {k : α → RS} (S : SR C H₀ F ρ σ H) (h : Aft C W D (r.to ρ k)) : Goes C.G W r σ H H₀ fun a => Aft C W D (k a) := by
  cases r with
  | ok a => exact h
  | er x => exact fun cls d H' H₀' E rx => h cls d σ H' H₀' F (S.ext E) rx
  | no => exact h
theorem tM_iff {f : Env → R (OV × Env)} {Q : VK} : tM C W f σ H Q ↔ ∃ H₀ F ρ, SR C H₀ F ρ σ H ∧ Goes C.G W (f ρ) σ H H₀ fun q => ∀ v H' H₀' Fo Fr, Ext H₀ H H₀' H' → SR C H₀' Fr q.2 σ H' → OwnR C.G H₀' H' q.1 v Fo → (Fo ++ Fr).Nodup → (∀ a ∈ Fo, C.He a = none ∧ H₀' a = none) → Q v H' := Iff.rfl
theorem qmSh {f : Env → R PV} (h : QE C W true X e f) : QM C W X e (mSh f) := by
  refine PE.imp h fun σ H Q h => ?_
  rw [tM_iff] at h
  rw [tE_iff]
  obtain ⟨H₀, F, ρ, S, h⟩ := h
  unfold mSh at h
  rw [Goes.bind] at h
  exact ⟨H₀, F, ρ, S, h.imp fun p _ h v H1 H₁ E1 r1 => h v H1 H₁ [] F E1 (S.ext E1) (by simp only [OwnR]; exact ⟨r1, trivial⟩) S.nd fun a ha => (by cases ha)⟩
theorem qmFr {f : Env → R OV} (h : QF C W X e f) : QM C W X e (mFr f) := by
  refine PE.imp h fun σ H Q h => ?_
  rw [tM_iff] at h
  rw [tF_iff]
  obtain ⟨H₀, F, ρ, S, h⟩ := h
  unfold mFr at h
  rw [Goes.bind] at h
  refine ⟨H₀, F, ρ, S, h.imp fun o _ h v H1 H₁ Fv E1 r1 nd fr => h v H1 H₁ Fv F E1 (S.ext E1) r1 ?_ fun a ha => ⟨Same.free S.e (fr a ha).1, (fr a ha).2⟩⟩
  refine List.nodup_append.mpr ⟨nd, S.nd, fun a ha b hb e => ?_⟩
  subst e
  obtain ⟨u, z⟩ := S.env.there a hb
  rw [(fr a ha).1] at z
  cases z
theorem qmMv (i : Nat) {x : Str} (hN : X.N[i]? = some x := by rfl) (hv : Vis X.env.scope x := by first | exact Or.inl rfl | exact Or.inr (Or.inl rfl) | exact Or.inr (Or.inr rfl)) (hd : (x == ("__debug__" : Str)) = false := by decide)
    (hcd : (x == ("__classdict__" : Str)) = false := by decide) : QM C W X (.Name x pos) (mMv i) := by
  refine PE.imp (pe_var hN hv hd hcd) fun σ H Q h => ?_
  obtain ⟨H₀, F, ρ, S, h⟩ := h
  unfold mMv at h
  cases e : ρ[i]? with
  | none => rw [e] at h; exact h.elim
  | some o =>
    rw [e] at h
    cases o with
    | none => exact h.elim
    | some o =>
      obtain ⟨v, Fo, Fr, e1, e2, e3, e4, e5⟩ := S.env.take e S.nd
      exact ⟨v, e1, h v H H₀ Fo Fr (Ext.refl S.z) ⟨S.e, S.z, S.n, S.hz, e3, (List.nodup_append.mp e4).2.1, fun a ha => S.fr a (e5 a (.inr ha)), S.fx, S.hx⟩ e2 e4 fun a ha => S.fr a (e5 a (.inl ha))⟩
/-! ### blocks -/
def sNx : Env → RS := fun ρ => .nx ρ
def sSeq (f g : Env → RS) : Env → RS := fun ρ => match f ρ with
  | .nx ρ' => g ρ'
  | r => r
theorem qNil : QSs C W X [] sNx := PSs.imp pss_nil fun D σ H ⟨H₀, F, ρ, S, h⟩ => h σ H H₀ F S
theorem qCons {f g : Env → RS} (h1 : QS C W X st f) (h2 : QSs C W X a g) : QSs C W X (st :: a) (sSeq f g) := by
  refine PSs.imp (pss_cons h1 h2) fun D σ H h => ?_
  obtain ⟨H₀, F, ρ, S, h⟩ := h
  refine ⟨H₀, F, ρ, S, ?_⟩
  unfold sSeq at h
  cases q : f ρ with
  | nx ρ' =>
    rw [q] at h
    exact fun σ' H' H₀' F' S' => ⟨H₀', F', ρ', S', h⟩
  | rt o => rw [q] at h; exact h
  | bk ρ' => rw [q] at h; exact h
  | ct ρ' => rw [q] at h; exact h
  | er x ρ' => rw [q] at h; exact h
  | no => rw [q] at h; exact h.elim
theorem qLast {f : Env → RS} (h1 : QS C W X st f) : QSs C W X [st] f := pss_one h1
def sBk : Env → RS := fun ρ => .bk ρ
def sCt : Env → RS := fun ρ => .ct ρ
theorem qPass : QS C W X (.Pass pos) sNx := PS.imp ps_pass fun D σ H ⟨H₀, F, ρ, S, h⟩ => h σ H H₀ F S
theorem qBreak : QS C W X (.Break pos) sBk := PS.imp ps_break fun D σ H ⟨H₀, F, ρ, S, h⟩ => h σ H H₀ F S
theorem qContinue : QS C W X (.Continue pos) sCt := PS.imp ps_continue fun D σ H ⟨H₀, F, ρ, S, h⟩ => h σ H H₀ F S
theorem qDoc {x j pos pos'} : QS C W X (.Expr (.Constant (.str x) j pos) pos') sNx := PS.imp ps_doc fun D σ H ⟨H₀, F, ρ, S, h⟩ => h σ H H₀ F S
def sNo : Env → RS := fun _ => .no
theorem qNo : QS C W X st sNo := PS.imp ps_never fun D σ H ⟨H₀, F, ρ, S, h⟩ => h.elim
theorem qsNo : QSs C W X a sNo := PSs.imp pss_never fun D σ H ⟨H₀, F, ρ, S, h⟩ => h.elim
/-- slots that nothing asks any more are forgotten -/
theorem SR.drops : ∀ (vs : List Nat) {F : List Addr}, SR C H₀ F ρ σ H → ∃ F', SR C H₀ F' (wipeE ρ vs) σ H
  | [], F, S => ⟨F, S⟩
  | v :: vs, F, S => by
    obtain ⟨F1, S1⟩ := SR.drops vs S
    exact S1.drop v
def sFg (vs : List Nat) (f : Env → RS) : Env → RS := fun ρ => f (wipeE ρ vs)
theorem qFg (vs : List Nat) {f : Env → RS} (h : QSs C W X a f) : QSs C W X a (sFg vs f) := PSs.imp h fun D σ H ⟨H₀, F, ρ, S, h⟩ => by
  obtain ⟨F', S'⟩ := S.drops vs
  exact ⟨H₀, F', _, S', h⟩
/-- a slot is frozen -/
def frz (i : Nat) (ρ : Env) : Env := match ρ[i]? with
  | some (some o) => ρ.set i (some (.sh o.pv))
  | _ => ρ
theorem set_set_none {ρ : Env} {i : Nat} {o : Option OV} : (ρ.set i none).set i o = ρ.set i o := by simp
theorem SR.frz (S : SR C H₀ F ρ σ H) (i : Nat) : ∃ H₀' F', SR C H₀' F' (L3.frz i ρ) σ H := by
  unfold L3.frz
  cases e : ρ[i]? with
  | none => exact ⟨H₀, F, S⟩
  | some o =>
    cases o with
    | none => exact ⟨H₀, F, S⟩
    | some o =>
      obtain ⟨v, Fo, Fr, e1, e2, e3, e4, e5⟩ := S.env.take e S.nd
      obtain ⟨n1, n2, n3⟩ := List.nodup_append.mp e4
      have fo : ∀ a ∈ Fo, C.He a = none ∧ H₀ a = none := fun a ha => S.fr a (e5 a (.inl ha))
      have z0 : Same H₀ (vw H₀ H Fo) := same_vw fun a ha => (fo a ha).2
      have r : Rep C.G (vw H₀ H Fo) o.pv v := OwnR.rep z0 (fun a ha => by unfold vw; rw [if_pos ha]) e2
      have er : EnvR C.G (vw H₀ H Fo) H (ρ.set i none) σ Fr := EnvR.mono z0 (fun a _ => rfl) e3
      have S1 : SR C (vw H₀ H Fo) Fr (ρ.set i none) σ H := by
        refine ⟨S.e, vw_same S.z, fun a ha => ?_, S.hz.trans z0, er, n2, fun a ha => ⟨(S.fr a (e5 a (.inr ha))).1, ?_⟩, S.fx, S.hx.trans z0⟩
        · unfold vw
          rw [if_neg fun z => ha (fo a z).1]
          exact S.n a ha
        · unfold vw
          rw [if_neg fun z => n3 a z a ha rfl]
          exact (S.fr a (e5 a (.inr ha))).2
      obtain ⟨F', p1, p2, p3⟩ := EnvR.put (o := .sh o.pv) (v := v) (Fv := []) i S1.env (by simp only [OwnR]; exact ⟨r, trivial⟩) S1.nd List.nodup_nil fun a ha => (by cases ha)
      rw [set_set_none] at p1
      have es : σ.set i (some v) = σ := by
        apply List.ext_getElem?
        intro j
        by_cases q : i = j
        · subst q
          rw [e1]
          have hl : i < σ.length := (List.getElem?_eq_some_iff.mp e1).1
          rw [List.getElem?_set_self hl]
        · rw [List.getElem?_set_ne q]
      rw [es] at p1
      exact ⟨_, F', S1.e, S1.z, S1.n, S1.hz, p1, p2, fun a ha => (p3 a ha).elim (S1.fr a) fun z => (by cases z), S1.fx, S1.hx⟩
def sFz (i : Nat) (f : Env → RS) : Env → RS := fun ρ => f (frz i ρ)
theorem qFzS (i : Nat) {f : Env → RS} (h : QSs C W X a f) : QSs C W X a (sFz i f) := PSs.imp h fun D σ H ⟨H₀, F, ρ, S, h⟩ => by
  obtain ⟨H₀', F', S'⟩ := S.frz i
  exact ⟨H₀', F', _, S', h⟩
/-! ### if, assignments, return, raise -/
def sIf (fc : Env → R Bool) (f g : Env → RS) : Env → RS := fun ρ => (fc ρ).to ρ fun k => if k = true then f ρ else g ρ
theorem qIfS {fc : Env → R Bool} {f g : Env → RS} (hc : QT C W X c fc) (ha : QSs C W X a f) (hb : QSs C W X b g) : QS C W X (.If c a b pos) (sIf fc f g) := by
  refine PS.imp (ps_if hc ha hb) fun D σ H h => ?_
  show tTt C W fc σ H fun k H1 => if k = true then tS C W f D σ H1 else tS C W g D σ H1
  rw [tT_iff]
  obtain ⟨H₀, F, ρ, S, h⟩ := h
  refine ⟨H₀, F, ρ, S, (Aft.to S h).imp fun k _ h H1 H₁ E1 => ?_⟩
  cases k with
  | true => exact ⟨H₁, F, ρ, S.ext E1, h⟩
  | false => exact ⟨H₁, F, ρ, S.ext E1, h⟩
def sSet (i : Nat) (f : Env → R (OV × Env)) : Env → RS := fun ρ => (f ρ).to ρ fun q => .nx (q.2.set i (some q.1))
theorem set_go {f : Env → R (OV × Env)} (hx : fxOk C i) (h : tS C W (sSet i f) D σ H) : tM C W f σ H fun v H1 => gName i v σ H1 D.nx := by
  obtain ⟨H₀, F, ρ, S, h⟩ := h
  refine ⟨H₀, F, ρ, S, (Aft.to S h).imp fun q _ h v H' H₀' Fo Fr E S' r nd fr => ?_⟩
  obtain ⟨n1, n2, n3⟩ := List.nodup_append.mp nd
  obtain ⟨F', S2⟩ := S'.put r n1 (fun a ha => ⟨(fr a ha).1, (fr a ha).2, fun z => n3 a ha a z rfl⟩) hx
  exact h _ H' H₀' F' S2
theorem qSet {f : Env → R (OV × Env)} (hx : fxOk C i) (hN : X.N.Nodup) (he : QM C W X e f) (hi : X.N[i]? = some x := by rfl) (hl : Loc X.env.scope x := by first | exact Or.inl rfl | exact Or.inr rfl) (hs : swapsWith e (some (.Name x p)) pos.line X.env = pure false := by rfl)
    (hf : X.fn x = true ∨ X.env.scope.names.lookup x = some .local := by first | exact .inl rfl | exact .inr rfl) : QS C W X (.Assign [.Name x p] e pos) (sSet i f) :=
  PS.imp (ps_set hN hi hl he hs hf) fun D σ H h => set_go hx h
/-- x = [.. for ..], on one line -/
theorem qSetLc {elt iter : Expr} {ifs : List Expr} {scope : Scope} {own : List (Str × Nat)} {spos : Pos} {T : Tg} {f : Env → R (List PV)} {t : Env → R Bool} {el : Env → R OV} {tg : Expr} (hx : fxOk C i) (hc : X.calm = true) (hN : X.N.Nodup) (hi : QI C W true X tg iter f) (ok : BlkOk X.N X.env.scope scope own) (hvs : ∀ i ∈ T.slots, i ∈ own.map (·.2)) (hfx : ∀ i ∈ own.map (·.2), fxOk C i)
    (hg : ∃ g : TG, (∀ (s : Shared) (H : Hp) (c : Addr) (cl : List (Str × Addr)) (fp : List Addr), PG (X.blk s H scope (compEnvC scope cl c X.env) fp) tg g) ∧ ∀ (p : PV) (v : V) (H₀ : Hp) (F : List Addr) (ρ ρ' : Env) (σ : L2.St) (H : Hp) (Q : L2.St → Hp → Prop), SR C H₀ F ρ σ H → Rep C.G H₀ p v → tgS T p ρ = .ok ρ' → (∀ σ' F', SR C H₀ F' ρ' σ' H → (∀ vs, (∀ i ∈ T.slots, i ∈ vs) → wipe σ' vs = wipe σ vs) → Q σ' H) → g v σ H Q)
    (ht : ∀ (s : Shared) (H : Hp) (c : Addr) (cl : List (Str × Addr)) (fp : List Addr), PTs (X.blk s H scope (compEnvC scope cl c X.env) fp) ifs (tTt C W0 t))
    (he : ∀ (s : Shared) (H : Hp) (c : Addr) (cl : List (Str × Addr)) (fp : List Addr), QF C W0 (X.blk s H scope (compEnvC scope cl c X.env) fp) elt el)
    (hsw : swapsWith (.ListComp elt [⟨tg, iter, ifs, 0⟩] scope pos) (some (.Name x p)) spos.line X.env = pure true) (hxi : X.N[i]? = some x := by rfl) (hl : X.env.scope.names.lookup x = some .local := by rfl) (hs : ∀ x, foldedSetIterable iter X.env x = pure x := by intro _; rfl) :
    QS C W X (.Assign [.Name x p] (.ListComp elt [⟨tg, iter, ifs, 0⟩] scope pos) spos) (sSet i (mFr (fLc T (own.map (·.2)) f t el))) := by
  obtain ⟨g, hg1, hg2⟩ := hg
  refine PS.imp (ps_setLc hc hN hxi hl hsw hi ok hg1 ht he hs) fun D σ H h => ?_
  refine lc_go hvs hfx hg2 ?_
  obtain ⟨H₀, F, ρ, S, h⟩ := set_go hx h
  unfold mFr at h
  rw [Goes.bind] at h
  rw [tF_iff]
  refine ⟨H₀, F, ρ, S, h.imp fun o _ h v H1 H₁ Fv E1 r1 nd fr => h v H1 H₁ Fv F E1 (S.ext E1) r1 ?_ fun a ha => ⟨Same.free S.e (fr a ha).1, (fr a ha).2⟩⟩
  refine List.nodup_append.mpr ⟨nd, S.nd, fun a ha b hb e => ?_⟩
  subst e
  obtain ⟨u, z⟩ := S.env.there a hb
  rw [(fr a ha).1] at z
  cases z
/-- any target that takes what is frozen -/
def sTg (T : Tg) (f : Env → R PV) : Env → RS := fun ρ => (f ρ).to ρ fun p => (tgS T p ρ).to ρ fun ρ' => .nx ρ'
theorem qTg {tg : Expr} {T : Tg} {f : Env → R PV} (he : QE C W true X e f) (hg : QG C X tg T) (hs : swapsWithSole [tg] e pos.line X.env = pure false := by rfl) (hw : swappedStores [tg] e X.env = pure none := by rfl)
    (h1 : (assignEach [tg] X.env).map (·.2) = [assign tg X.env] := by rfl) : QS C W X (.Assign [tg] e pos) (sTg T f) := by
  obtain ⟨t, g1, g2⟩ := hg.ex
  refine PS.imp (ps_asg he g1 hs hw h1) fun D σ H h => ?_
  show tE C W true f σ H fun v H1 => t v σ H1 D.nx
  rw [tE_iff]
  obtain ⟨H₀, F, ρ, S, h⟩ := h
  refine ⟨H₀, F, ρ, S, (Aft.to S h).imp fun q _ h v H' H₀' E r => ?_⟩
  have S1 := S.ext E
  cases et : tgS T q ρ with
  | ok ρ' =>
    rw [et] at h
    exact g2 q v H₀' F ρ ρ' σ H' D.nx S1 r et fun σ' F' S2 _ => h σ' H' H₀' F' S2
  | er x => exact absurd et tgS_calm
  | no => rw [et] at h; exact h.elim
/-- a, b = e, f -/
def sPar (i j : Nat) (f : Env → R (List PV)) : Env → RS := fun ρ => (f ρ).to ρ fun ps => match ps with
  | [p, q] => .nx ((ρ.set i (some (.sh p))).set j (some (.sh q)))
  | _ => .no
theorem qPar {j : Nat} {y : Str} {e1 e2 : Expr} {px py pt : Pos} {kt k2 pt2} {f : Env → R (List PV)} (hc : X.calm = true) (hx : fxOk C i) (hy : fxOk C j) (hN : X.N.Nodup) (ha : QA C W true X [e1, e2] f) (hi : X.N[i]? = some x := by rfl) (hj : X.N[j]? = some y := by rfl) (hij : i ≠ j := by decide)
    (hlx : X.env.scope.names.lookup x = some .local := by rfl) (hly : X.env.scope.names.lookup y = some .local := by rfl)
    (hw : swappedStores [.Tuple [.Name x px, .Name y py] kt pt] (.Tuple [e1, e2] k2 pt2) X.env = pure (some [x, y]) := by rfl)
    (hs : swapsWithSole [.Tuple [.Name x px, .Name y py] kt pt] (.Tuple [e1, e2] k2 pt2) pos.line X.env = pure false := by rfl) :
    QS C W X (.Assign [.Tuple [.Name x px, .Name y py] kt pt] (.Tuple [e1, e2] k2 pt2) pos) (sPar i j f) := by
  refine PS.imp (ps_par hc hN hi hj hij hlx hly ha hw hs) fun D σ H h => ?_
  show tAs C W true f σ H fun vs H1 => ∃ v w, vs = [v, w] ∧ D.nx ((σ.set i (some v)).set j (some w)) H1
  rw [tA_iff]
  obtain ⟨H₀, F, ρ, S, h⟩ := h
  refine ⟨H₀, F, ρ, S, (Aft.to S h).imp fun ps _ h vs H' H₀' E r => ?_⟩
  have S1 := S.ext E
  match ps, h, r with
  | [p, q], h, r =>
    obtain ⟨v, w, ev, r1, r2⟩ := reps2 r
    obtain ⟨F1, S2⟩ := S1.sh (p := p) r1 hx
    obtain ⟨F2, S3⟩ := S2.sh (p := q) r2 hy
    exact ⟨v, w, ev, h _ _ _ _ S3⟩
def sRt (f : Env → R (OV × Env)) : Env → RS := fun ρ => (f ρ).to ρ fun q => .rt q.1
theorem qRt {f : Env → R (OV × Env)} (he : QM C W X e f) : QS C W X (.Return (some e) pos) (sRt f) := by
  refine PS.imp (ps_ret he) fun D σ H h => ?_
  show tM C W f σ H D.rt
  rw [tM_iff]
  obtain ⟨H₀, F, ρ, S, h⟩ := h
  refine ⟨H₀, F, ρ, S, (Aft.to S h).imp fun q _ h v H' H₀' Fo Fr E S' r nd fr => ?_⟩
  exact h v H' H₀' Fo S'.entry r (List.nodup_append.mp nd).1 fr
def sRtN : Env → RS := fun _ => .rt (.sh .non)
theorem qRtN : QS C W X (.Return none pos) sRtN := PS.imp ps_retN fun D σ H ⟨H₀, F, ρ, S, h⟩ => h .non H H₀ [] S.entry (by simp [OwnR, Rep]) List.nodup_nil fun a ha => (by cases ha)
def sDo {α : Type} (f : Env → R α) : Env → RS := fun ρ => (f ρ).to ρ fun _ => .nx ρ
theorem qDo {f : Env → R PV} (he : QE C W m X e f) (hs : swapsWith e none pos.line X.env = pure false := by rfl) : QS C W X (.Expr e pos) (sDo f) := by
  refine PS.imp (ps_expr he hs) fun D σ H h => ?_
  show tE C W m f σ H fun _ H1 => D.nx σ H1
  rw [tE_iff]
  obtain ⟨H₀, F, ρ, S, h⟩ := h
  exact ⟨H₀, F, ρ, S, (Aft.to S h).imp fun p _ h v H' H₀' E r => h σ H' H₀' F (S.ext E)⟩
theorem qDoF {f : Env → R OV} (he : QF C W X e f) (hs : swapsWith e none pos.line X.env = pure false := by rfl) : QS C W X (.Expr e pos) (sDo f) := by
  refine PS.imp (ps_expr he hs) fun D σ H h => ?_
  show tF C W f σ H fun _ H1 => D.nx σ H1
  rw [tF_iff]
  obtain ⟨H₀, F, ρ, S, h⟩ := h
  exact ⟨H₀, F, ρ, S, (Aft.to S h).imp fun p _ h v H' H₀' Fv E r nd fr => h σ H' H₀' F (S.ext E)⟩
/-- raise of an own class whose __init__ keeps one thing -/
def sRz (c : Nat) (fl : Str) (f : Env → R PV) : Env → RS := fun ρ => (f ρ).to ρ fun p => .er ⟨c, [(fl, p)]⟩ ρ
theorem qRz {c : Nat} {fl : Str} {fI : Addr} {f : Env → R PV} {p2 : Pos} (hc : X.calm = true) (tk : L2N.Takes X W) (T : X3.SupC X.prog X.K (C.G.CA c) fI fl) (gC : X.mg x = some (.ref (C.G.CA c))) (kC : PySem.W.keepIn X.K (.ref (C.G.CA c)) = true) (rs : Raises X (.ref (C.G.CA c))) (hr : X.A.depth + 1 < recursionLimit) (ha : QE C W true X e f) (hg : Gl X x := by rfl)
    (hdb : (x == ("__debug__" : Str)) = false := by decide) (he : starEach (e :: []) X.env = (false, eval e X.env) :: starEach [] X.env := by rfl) (hpl : (backTo p (starEach [] X.env)).any (·.1) = false := by rfl) : QS C W X (.Raise (some (.Call (.Name x p2) [e] [] p)) none pos) (sRz c fl f) := by
  refine PS.imp (L2N.ps_raise hc tk (X3.pmk_sup (k := 0) T gC kC rs hr ha hg hdb he hpl)) fun D σ H h => ?_
  show tE C W true f σ H fun v H1 => ∀ d, H1 d = none → W (.ref (C.G.CA c)) (some d) σ (upd H1 d (.xd [(fl, v)]))
  rw [tE_iff]
  obtain ⟨H₀, F, ρ, S, h⟩ := h
  refine ⟨H₀, F, ρ, S, (Aft.to S h).imp fun p _ h v H' H₀' E r d hd => ?_⟩
  have S1 := S.ext E
  have E2 : Ext H₀' H' (upd H₀' d (.xd [(fl, v)])) (upd H' d (.xd [(fl, v)])) := ext_new S1.z hd
  have r : Rep C.G H₀' p v := r
  refine h _ _ σ _ _ F (S1.ext E2) ⟨rfl, .inr ⟨d, _, rfl, upd_same, ?_⟩⟩
  simp only [RepF]
  exact ⟨v, [], rfl, Rep.mono E2.s0 r, rfl⟩
end
end L3

/-! L3. 8: loops, try -/
namespace L3
open PySem PySem.Spec PyProof.Rows L2
def forGo (T : Tg) (fg : List Nat) (fb : Env → RS) : List PV → Env → RS
  | [], ρ => .nx ρ
  | p :: ps, ρ => match tgS T p ρ with
    | .ok ρ1 => match fb ρ1 with
      | .nx ρ2 => forGo T fg fb ps (wipeE ρ2 fg)
      | .ct ρ2 => forGo T fg fb ps (wipeE ρ2 fg)
      | .bk ρ2 => .nx (wipeE ρ2 fg)
      | r => r
    | _ => .no
def sFor (T : Tg) (fg : List Nat) (fi : Env → R (List PV)) (fb : Env → RS) : Env → RS := fun ρ => (fi ρ).to ρ fun ps => forGo T fg fb ps (wipeE ρ fg)
def whGo (fg : List Nat) (fc : Env → R Bool) (fb : Env → RS) : Nat → Env → RS
  | 0, _ => .no
  | n + 1, ρ => (fc ρ).to ρ fun k => if k = true then (match fb ρ with
      | .nx ρ2 => whGo fg fc fb n (wipeE ρ2 fg)
      | .ct ρ2 => whGo fg fc fb n (wipeE ρ2 fg)
      | .bk ρ2 => .nx (wipeE ρ2 fg)
      | r => r) else .nx ρ
def sWhile (fuel : Env → Nat) (fg : List Nat) (fc : Env → R Bool) (fb : Env → RS) : Env → RS := fun ρ => whGo fg fc fb (fuel ρ) (wipeE ρ fg)
section
variable {C : Fc} {W : WX} {D : Ends} {m : Bool} {X : Cx} {tg iter c : Expr} {body : List Stmt} {pos : Pos} {σ : L2.St} {H H₀ : Hp} {F : List Addr} {ρ : Env}
theorem SR.inx {Hx : Hp} (S : SR C H₀ F ρ σ H) (h : Same Hx H₀) : SR { C with Hx := Hx } H₀ F ρ σ H := ⟨S.e, S.z, S.n, S.hz, S.env, S.nd, S.fr, S.fx, h⟩
theorem SR.unx {Hx : Hp} (S : SR { C with Hx := Hx } H₀ F ρ σ H) (h : Same C.Hx Hx) : SR C H₀ F ρ σ H := ⟨S.e, S.z, S.n, S.hz, S.env, S.nd, S.fr, S.fx, h.trans S.hx⟩
theorem qFor {T : Tg} (fg : List Nat) {fi : Env → R (List PV)} {fb : Env → RS} (hp : PassesOwn (model X.prog X.w) X.A X.env X.xe) (hc : X.calm = true) (hi : QI C W true X tg iter fi) (hg : ∀ Hx, QG { C with Hx := Hx } X tg T) (hb : ∀ Hx, QSs { C with Hx := Hx } W X body fb)
    (hs : ∀ x, foldedSetIterable iter X.env x = pure x := by intro _; rfl) : QS C W X (.For tg iter body [] pos) (sFor T fg fi fb) := by
  refine ⟨fun pins s σ H D I h => ?_⟩
  -- the frozen heap at the loop's start
  obtain ⟨H₀, F, ρ, S, h⟩ := h
  have h := Aft.to S h
  cases q : fi ρ with
  | no => rw [q] at h; exact h.elim
  | er x =>
    obtain ⟨t, g1, _⟩ := (hg C.Hx).ex
    refine (ps_for (tb := tS { C with Hx := C.Hx } W fb) hp hc hi g1 (hb C.Hx) hs).run pins s σ H D I ?_
    refine ⟨H₀, F, ρ, S, ?_⟩
    rw [q] at h ⊢
    exact h
  | ok ps =>
    rw [q] at h
    have h : Aft C W D (forGo T fg fb ps (wipeE ρ fg)) := h
    -- the loop is read at a heap that comes only behind the iterable: so the reading chooses it
    have key : PS X (.For tg iter body [] pos) (tFor (tI C W true fi) (fun v σ H Q => ∃ t : TG, PG X tg t ∧ t v σ H Q) (fun D σ H => ∃ Hx, Same C.Hx Hx ∧ tS { C with Hx := Hx } W fb D σ H)) := by
      refine ps_for hp hc hi ⟨fun pins s σ H v u Q I r q => ?_⟩ ⟨fun pins s σ H D I q => ?_⟩ hs
      · obtain ⟨t, g1, q⟩ := q
        exact g1.run pins s σ H v u Q I r q
      · obtain ⟨Hx, hx, q⟩ := q
        exact (hb Hx).run pins s σ H D I q
    refine key.run pins s σ H D I ?_
    refine ⟨H₀, F, ρ, S, ?_⟩
    rw [q]
    intro J H1 H₁ E1 ip
    have ip : ItP C.G J H₁ ps := ip
    have S1 := S.ext E1
    obtain ⟨F1, S1'⟩ := S1.drops fg
    refine ⟨fun i mm σc Hc => mm = ps.length - i ∧ i ≤ ps.length ∧ ∃ H₀c Fc ρc, SR { C with Hx := H₁ } H₀c Fc ρc σc Hc ∧ Aft C W D (forGo T fg fb (ps.drop i) ρc), ⟨ps.length, by simp, Nat.zero_le _, H₁, F1, _, S1'.inx (Same.refl _), by simpa using h⟩, ?_⟩
    rintro i mm σc Hc ⟨rfl, hi', H₀c, Fc, ρc, Sc, hA⟩
    have sc : Same H₁ Hc := Sc.hx.trans Sc.z
    by_cases hlt : i < ps.length
    · have hpi : ps[i]? = some ps[i] := by simp [hlt]
      obtain ⟨jg, jy⟩ := ip.go i Hc _ sc hpi
      rw [List.drop_eq_getElem_cons hlt] at hA
      unfold forGo at hA
      refine .inr ⟨jg, fun σ' H' => ps.length - (i + 1) = ps.length - (i + 1) ∧ i + 1 ≤ ps.length ∧ ∃ H₀c Fc ρc, SR { C with Hx := H₁ } H₀c Fc ρc σ' H' ∧ Aft C W D (forGo T fg fb (ps.drop (i + 1)) ρc), fun σ' H' z => ⟨ps.length - (i + 1), by omega, z⟩, fun x H' y => ?_⟩
      obtain ⟨e1, rx⟩ := jy x H' y
      subst e1
      obtain ⟨t, g1, g2⟩ := (hg H₁).ex
      refine ⟨t, g1, ?_⟩
      cases et : tgS T ps[i] ρc with
      | er z => exact absurd et tgS_calm
      | no => rw [et] at hA; exact hA.elim
      | ok ρ1 =>
        rw [et] at hA
        refine g2 _ x H₀c Fc ρc ρ1 σc H' _ Sc (Rep.mono Sc.hx rx) et fun σ2 F2 S2 _ => ⟨H₁, S1.hx, H₀c, F2, ρ1, S2, ?_⟩
        dsimp only at hA
        cases eb : fb ρ1 with
        | nx ρ2 =>
          rw [eb] at hA
          intro σ3 H3 H₀3 F3 S3
          obtain ⟨F4, S4⟩ := S3.drops fg
          exact ⟨rfl, hlt, H₀3, F4, _, S4, hA⟩
        | ct ρ2 =>
          rw [eb] at hA
          intro σ3 H3 H₀3 F3 S3
          obtain ⟨F4, S4⟩ := S3.drops fg
          exact ⟨rfl, hlt, H₀3, F4, _, S4, hA⟩
        | bk ρ2 =>
          rw [eb] at hA
          intro σ3 H3 H₀3 F3 S3
          obtain ⟨F4, S4⟩ := S3.drops fg
          exact hA σ3 H3 H₀3 F4 (S4.unx S1.hx)
        | rt o => rw [eb] at hA; exact hA
        | er z ρ2 =>
          rw [eb] at hA
          intro cls d σ3 H3 H₀3 F3 S3 rx3
          exact hA cls d σ3 H3 H₀3 F3 (S3.unx S1.hx) rx3
        | no => rw [eb] at hA; exact hA
    · have hie : i = ps.length := by omega
      subst hie
      rw [List.drop_length] at hA
      unfold forGo at hA
      exact .inl ⟨ip.stop _ Hc sc (Nat.le_refl _), hA σc Hc H₀c Fc (Sc.unx S1.hx)⟩
theorem qWhile (fuel : Env → Nat) (fg : List Nat) {fc : Env → R Bool} {fb : Env → RS} (hp : PassesOwn (model X.prog X.w) X.A X.env X.xe) (hc : QT C W X c fc) (hb : QSs C W X body fb) : QS C W X (.While c body [] pos) (sWhile fuel fg fc fb) := by
  refine PS.imp (ps_while hp hc hb) fun D σ H h => ?_
  obtain ⟨H₀, F, ρ, S, h⟩ := h
  obtain ⟨F1, S1⟩ := S.drops fg
  refine ⟨fun n σ H => ∃ H₀ F ρ, SR C H₀ F ρ σ H ∧ Aft C W D (whGo fg fc fb n ρ), ⟨fuel ρ, H₀, F1, _, S1, h⟩, ?_⟩
  rintro n σ H ⟨H₀, F, ρ, S, h⟩
  cases n with
  | zero => exact h.elim
  | succ n =>
    unfold whGo at h
    rw [tT_iff]
    refine ⟨H₀, F, ρ, S, (Aft.to S h).imp fun k _ h H1 H₁ E1 => ?_⟩
    have S1 := S.ext E1
    cases k with
    | false => exact h σ H1 H₁ F S1
    | true =>
      rw [if_pos rfl] at h
      show if true = true then _ else _
      rw [if_pos rfl]
      refine ⟨fun σ' H' => ∃ H₀ F ρ, SR C H₀ F ρ σ' H' ∧ Aft C W D (whGo fg fc fb n ρ), fun σ' H' z => ⟨n, Nat.lt_succ_self _, z⟩, H₁, F, ρ, S1, ?_⟩
      cases eb : fb ρ with
      | nx ρ2 =>
        rw [eb] at h
        intro σ3 H3 H₀3 F3 S3
        obtain ⟨F4, S4⟩ := S3.drops fg
        exact ⟨H₀3, F4, _, S4, h⟩
      | ct ρ2 =>
        rw [eb] at h
        intro σ3 H3 H₀3 F3 S3
        obtain ⟨F4, S4⟩ := S3.drops fg
        exact ⟨H₀3, F4, _, S4, h⟩
      | bk ρ2 =>
        rw [eb] at h
        intro σ3 H3 H₀3 F3 S3
        obtain ⟨F4, S4⟩ := S3.drops fg
        exact h σ3 H3 H₀3 F4 S4
      | rt o => rw [eb] at h; exact h
      | er z ρ2 => rw [eb] at h; exact h
      | no => rw [eb] at h; exact h
end
/-! ### try -/
structure Hd where
  mt : Nat → Option Bool
  nm : Option Nat
  su : PX → Env → RS
def calmS : RS → RS
  | .er _ _ => .no
  | r => r
def goneS (i : Nat) : RS → RS
  | .nx ρ => .nx (ρ.set i none)
  | .bk ρ => .bk (ρ.set i none)
  | .ct ρ => .ct (ρ.set i none)
  | r => r
def handle : List Hd → PX → Env → RS
  | [], x, ρ => .er x ρ
  | h :: r, x, ρ => match h.mt x.c with
    | some true => (match h.nm with
      | none => calmS (h.su x ρ)
      | some i => if i < ρ.length then goneS i (calmS (h.su x (ρ.set i none))) else .no)
    | some false => handle r x ρ
    | none => .no
def sTry (f : Env → RS) (hs : List Hd) : Env → RS := fun ρ => match f ρ with
  | .er x ρ' => handle hs x ρ'
  | r => r
/-- a suite's reading -/
def suR (C : Fc) (i : Option Nat) (g : PX → Env → RS) : X3.Su := fun a cls d D σ H => ∃ x Hx, RepX C.G Hx x cls d ∧ tS { C with Hx := Hx, fx := i.elim none fun i => some (i, .ref a) } W0 (fun ρ => calmS (g x ρ)) D σ H
inductive HdQ (C : Fc) (X : Cx) : List ExceptHandler → List Hd → List (Value × Option Nat × X3.Su) → Prop
  | nil : HdQ C X [] [] []
  | bare {x : Str} {c : Value} {mt : Nat → Option Bool} {g : PX → Env → RS} {b₀ : Stmt} {su : List Stmt} {p1 p2 : Pos} {hds : List ExceptHandler} {hs : List Hd} {l : List (Value × Option Nat × X3.Su)} (hc : Names X x c) (hm : ∀ c' b, mt c' = some b → PySem.W.exmOne X.K (.ref (C.G.CA c')) c = some b)
      (hsu : ∀ (a : Addr) (ob : Obj) (cls : Value) (d : Option Addr) (pl : List (Addr × Obj)) (x : PX) (Hx : Hp), L2N.Zn cls d ob → (∃ vs, ob.data = .fields vs) → RepX C.G Hx x cls d → QSs { C with Hx := Hx, fx := none } W0 (X.suite a ((a, ob) :: pl)) (b₀ :: su) (g x)) (r : HdQ C X hds hs l) :
      HdQ C X (.ExceptHandler (some (.Name x p1)) none (b₀ :: su) p2 :: hds) (⟨mt, none, g⟩ :: hs) ((c, none, suR C none g) :: l)
  | named {x n : Str} {i : Nat} {c : Value} {mt : Nat → Option Bool} {g : PX → Env → RS} {b₀ : Stmt} {su : List Stmt} {p1 p2 : Pos} {hds : List ExceptHandler} {hs : List Hd} {l : List (Value × Option Nat × X3.Su)} (hN : X.N.Nodup) (hc : Names X x c) (hm : ∀ c' b, mt c' = some b → PySem.W.exmOne X.K (.ref (C.G.CA c')) c = some b)
      (hsu : ∀ (a : Addr) (ob : Obj) (cls : Value) (d : Option Addr) (pl : List (Addr × Obj)) (x : PX) (Hx : Hp), L2N.Zn cls d ob → (∃ vs, ob.data = .fields vs) → RepX C.G Hx x cls d → QSs { C with Hx := Hx, fx := some (i, .ref a) } W0 (X.suite a ((a, ob) :: pl)) (b₀ :: su) (g x)) (r : HdQ C X hds hs l)
      (hi : X.N[i]? = some n := by rfl) (hl : X.env.kindOf n = some .local := by rfl) :
      HdQ C X (.ExceptHandler (some (.Name x p1)) (some n) (b₀ :: su) p2 :: hds) (⟨mt, some i, g⟩ :: hs) ((c, some i, suR C (some i) g) :: l)
section
variable {C : Fc} {W : WX} {D : Ends} {m : Bool} {X : Cx} {e : Expr} {body : List Stmt} {h₀ : ExceptHandler} {hds : List ExceptHandler} {pos p : Pos} {σ : L2.St} {H H₀ : Hp} {F : List Addr} {ρ : Env} {hs : List Hd} {l : List (Value × Option Nat × X3.Su)}
theorem aft_calm {r : RS} (h : Aft C W0 D (calmS r)) : Aft C W0 D r := by
  cases r with
  | er x ρ => exact (show False from h).elim
  | nx ρ => exact h
  | rt o => exact h
  | bk ρ => exact h
  | ct ρ => exact h
  | no => exact h
theorem HdQ.ok (h : HdQ C X hds hs l) : X3.HdOk X hds l := by
  induction h with
  | nil => exact .nil
  | @bare x c mt g b₀ su p1 p2 hds hs l hc hm hsu r ih =>
    refine .bare hc (fun a ob cls d pl hz hf => ⟨fun pins s σ H D I q => ?_⟩) ih
    obtain ⟨x, Hx, rx, H₀, F, ρ, S, q⟩ := q
    exact (hsu a ob cls d pl x Hx hz hf rx).run pins s σ H D I ⟨H₀, F, ρ, S, aft_calm q⟩
  | @named x n i c mt g b₀ su p1 p2 hds hs l hN hc hm hsu r hi hl ih =>
    refine .named hN hi hl hc (fun a ob cls d pl hz hf => ⟨fun pins s σ H D I q => ?_⟩) ih
    obtain ⟨x, Hx, rx, H₀, F, ρ, S, q⟩ := q
    exact (hsu a ob cls d pl x Hx hz hf rx).run pins s σ H D I ⟨H₀, F, ρ, S, aft_calm q⟩
theorem SR.goneAt (S : SR C H₀ F ρ σ H) (i : Nat) (x : Option V) (hx : fxOk C i) : ∃ F', SR C H₀ F' (ρ.set i none) (σ.set i x) H := by
  obtain ⟨F', S1⟩ := S.drop i
  refine ⟨F', ?_⟩
  by_cases hl : i < ρ.length
  · exact S1.any x (List.getElem?_set_self hl) hx
  · have e : σ.set i x = σ := List.set_eq_of_length_le (by have := S.env.length; omega)
    rw [e]
    exact S1
/-- another slot is fixed -/
theorem SR.fixed (S : SR C H₀ F ρ σ H) {Hx : Hp} {f : Option (Nat × V)} (h : Same Hx H₀) (k : ∀ i v, f = some (i, v) → σ[i]? = some (some v)) : SR { C with Hx := Hx, fx := f } H₀ F ρ σ H := ⟨S.e, S.z, S.n, S.hz, S.env, S.nd, S.fr, k, h⟩
theorem aft_su (hfx : C.fx = none) {r : RS} {Hx : Hp} (hh : Same C.Hx Hx) (h : Aft C W D (calmS r)) : Aft { C with Hx := Hx, fx := none } W0 D (calmS r) := by
  have un : ∀ {ρ σ H H₀' F}, SR { C with Hx := Hx, fx := none } H₀' F ρ σ H → SR C H₀' F ρ σ H := fun {ρ σ H H₀' F} T => ⟨T.e, T.z, T.n, T.hz, T.env, T.nd, T.fr, fun i v z => (by rw [hfx] at z; cases z), hh.trans T.hx⟩
  cases r with
  | nx ρ' => exact fun σ' H' H₀' F' T => h σ' H' H₀' F' (un T)
  | bk ρ' => exact fun σ' H' H₀' F' T => h σ' H' H₀' F' (un T)
  | ct ρ' => exact fun σ' H' H₀' F' T => h σ' H' H₀' F' (un T)
  | rt o => exact h
  | er z ρ' => exact h
  | no => exact h
theorem aft_su2 (hfx : C.fx = none) {r : RS} {Hx : Hp} {i : Nat} {v : V} (hh : Same C.Hx Hx) (h : Aft C W D (goneS i (calmS r))) : Aft { C with Hx := Hx, fx := some (i, v) } W0 (X3.Ends.gone D i) (calmS r) := by
  have un : ∀ {ρ σ H H₀' F}, SR { C with Hx := Hx, fx := some (i, v) } H₀' F ρ σ H → ∃ F', SR C H₀' F' (ρ.set i none) (σ.set i none) H := fun {ρ σ H H₀' F} T =>
    SR.goneAt (C := C) (⟨T.e, T.z, T.n, T.hz, T.env, T.nd, T.fr, fun i v z => (by rw [hfx] at z; cases z), hh.trans T.hx⟩) i none fun j v z => (by rw [hfx] at z; cases z)
  cases r with
  | nx ρ' => exact fun σ' H' H₀' F' T => let ⟨F2, T2⟩ := un T; h _ H' H₀' F2 T2
  | bk ρ' => exact fun σ' H' H₀' F' T => let ⟨F2, T2⟩ := un T; h _ H' H₀' F2 T2
  | ct ρ' => exact fun σ' H' H₀' F' T => let ⟨F2, T2⟩ := un T; h _ H' H₀' F2 T2
  | rt o => exact h
  | er z ρ' => exact h
  | no => exact h
theorem handle_go (hfx : C.fx = none) (hq : HdQ C X hds hs l) : ∀ {x : PX} {cls : Value} {d : Option Addr}, SR C H₀ F ρ σ H → RepX C.G H₀ x cls d → Aft C W D (handle hs x ρ) → X3.wH X.K W D l cls d σ H := by
  induction hq with
  | nil =>
    intro x cls d S rx h
    exact h cls d σ H H₀ F S rx
  | @bare xn c mt g b₀ su p1 p2 hds hs l hc hm hsu r ih =>
    intro x cls d S rx h
    unfold handle at h
    dsimp only at h
    cases em : mt x.c with
    | none => rw [em] at h; exact h.elim
    | some b =>
      rw [em] at h
      refine ⟨b, by rw [rx.1]; exact hm _ _ em, fun hb a ha => ?_, fun hb => ?_⟩
      · subst hb
        exact ⟨x, H₀, rx, H₀, F, ρ, S.fixed (Same.refl _) (fun i v z => nomatch z), aft_su hfx S.hx h⟩
      · subst hb
        exact ih S rx h
  | @named xn n i c mt g b₀ su p1 p2 hds hs l hN hc hm hsu r hi hl ih =>
    intro x cls d S rx h
    unfold handle at h
    dsimp only at h
    cases em : mt x.c with
    | none => rw [em] at h; exact h.elim
    | some b =>
      rw [em] at h
      refine ⟨b, by rw [rx.1]; exact hm _ _ em, fun hb a ha => ?_, fun hb => ?_⟩
      · subst hb
        dsimp only at h
        obtain ⟨F2, S2⟩ := S.goneAt i (some (.ref a)) fun j v z => (by rw [hfx] at z; cases z)
        by_cases hil : i < ρ.length
        rotate_left
        · rw [if_neg hil] at h
          exact h.elim
        rw [if_pos hil] at h
        have hil : i < σ.length := by rw [← S.env.length]; exact hil
        refine ⟨x, H₀, rx, H₀, F2, _, S2.fixed (Same.refl _) (fun j v z => ?_), aft_su2 hfx S.hx h⟩
        have z : (i, V.ref a) = (j, v) := Option.some.inj z
        cases z
        exact List.getElem?_set_self hil
      · subst hb
        exact ih S rx h
theorem qTry {f : Env → RS} (hst : X.stack = X.env :: X.outer) (hfr : X.env.frame = some X.env.locals) (hfx : C.fx = none) (tk : L2N.Takes X W)
    (hb : ∀ (W : WX) (pl : List (Addr × Obj)) (xe : Value → Shared → Prop), L2N.Takes (X.tr pl xe) W → PassesOwn (model X.prog X.w) X.A X.env xe → QSs C W (X.tr pl xe) body f)
    (hq : HdQ C X (h₀ :: hds) hs l) : QS C W X (.Try body (h₀ :: hds) [] [] pos) (sTry f hs) := by
  refine PS.imp (X3.ps_tryH (tb := fun W => tS C W f) hst hfr tk hb hq.ok) fun D σ H h => ?_
  obtain ⟨H₀, F, ρ, S, h⟩ := h
  refine ⟨H₀, F, ρ, S, ?_⟩
  unfold sTry at h
  cases q : f ρ with
  | er x ρ' =>
    rw [q] at h
    exact fun cls d σ' H' H₀' F' S' rx => handle_go hfx hq S' rx h
  | nx ρ' => rw [q] at h; exact h
  | rt o => rw [q] at h; exact h
  | bk ρ' => rw [q] at h; exact h
  | ct ρ' => rw [q] at h; exact h
  | no => rw [q] at h; exact h
/-! ### in a suite: the exception's fields, isinstance -/
section
variable {a : Addr} {ob : Obj} {cls : Value} {d : Option Addr} {pl : List (Addr × Obj)} {x : PX} {i : Nat} {xn : Str}
/-- a fixed slot's value -/
theorem qFixed {W : WX} {Hx : Hp} {X' : Cx} {Q : VK} (hN : X'.N[i]? = some xn) (S : SR { C with Hx := Hx, fx := some (i, .ref a) } H₀ F ρ σ H) : σ[i]? = some (some (.ref a)) := S.fx i _ rfl
def eXf (ok : Nat → Bool) (x : PX) (fl : Str) : Env → R PV := fun _ => if ok x.c = true then R.of (x.fs.lookup fl) else .no
theorem qXf {W : WX} {Hx : Hp} {fl : Str} {ok : Nat → Bool} (T : ∀ c, ok c = true → XfC X.K (C.G.CA c) ∧ PySem.W.findIn X.K (.ref (C.G.CA c)) fl = some none) (hz : L2N.Zn cls d ob) (hf : ∃ vs, ob.data = .fields vs) (rx : RepX C.G Hx x cls d)
    (hN : X.N[i]? = some xn := by rfl) (hv : Vis X.env.scope xn := by first | exact Or.inl rfl | exact Or.inr (Or.inl rfl) | exact Or.inr (Or.inr rfl)) (hd : (xn == ("__debug__" : Str)) = false := by decide)
    (hcd : (xn == ("__classdict__" : Str)) = false := by decide) (hb : attributeBase (.Name xn p) fl X.env (eval (.Name xn p) X.env) = eval (.Name xn p) X.env := by rfl) :
    QE { C with Hx := Hx, fx := some (i, .ref a) } W m (X.suite a ((a, ob) :: pl)) (.Attribute (.Name xn p) fl pos) (eXf ok x fl) := by
  have hE : PE (X.suite a ((a, ob) :: pl)) (.Name xn p) (tVar i) := pe_var (X := X.suite a ((a, ob) :: pl)) hN hv hd hcd
  cases hok : ok x.c with
  | false =>
    refine ⟨fun pins s σ H Q I h => ?_⟩
    obtain ⟨H₀, F, ρ, S, h⟩ := h
    unfold eXf at h
    rw [hok, if_neg Bool.false_ne_true] at h
    exact h.elim
  | true =>
    obtain ⟨T1, T2⟩ := T _ hok
    refine PE.imp (pe_xf T1 T2 hz.zc hf hE hb) fun σ H Q h => ?_
    obtain ⟨H₀, F, ρ, S, h⟩ := h
    unfold eXf at h
    rw [hok, if_pos rfl] at h
    refine ⟨.ref a, S.fx i _ rfl, rfl, rx.1, ?_⟩
    cases el : x.fs.lookup fl with
    | none => rw [el] at h; exact h.elim
    | some p =>
      rw [el] at h
      rcases rx.2 with ⟨e1, _⟩ | ⟨dd, vs, e1, e2, e3⟩
      · rw [e1] at el; cases el
      · obtain ⟨v, ev, rv⟩ := e3.get el
        refine ⟨dd, vs, v, e1, S.z _ _ (S.hx _ _ e2), ev, h v H H₀ (Ext.refl S.z) ?_⟩
        exact Rep.mono (z_md fun a ha => (S.fr a ha).2) (Rep.mono S.hx rv)
def eXi (ib : Nat → Option Bool) (x : PX) : Env → R PV := fun _ => R.of ((ib x.c).map .bl)
theorem qXi {W : WX} {Hx : Hp} {T : Str} {p1 p2 p3 : Pos} {A : Addr} {ib : Nat → Option Bool} (hm : X.mg "isinstance" = none) (hT : X.mg T = some (.ref A)) (hi : ∀ c b, ib c = some b → X3.ExI X.K (C.G.CA c) ∧ PySem.W.kitOne X.K (.ref (C.G.CA c)) (.ref A) = some b)
    (hz : L2N.Zn cls d ob) (hf : ∃ vs, ob.data = .fields vs) (rx : RepX C.G Hx x cls d)
    (hN : X.N[i]? = some xn := by rfl) (hv : Vis X.env.scope xn := by first | exact Or.inl rfl | exact Or.inr (Or.inl rfl) | exact Or.inr (Or.inr rfl)) (hd : (xn == ("__debug__" : Str)) = false := by decide)
    (hcd : (xn == ("__classdict__" : Str)) = false := by decide) (hg : Gl X "isinstance" := by rfl) (hgT : Gl X T := by rfl) (hdT : (T == ("__debug__" : Str)) = false := by decide)
    (he : starEach (.Name xn p1 :: .Name T p2 :: []) X.env = (false, eval (.Name xn p1) X.env) :: starEach [.Name T p2] X.env := by rfl) (hpl : (backTo pos (starEach [.Name T p2] X.env)).any (·.1) = false := by rfl)
    (hs1 : starEach [.Name T p2] X.env = [(false, eval (.Name T p2) X.env)] := by rfl) :
    QE { C with Hx := Hx, fx := some (i, .ref a) } W m (X.suite a ((a, ob) :: pl)) (.Call (.Name "isinstance" p3) [.Name xn p1, .Name T p2] [] pos) (eXi ib x) := by
  have hE : PE (X.suite a ((a, ob) :: pl)) (.Name xn p1) (tVar i) := pe_var (X := X.suite a ((a, ob) :: pl)) hN hv hd hcd
  cases hok : ib x.c with
  | none =>
    refine ⟨fun pins s σ H Q I h => ?_⟩
    obtain ⟨H₀, F, ρ, S, h⟩ := h
    unfold eXi at h
    rw [hok] at h
    exact h.elim
  | some b =>
    obtain ⟨T1, T2⟩ := hi _ _ hok
    have hgE : PE (X.suite a ((a, ob) :: pl)) (.Name T p2) (tC (.ref A)) := pe_glob (X := X.suite a ((a, ob) :: pl)) hgT hT rfl hdT
    have hA : PA (X.suite a ((a, ob) :: pl)) [.Name xn p1, .Name T p2] (tCons (tVar i) (tCons (tC (.ref A)) tNil)) := pa_cons hE (pa_cons hgE pa_nil hs1) he
    have hcl : cls = .ref (C.G.CA x.c) := rx.1
    obtain ⟨fs, hfs⟩ : ∃ fs : List (Str × V), ∀ H₀ : Hp, Same Hx H₀ → ∀ dd, d = some dd → H₀ dd = some (.xd fs) := by
      rcases rx.2 with ⟨_, e1⟩ | ⟨dd, vs, e1, e2, e3⟩
      · exact ⟨[], fun H₀ _ dd z => by rw [e1] at z; cases z⟩
      · exact ⟨vs, fun H₀ z dd' z' => by rw [e1] at z'; cases z'; exact z _ _ e2⟩
    have hz' : Zc (.ref (C.G.CA x.c)) d ob := by rw [← hcl]; exact hz.zc
    have hcr := X3.call_isX (X := X) (a := a) (fs := fs) (pn := pl) T1 hz' hf
    refine PE.imp (pe_callB (X := X.suite a ((a, ob) :: pl)) hcr hg hm bt_isi hA (by decide) (by decide) he hpl) fun σ H Q h => ?_
    obtain ⟨H₀, F, ρ, S, h⟩ := h
    unfold eXi at h
    rw [hok] at h
    refine ⟨.ref a, S.fx i _ rfl, ⟨fun dd z => S.z _ _ (hfs _ S.hx dd z), .ref A, .ref A, b, rfl, fun u ru => ru, T2, ?_⟩⟩
    exact h (.bl b) H H₀ (Ext.refl S.z) (by simp only [Rep])
end
end
end L3

/-! L3. 9: what is owned is changed in place -/
namespace L3
open PySem PySem.Spec PyProof.Rows L2
inductive Stp where
  | ix (j : Nat) | fl (f : Str)
def putO (f : Str) (v : OV) : List (Str × OV) → List (Str × OV)
  | [] => [(f, v)]
  | (g, x) :: r => if g = f then (g, v) :: r else (g, x) :: putO f v r
def getP : List Stp → OV → Option OV
  | [], o => some o
  | .ix j :: π, .own l => (l[j]?).bind (getP π)
  | .fl f :: π, .obj _ fs => (fs.lookup f).bind (getP π)
  | _, _ => none
def setP : List Stp → OV → OV → OV
  | [], _, n => n
  | .ix j :: π, .own l, n => (match l[j]? with
    | some o => .own (l.set j (setP π o n))
    | none => .own l)
  | .fl f :: π, .obj c fs, n => (match fs.lookup f with
    | some o => .obj c (putO f (setP π o n) fs)
    | none => .obj c fs)
  | _, o, _ => o
/-- the value at a path -/
def AtP (H : Hp) : V → List Stp → V → Prop
  | v, [], w => v = w
  | v, .ix j :: π, w => ∃ a xs x, v = .ref a ∧ H a = some (.lst xs) ∧ xs[j]? = some x ∧ AtP H x π w
  | v, .fl f :: π, w => ∃ a c dx fs x, v = .ref a ∧ H a = some (.ins c dx fs) ∧ fs.lookup f = some x ∧ AtP H x π w
section
variable {G : Gc} {H₀ H H' : Hp}
theorem AtP.mono (e : Same H H') : ∀ {π : List Stp} {v w : V}, AtP H v π w → AtP H' v π w
  | [], _, _, h => h
  | .ix j :: π, v, w, h => by
    obtain ⟨a, xs, x, h1, h2, h3, h4⟩ := h
    exact ⟨a, xs, x, h1, e _ _ h2, h3, AtP.mono e h4⟩
  | .fl f :: π, v, w, h => by
    obtain ⟨a, c, dx, fs, x, h1, h2, h3, h4⟩ := h
    exact ⟨a, c, dx, fs, x, h1, e _ _ h2, h3, AtP.mono e h4⟩
theorem AtP.det : ∀ {π : List Stp} {v w w' : V}, AtP H v π w → AtP H v π w' → w = w'
  | [], _, _, _, h, k => (show _ = _ from h).symm.trans k
  | .ix j :: π, v, w, w', h, k => by
    obtain ⟨a, xs, x, h1, h2, h3, h4⟩ := h
    obtain ⟨a', xs', x', k1, k2, k3, k4⟩ := k
    subst h1
    cases k1
    rw [h2] at k2
    cases k2
    rw [h3] at k3
    cases k3
    exact AtP.det h4 k4
  | .fl f :: π, v, w, w', h, k => by
    obtain ⟨a, c, dx, fs, x, h1, h2, h3, h4⟩ := h
    obtain ⟨a', c', dx', fs', x', k1, k2, k3, k4⟩ := k
    subst h1
    cases k1
    rw [h2] at k2
    cases k2
    rw [h3] at k3
    cases k3
    exact AtP.det h4 k4
theorem AtP.snoc {s : Stp} {u : V} : ∀ {π : List Stp} {v w : V}, AtP H v π w → AtP H w [s] u → AtP H v (π ++ [s]) u
  | [], v, w, h, k => by
    have h : v = w := h
    subst h
    exact k
  | .ix j :: π, v, w, h, k => by
    obtain ⟨a, xs, x, h1, h2, h3, h4⟩ := h
    exact ⟨a, xs, x, h1, h2, h3, AtP.snoc h4 k⟩
  | .fl f :: π, v, w, h, k => by
    obtain ⟨a, c, dx, fs, x, h1, h2, h3, h4⟩ := h
    exact ⟨a, c, dx, fs, x, h1, h2, h3, AtP.snoc h4 k⟩
theorem getP_snoc {s : Stp} : ∀ {π : List Stp} {o sub : OV}, getP π o = some sub → getP (π ++ [s]) o = getP [s] sub
  | [], o, sub, h => by cases h; rfl
  | .ix j :: π, o, sub, h => by
    cases o with
    | own l =>
      show ((l[j]?).bind (getP (π ++ [s]))) = _
      have h : (l[j]?).bind (getP π) = some sub := h
      cases e : l[j]? with
      | none => rw [e] at h; cases h
      | some o => rw [e] at h; exact getP_snoc (π := π) h
    | sh p => cases h
    | obj c fs => cases h
  | .fl f :: π, o, sub, h => by
    cases o with
    | obj c fs =>
      show ((fs.lookup f).bind (getP (π ++ [s]))) = _
      have h : (fs.lookup f).bind (getP π) = some sub := h
      cases e : fs.lookup f with
      | none => rw [e] at h; cases h
      | some o => rw [e] at h; exact getP_snoc (π := π) h
    | sh p => cases h
    | own l => cases h
/-- what a change below must keep -/
def Upd (G : Gc) (H₀ H : Hp) (F Fs : List Addr) (vs : V) (K : Hp → List Addr → OV → Prop) : Prop :=
  ∀ H' sub' Fs', (∀ b ∈ F, b ∉ Fs → H' b = H b) → OwnR G H₀ H' sub' vs Fs' → Fs'.Nodup → (∀ b ∈ Fs', b ∈ Fs ∨ b ∉ F) → ∃ F', K H' F' sub' ∧ F'.Nodup ∧ ∀ b ∈ F', (b ∈ F ∧ b ∉ Fs) ∨ b ∈ Fs'
theorem OwnRs.upd : ∀ {l : List OV} {xs : List V} {F : List Addr} {j : Nat} {o : OV}, OwnRs G H₀ H l xs F → l[j]? = some o → F.Nodup → ∃ x Fj, xs[j]? = some x ∧ OwnR G H₀ H o x Fj ∧ Fj.Nodup ∧ (∀ b ∈ Fj, b ∈ F) ∧ Upd G H₀ H F Fj x fun H' F' o' => OwnRs G H₀ H' (l.set j o') xs F'
  | [], xs, F, j, o, h, e, nd => by simp at e
  | q :: l, xs, F, 0, o, h, e, nd => by
    simp only [OwnRs] at h
    obtain ⟨x, ys, F1, F2, h1, h2, h3, h4⟩ := h
    subst h1 h2
    simp at e
    subst e
    obtain ⟨n1, n2, n3⟩ := List.nodup_append.mp nd
    refine ⟨x, F1, rfl, h3, n1, fun b hb => List.mem_append_left _ hb, fun H' o' Fs' hk r nd' hm => ?_⟩
    refine ⟨Fs' ++ F2, ?_, List.nodup_append.mpr ⟨nd', n2, fun a ha b hb e => ?_⟩, fun b hb => ?_⟩
    · simp only [List.set_cons_zero, OwnRs]
      exact ⟨x, ys, Fs', F2, rfl, rfl, r, OwnRs.mono (Same.refl _) (fun b hb => hk b (List.mem_append_right _ hb) fun z => n3 b z b hb rfl) h4⟩
    · subst e
      rcases hm a ha with z | z
      · exact n3 a z a hb rfl
      · exact z (List.mem_append_right _ hb)
    · rcases List.mem_append.mp hb with z | z
      · exact .inr z
      · exact .inl ⟨List.mem_append_right _ z, fun y => n3 b y b z rfl⟩
  | q :: l, xs, F, j + 1, o, h, e, nd => by
    simp only [OwnRs] at h
    obtain ⟨x, ys, F1, F2, h1, h2, h3, h4⟩ := h
    subst h1 h2
    obtain ⟨n1, n2, n3⟩ := List.nodup_append.mp nd
    obtain ⟨w, Fj, e1, e2, e3, e4, e5⟩ := OwnRs.upd (j := j) h4 (by simpa using e) n2
    refine ⟨w, Fj, by simpa using e1, e2, e3, fun b hb => List.mem_append_right _ (e4 b hb), fun H' o' Fs' hk r nd' hm => ?_⟩
    obtain ⟨F', k1, k2, k3⟩ := e5 H' o' Fs' (fun b hb hn => hk b (List.mem_append_right _ hb) hn) r nd' fun b hb => (hm b hb).imp id fun z y => z (List.mem_append_right _ y)
    refine ⟨F1 ++ F', ?_, List.nodup_append.mpr ⟨n1, k2, fun a ha b hb e => ?_⟩, fun b hb => ?_⟩
    · simp only [List.set_cons_succ, OwnRs]
      exact ⟨x, ys, F1, F', rfl, rfl, OwnR.mono (Same.refl _) (fun b hb => hk b (List.mem_append_left _ hb) fun z => n3 b hb b (e4 b z) rfl) h3, k1⟩
    · subst e
      rcases k3 a hb with z | z
      · exact n3 a ha a z.1 rfl
      · rcases hm a z with y | y
        · exact n3 a ha a (e4 a y) rfl
        · exact y (List.mem_append_left _ ha)
    · rcases List.mem_append.mp hb with z | z
      · exact .inl ⟨List.mem_append_left _ z, fun y => n3 b z b (e4 b y) rfl⟩
      · exact (k3 b z).imp (fun y => ⟨List.mem_append_right _ y.1, y.2⟩) id
theorem OwnRf.upd : ∀ {l : List (Str × OV)} {xs : List (Str × V)} {F : List Addr} {f : Str} {o : OV}, OwnRf G H₀ H l xs F → l.lookup f = some o → F.Nodup → ∃ x Fj, xs.lookup f = some x ∧ OwnR G H₀ H o x Fj ∧ Fj.Nodup ∧ (∀ b ∈ Fj, b ∈ F) ∧ Upd G H₀ H F Fj x fun H' F' o' => OwnRf G H₀ H' (putO f o' l) xs F'
  | [], xs, F, j, o, h, e, nd => by simp at e
  | (g, q) :: l, xs, F, f, o, h, e, nd => by
    simp only [OwnRf] at h
    obtain ⟨x, ys, F1, F2, h1, h2, h3, h4⟩ := h
    subst h1 h2
    obtain ⟨n1, n2, n3⟩ := List.nodup_append.mp nd
    by_cases hg : g = f
    · subst hg
      have hb : (g == g) = true := beq_self_eq_true g
      simp only [List.lookup, hb, Option.some.injEq] at e ⊢
      subst e
      refine ⟨x, F1, rfl, h3, n1, fun b hb => List.mem_append_left _ hb, fun H' o' Fs' hk r nd' hm => ?_⟩
      refine ⟨Fs' ++ F2, ?_, List.nodup_append.mpr ⟨nd', n2, fun a ha b hb e => ?_⟩, fun b hb => ?_⟩
      · simp only [putO, if_true, OwnRf]
        exact ⟨x, ys, Fs', F2, rfl, rfl, r, OwnRf.mono (Same.refl _) (fun b hb => hk b (List.mem_append_right _ hb) fun z => n3 b z b hb rfl) h4⟩
      · subst e
        rcases hm a ha with z | z
        · exact n3 a z a hb rfl
        · exact z (List.mem_append_right _ hb)
      · rcases List.mem_append.mp hb with z | z
        · exact .inr z
        · exact .inl ⟨List.mem_append_right _ z, fun y => n3 b y b z rfl⟩
    · have hb : (f == g) = false := beq_eq_false_iff_ne.mpr (Ne.symm hg)
      simp only [List.lookup, hb] at e ⊢
      obtain ⟨w, Fj, e1, e2, e3, e4, e5⟩ := OwnRf.upd h4 e n2
      refine ⟨w, Fj, e1, e2, e3, fun b hb => List.mem_append_right _ (e4 b hb), fun H' o' Fs' hk r nd' hm => ?_⟩
      obtain ⟨F', k1, k2, k3⟩ := e5 H' o' Fs' (fun b hb hn => hk b (List.mem_append_right _ hb) hn) r nd' fun b hb => (hm b hb).imp id fun z y => z (List.mem_append_right _ y)
      refine ⟨F1 ++ F', ?_, List.nodup_append.mpr ⟨n1, k2, fun a ha b hb e => ?_⟩, fun b hb => ?_⟩
      · simp only [putO, if_neg hg, OwnRf]
        exact ⟨x, ys, F1, F', rfl, rfl, OwnR.mono (Same.refl _) (fun b hb => hk b (List.mem_append_left _ hb) fun z => n3 b hb b (e4 b z) rfl) h3, k1⟩
      · subst e
        rcases k3 a hb with z | z
        · exact n3 a ha a z.1 rfl
        · rcases hm a z with y | y
          · exact n3 a ha a (e4 a y) rfl
          · exact y (List.mem_append_left _ ha)
      · rcases List.mem_append.mp hb with z | z
        · exact .inl ⟨List.mem_append_left _ z, fun y => n3 b z b (e4 b y) rfl⟩
        · exact (k3 b z).imp (fun y => ⟨List.mem_append_right _ y.1, y.2⟩) id
theorem OwnR.upd : ∀ (π : List Stp) {o sub : OV} {v : V} {F : List Addr}, OwnR G H₀ H o v F → getP π o = some sub → F.Nodup → ∃ vs Fs, OwnR G H₀ H sub vs Fs ∧ Fs.Nodup ∧ (∀ b ∈ Fs, b ∈ F) ∧ AtP H v π vs ∧ Upd G H₀ H F Fs vs fun H' F' sub' => OwnR G H₀ H' (setP π o sub') v F'
  | [], o, sub, v, F, h, e, nd => by
    cases e
    exact ⟨v, F, h, nd, fun _ hb => hb, rfl, fun H' o' Fs' hk r nd' hm => ⟨Fs', r, nd', fun b hb => .inr hb⟩⟩
  | .ix j :: π, o, sub, v, F, h, e, nd => by
    cases o with
    | sh p => cases e
    | obj c fs => cases e
    | own l =>
      have e : (l[j]?).bind (getP π) = some sub := e
      cases ej : l[j]? with
      | none => rw [ej] at e; cases e
      | some oj =>
        rw [ej] at e
        simp only [OwnR] at h
        obtain ⟨a, xs, F', h1, h2, h3, h4⟩ := h
        subst h2
        obtain ⟨na, nd'⟩ := List.nodup_cons.mp nd
        obtain ⟨x, Fj, p1, p2, p3, p4, p5⟩ := OwnRs.upd h4 ej nd'
        obtain ⟨vs, Fs, q1, q2, q3, q4, q5⟩ := OwnR.upd π p2 e p3
        refine ⟨vs, Fs, q1, q2, fun b hb => List.mem_cons_of_mem _ (p4 b (q3 b hb)), ⟨a, xs, x, h1, h3, p1, q4⟩, fun H' sub' Fs' hk r ndr hm => ?_⟩
        obtain ⟨F1, r1, r2, r3⟩ := q5 H' sub' Fs' (fun b hb hn => hk b (List.mem_cons_of_mem _ (p4 b hb)) hn) r ndr fun b hb => (hm b hb).imp id fun z y => z (List.mem_cons_of_mem _ (p4 b y))
        obtain ⟨F2, s1, s2, s3⟩ := p5 H' (setP π oj sub') F1 (fun b hb hn => hk b (List.mem_cons_of_mem _ hb) fun z => hn (q3 b z)) r1 r2 fun b hb => by
          rcases r3 b hb with z | z
          · exact .inl z.1
          · rcases hm b z with y | y
            · exact .inl (q3 b y)
            · exact .inr fun w => y (List.mem_cons_of_mem _ w)
        have ab : a ∉ Fs := fun z => na (p4 a (q3 a z))
        have aF2 : a ∉ F2 := fun z => by
          rcases s3 a z with y | y
          · exact na y.1
          · rcases r3 a y with w | w
            · exact na (p4 a w.1)
            · rcases hm a w with u | u
              · exact ab u
              · exact u List.mem_cons_self
        refine ⟨a :: F2, ?_, List.nodup_cons.mpr ⟨aF2, s2⟩, fun b hb => ?_⟩
        · show OwnR G H₀ H' (match l[j]? with | some o => OV.own (l.set j (setP π o sub')) | none => OV.own l) v (a :: F2)
          rw [ej]
          simp only [OwnR]
          exact ⟨a, xs, F2, h1, rfl, by rw [hk a List.mem_cons_self ab]; exact h3, s1⟩
        · rcases List.mem_cons.mp hb with z | z
          · rw [z]
            exact .inl ⟨List.mem_cons_self, ab⟩
          · rcases s3 b z with y | y
            · exact .inl ⟨List.mem_cons_of_mem _ y.1, fun w => y.2 (q3 b w)⟩
            · exact (r3 b y).imp (fun w => ⟨List.mem_cons_of_mem _ (p4 b w.1), w.2⟩) id
  | .fl f :: π, o, sub, v, F, h, e, nd => by
    cases o with
    | sh p => cases e
    | own l => cases e
    | obj c fs =>
      have e : (fs.lookup f).bind (getP π) = some sub := e
      cases ej : fs.lookup f with
      | none => rw [ej] at e; cases e
      | some oj =>
        rw [ej] at e
        simp only [OwnR] at h
        obtain ⟨a, dx, xs, F', h1, h2, h3, h4⟩ := h
        subst h2
        obtain ⟨na, nd'⟩ := List.nodup_cons.mp nd
        obtain ⟨x, Fj, p1, p2, p3, p4, p5⟩ := OwnRf.upd h4 ej nd'
        obtain ⟨vs, Fs, q1, q2, q3, q4, q5⟩ := OwnR.upd π p2 e p3
        refine ⟨vs, Fs, q1, q2, fun b hb => List.mem_cons_of_mem _ (p4 b (q3 b hb)), ⟨a, _, dx, xs, x, h1, h3, p1, q4⟩, fun H' sub' Fs' hk r ndr hm => ?_⟩
        obtain ⟨F1, r1, r2, r3⟩ := q5 H' sub' Fs' (fun b hb hn => hk b (List.mem_cons_of_mem _ (p4 b hb)) hn) r ndr fun b hb => (hm b hb).imp id fun z y => z (List.mem_cons_of_mem _ (p4 b y))
        obtain ⟨F2, s1, s2, s3⟩ := p5 H' (setP π oj sub') F1 (fun b hb hn => hk b (List.mem_cons_of_mem _ hb) fun z => hn (q3 b z)) r1 r2 fun b hb => by
          rcases r3 b hb with z | z
          · exact .inl z.1
          · rcases hm b z with y | y
            · exact .inl (q3 b y)
            · exact .inr fun w => y (List.mem_cons_of_mem _ w)
        have ab : a ∉ Fs := fun z => na (p4 a (q3 a z))
        have aF2 : a ∉ F2 := fun z => by
          rcases s3 a z with y | y
          · exact na y.1
          · rcases r3 a y with w | w
            · exact na (p4 a w.1)
            · rcases hm a w with u | u
              · exact ab u
              · exact u List.mem_cons_self
        refine ⟨a :: F2, ?_, List.nodup_cons.mpr ⟨aF2, s2⟩, fun b hb => ?_⟩
        · show OwnR G H₀ H' (match fs.lookup f with | some o => OV.obj c (putO f (setP π o sub') fs) | none => OV.obj c fs) v (a :: F2)
          rw [ej]
          simp only [OwnR]
          exact ⟨a, dx, xs, F2, h1, rfl, by rw [hk a List.mem_cons_self ab]; exact h3, s1⟩
        · rcases List.mem_cons.mp hb with z | z
          · rw [z]
            exact .inl ⟨List.mem_cons_self, ab⟩
          · rcases s3 b z with y | y
            · exact .inl ⟨List.mem_cons_of_mem _ y.1, fun w => y.2 (q3 b w)⟩
            · exact (r3 b y).imp (fun w => ⟨List.mem_cons_of_mem _ (p4 b w.1), w.2⟩) id
theorem EnvR.upd : ∀ {ρ : Env} {σ : L2.St} {F : List Addr} {i : Nat} {π : List Stp} {o sub : OV}, EnvR G H₀ H ρ σ F → ρ[i]? = some (some o) → getP π o = some sub → F.Nodup →
    ∃ v vs Fs, σ[i]? = some (some v) ∧ OwnR G H₀ H sub vs Fs ∧ Fs.Nodup ∧ (∀ b ∈ Fs, b ∈ F) ∧ AtP H v π vs ∧ Upd G H₀ H F Fs vs fun H' F' sub' => EnvR G H₀ H' (ρ.set i (some (setP π o sub'))) σ F'
  | [], σ, F, i, π, o, sub, h, e, g, nd => by simp at e
  | none :: ρ, σ, F, 0, π, o, sub, h, e, g, nd => by simp at e
  | none :: ρ, σ, F, i + 1, π, o, sub, h, e, g, nd => by
    obtain ⟨x, τ, h1, h2⟩ := h
    subst h1
    obtain ⟨v, vs, Fs, e1, e2, e3, e4, e5, e6⟩ := EnvR.upd (i := i) h2 (by simpa using e) g nd
    refine ⟨v, vs, Fs, by simpa using e1, e2, e3, e4, e5, fun H' sub' Fs' hk r nd' hm => ?_⟩
    obtain ⟨F', k1, k2, k3⟩ := e6 H' sub' Fs' hk r nd' hm
    exact ⟨F', ⟨x, τ, rfl, k1⟩, k2, k3⟩
  | some o' :: ρ, σ, F, 0, π, o, sub, h, e, g, nd => by
    obtain ⟨v, τ, F1, F2, h1, h2, h3, h4⟩ := h
    subst h1 h2
    simp at e
    subst e
    obtain ⟨n1, n2, n3⟩ := List.nodup_append.mp nd
    obtain ⟨vs, Fs, q1, q2, q3, q4, q5⟩ := OwnR.upd π h3 g n1
    refine ⟨v, vs, Fs, rfl, q1, q2, fun b hb => List.mem_append_left _ (q3 b hb), q4, fun H' sub' Fs' hk r nd' hm => ?_⟩
    obtain ⟨F', k1, k2, k3⟩ := q5 H' sub' Fs' (fun b hb hn => hk b (List.mem_append_left _ hb) hn) r nd' fun b hb => (hm b hb).imp id fun z y => z (List.mem_append_left _ y)
    refine ⟨F' ++ F2, ⟨v, τ, F', F2, rfl, rfl, k1, EnvR.mono (Same.refl _) (fun b hb => hk b (List.mem_append_right _ hb) fun z => n3 b (q3 b z) b hb rfl) h4⟩, List.nodup_append.mpr ⟨k2, n2, fun a ha b hb e => ?_⟩, fun b hb => ?_⟩
    · subst e
      rcases k3 a ha with z | z
      · exact n3 a z.1 a hb rfl
      · rcases hm a z with y | y
        · exact n3 a (q3 a y) a hb rfl
        · exact y (List.mem_append_right _ hb)
    · rcases List.mem_append.mp hb with z | z
      · exact (k3 b z).imp (fun y => ⟨List.mem_append_left _ y.1, y.2⟩) id
      · exact .inl ⟨List.mem_append_right _ z, fun y => n3 b (q3 b y) b z rfl⟩
  | some o' :: ρ, σ, F, i + 1, π, o, sub, h, e, g, nd => by
    obtain ⟨v0, τ, F1, F2, h1, h2, h3, h4⟩ := h
    subst h1 h2
    obtain ⟨n1, n2, n3⟩ := List.nodup_append.mp nd
    obtain ⟨v, vs, Fs, e1, e2, e3, e4, e5, e6⟩ := EnvR.upd (i := i) h4 (by simpa using e) g n2
    refine ⟨v, vs, Fs, by simpa using e1, e2, e3, fun b hb => List.mem_append_right _ (e4 b hb), e5, fun H' sub' Fs' hk r nd' hm => ?_⟩
    obtain ⟨F', k1, k2, k3⟩ := e6 H' sub' Fs' (fun b hb hn => hk b (List.mem_append_right _ hb) hn) r nd' fun b hb => (hm b hb).imp id fun z y => z (List.mem_append_right _ y)
    refine ⟨F1 ++ F', ⟨v0, τ, F1, F', rfl, rfl, OwnR.mono (Same.refl _) (fun b hb => hk b (List.mem_append_left _ hb) fun z => n3 b hb b (e4 b z) rfl) h3, k1⟩, List.nodup_append.mpr ⟨n1, k2, fun a ha b hb e => ?_⟩, fun b hb => ?_⟩
    · subst e
      rcases k3 a hb with z | z
      · exact n3 a ha a z.1 rfl
      · rcases hm a z with y | y
        · exact n3 a ha a (e4 a y) rfl
        · exact y (List.mem_append_left _ ha)
    · rcases List.mem_append.mp hb with z | z
      · exact .inl ⟨List.mem_append_left _ z, fun y => n3 b z b (e4 b y) rfl⟩
      · exact (k3 b z).imp (fun y => ⟨List.mem_append_right _ y.1, y.2⟩) id
end
end L3

/-! L3. 10: paths to what is owned; append, stores -/
namespace L3
open PySem PySem.Spec PyProof.Rows L2
abbrev Pth := Nat × List Stp
def atE (ρ : Env) (q : Pth) : Option OV := match ρ[q.1]? with
  | some (some o) => getP q.2 o
  | _ => none
def upE (ρ : Env) (q : Pth) (n : OV) : Env := match ρ[q.1]? with
  | some (some o) => ρ.set q.1 (some (setP q.2 o n))
  | _ => ρ
section
variable {C : Fc} {W : WX} {D : Ends} {m : Bool} {X : Cx} {o e b : Expr} {es : List Expr} {pos p : Pos} {σ : L2.St} {H H₀ : Hp} {F : List Addr} {ρ : Env} {x : Str} {i : Nat}
theorem SR.at (S : SR C H₀ F ρ σ H) {q : Pth} {sub : OV} (h : atE ρ q = some sub) : ∃ t vs Fs, σ[q.1]? = some (some t) ∧ OwnR C.G H₀ H sub vs Fs ∧ Fs.Nodup ∧ (∀ b ∈ Fs, b ∈ F) ∧ AtP H t q.2 vs ∧
    ∀ a ho Fs0 sub' Fs', Fs = a :: Fs0 → OwnR C.G H₀ (upd H a ho) sub' vs Fs' → Fs'.Nodup → (∀ b ∈ Fs', b ∈ Fs ∨ (b ∉ F ∧ C.He b = none ∧ H₀ b = none)) → ∃ F', SR C H₀ F' (upE ρ q sub') σ (upd H a ho) := by
  unfold atE at h
  cases e : ρ[q.1]? with
  | none => rw [e] at h; cases h
  | some oo =>
    rw [e] at h
    cases oo with
    | none => cases h
    | some o =>
      obtain ⟨v, vs, Fs, e1, e2, e3, e4, e5, e6⟩ := EnvR.upd (π := q.2) S.env e h S.nd
      refine ⟨v, vs, Fs, e1, e2, e3, e4, e5, fun a ho Fs0 sub' Fs' ea r nd hm => ?_⟩
      have aF : a ∈ F := e4 a (by rw [ea]; exact List.mem_cons_self)
      have aFs : a ∈ Fs := by rw [ea]; exact List.mem_cons_self
      obtain ⟨F', k1, k2, k3⟩ := e6 (upd H a ho) sub' Fs' (fun b _ hn => upd_ne fun z => hn (z ▸ aFs)) r nd fun b hb => (hm b hb).imp id fun z => z.1
      unfold upE
      rw [e]
      refine ⟨F', fun c u q => ?_, fun c u q => ?_, S.n, S.hz, k1, k2, fun b hb => ?_, S.fx, S.hx⟩
      · rw [upd_ne fun z => by rw [z, (S.fr a aF).1] at q; cases q]
        exact S.e c u q
      · rw [upd_ne fun z => by rw [z, (S.fr a aF).2] at q; cases q]
        exact S.z c u q
      · rcases k3 b hb with z | z
        · exact S.fr b z.1
        · rcases hm b z with y | y
          · exact S.fr b (e4 b y)
          · exact y.2
/-! ### paths -/
def tP (C : Fc) (W : WX) (g : Env → R Pth) : TE := fun σ H Q => ∃ H₀ F ρ, SR C H₀ F ρ σ H ∧ Goes C.G W (g ρ) σ H H₀ fun q => ∀ v t H' H₀', Ext H₀ H H₀' H' → σ[q.1]? = some (some t) → AtP H' t q.2 v → Q v H'
abbrev QP (C : Fc) (W : WX) (X : Cx) (e : Expr) (g : Env → R Pth) : Prop := PE X e (tP C W g)
def pthR (ρ : Env) (q : Pth) : R Pth := match atE ρ q with
  | some (.own _) => .ok q
  | some (.obj _ _) => .ok q
  | _ => .no
def pVar (i : Nat) : Env → R Pth := fun ρ => pthR ρ (i, [])
theorem pthR_some {q q' : Pth} (h : pthR ρ q = .ok q') : q' = q ∧ ∃ sub, atE ρ q = some sub := by
  unfold pthR at h
  cases e : atE ρ q with
  | none => rw [e] at h; cases h
  | some o =>
    rw [e] at h
    cases o with
    | sh p => cases h
    | own l => cases h; exact ⟨rfl, _, rfl⟩
    | obj c fs => cases h; exact ⟨rfl, _, rfl⟩
theorem pthR_calm {q : Pth} {x : PX} : pthR ρ q ≠ .er x := by
  unfold pthR
  split <;> (intro z; cases z)
theorem qpVar (i : Nat) {x : Str} (hN : X.N[i]? = some x := by rfl) (hv : Vis X.env.scope x := by first | exact Or.inl rfl | exact Or.inr (Or.inl rfl) | exact Or.inr (Or.inr rfl)) (hd : (x == ("__debug__" : Str)) = false := by decide)
    (hcd : (x == ("__classdict__" : Str)) = false := by decide) : QP C W X (.Name x pos) (pVar i) := by
  refine PE.imp (pe_var hN hv hd hcd) fun σ H Q h => ?_
  obtain ⟨H₀, F, ρ, S, h⟩ := h
  unfold pVar at h
  cases e : pthR ρ (i, []) with
  | er x => exact absurd e pthR_calm
  | no => rw [e] at h; exact h.elim
  | ok q =>
    obtain ⟨rfl, sub, hs⟩ := pthR_some e
    rw [e] at h
    obtain ⟨t, vs, Fs, e1, _, _, _, e5, _⟩ := S.at hs
    exact ⟨t, e1, h t t H H₀ (Ext.refl S.z) e1 rfl⟩
/-- b[e] on the way -/
def pIx (g : Env → R Pth) (f : Env → R PV) : Env → R Pth := fun ρ => (g ρ).bind fun q => (f ρ).bind fun p => match atE ρ q, p with
  | some (.own l), .int k => (match ixN l.length k with
    | some j => pthR ρ (q.1, q.2 ++ [.ix j])
    | none => .no)
  | _, _ => .no
theorem atE_snoc {q : Pth} {sub : OV} {s : Stp} (h : atE ρ q = some sub) : atE ρ (q.1, q.2 ++ [s]) = getP [s] sub := by
  unfold atE at h ⊢
  cases e : ρ[q.1]? with
  | none => rw [e] at h; cases h
  | some oo =>
    rw [e] at h
    cases oo with
    | none => cases h
    | some o => exact getP_snoc h
theorem OwnRs.get {G : Gc} {H₀ H : Hp} : ∀ {l : List OV} {xs : List V} {F : List Addr} {j : Nat} {o : OV}, OwnRs G H₀ H l xs F → l[j]? = some o → ∃ x Fj, xs[j]? = some x ∧ OwnR G H₀ H o x Fj ∧ ∀ b ∈ Fj, b ∈ F
  | [], xs, F, j, o, h, e => by simp at e
  | q :: l, xs, F, 0, o, h, e => by
    simp only [OwnRs] at h
    obtain ⟨x, ys, F1, F2, h1, h2, h3, h4⟩ := h
    subst h1 h2
    simp at e
    subst e
    exact ⟨x, F1, rfl, h3, fun b hb => List.mem_append_left _ hb⟩
  | q :: l, xs, F, j + 1, o, h, e => by
    simp only [OwnRs] at h
    obtain ⟨x, ys, F1, F2, h1, h2, h3, h4⟩ := h
    subst h1 h2
    obtain ⟨w, Fj, e1, e2, e3⟩ := OwnRs.get (j := j) h4 (by simpa using e)
    exact ⟨w, Fj, by simpa using e1, e2, fun b hb => List.mem_append_right _ (e3 b hb)⟩
theorem OwnRs.length {G : Gc} {H₀ H : Hp} : ∀ {l : List OV} {xs : List V} {F : List Addr}, OwnRs G H₀ H l xs F → l.length = xs.length
  | [], xs, F, h => by simp only [OwnRs] at h; rw [h.1]; rfl
  | q :: l, xs, F, h => by
    simp only [OwnRs] at h
    obtain ⟨x, ys, F1, F2, h1, h2, h3, h4⟩ := h
    subst h1
    simp only [List.length_cons, OwnRs.length h4]
theorem qpIx {g : Env → R Pth} {f : Env → R PV} (hb : QP C W X b g) (hi : QE C W m X e f) (hs : PlainIx e := by exact fun _ _ => rfl) : QP C W X (.Subscript b e pos) (pIx g f) := by
  refine PE.imp (pe_ix ix_list hb hi hs) fun σ H Q h => ?_
  show tP C W g σ H fun x H1 => tE C W m f σ H1 fun y H2 => rIxL X.K x y H2 Q
  obtain ⟨H₀, F, ρ, S, h⟩ := h
  unfold pIx at h
  rw [Goes.bind] at h
  refine ⟨H₀, F, ρ, S, h.imp fun q eq h v t H1 H₁ E1 et ev => ?_⟩
  rw [Goes.bind] at h
  rw [tE_iff]
  have S1 := S.ext E1
  refine ⟨H₁, F, ρ, S1, (h.later E1).imp fun p _ h w H2 H₂ E2 rw' => ?_⟩
  have S2 := S1.ext E2
  cases ea : atE ρ q with
  | none => rw [ea] at h; exact (show False from h).elim
  | some sub =>
    rw [ea] at h
    match sub, p, ea, h, rw' with
    | .own l, .int k, ea, h, rw' =>
      dsimp only at h
      cases ej : ixN l.length k with
      | none => rw [ej] at h; exact h.elim
      | some j =>
        rw [ej] at h
        dsimp only at h
        cases ep : pthR ρ (q.1, q.2 ++ [.ix j]) with
        | er x => exact absurd ep pthR_calm
        | no => rw [ep] at h; exact h.elim
        | ok q' =>
          obtain ⟨rfl, sub', hs'⟩ := pthR_some ep
          rw [ep] at h
          obtain ⟨t', vs, Fs, e1, e2, e3, e4, e5, _⟩ := S2.at ea
          have et2 : t' = t := by rw [et] at e1; cases e1; rfl
          subst et2
          have ev2 : v = vs := AtP.det (ev.mono E2.s) e5
          subst ev2
          simp only [OwnR] at e2
          obtain ⟨a, xs, F', h1, h2, h3, h4⟩ := e2
          rw [atE_snoc ea] at hs'
          have hl : l[j]? = some sub' := by
            have z : (l[j]?).bind (getP []) = some sub' := hs'
            cases q : l[j]? with
            | none => rw [q] at z; cases z
            | some o => rw [q] at z; exact z
          obtain ⟨x, Fj, p1, p2, p3⟩ := h4.get hl
          simp only [Rep] at rw'
          refine ⟨a, xs, k, x, h1, rw', SqL.of h3, ?_, ?_⟩
          · unfold atI
            rw [← h4.length, ej]
            exact p1
          · exact h x t' H2 H₂ (E1.trans E2) et (AtP.snoc e5 ⟨a, xs, x, h1, h3, p1, rfl⟩)
    | .sh p', p, ea, h, rw' => exact (show False from h).elim
    | .obj c fs, p, ea, h, rw' => exact (show False from h).elim
    | .own l, .non, ea, h, rw' => exact (show False from h).elim
    | .own l, .bl _, ea, h, rw' => exact (show False from h).elim
    | .own l, .str _, ea, h, rw' => exact (show False from h).elim
    | .own l, .lst _, ea, h, rw' => exact (show False from h).elim
    | .own l, .scr _, ea, h, rw' => exact (show False from h).elim
    | .own l, .tup _, ea, h, rw' => exact (show False from h).elim
    | .own l, .ins _ _, ea, h, rw' => exact (show False from h).elim
/-! ### o.append(e) -/
def apR (q : Pth) (n : OV) (ρ : Env) : RS := match atE ρ q with
  | some (.own l) => if l.length < sizeLine then .nx (upE ρ q (.own (l ++ [n]))) else .no
  | _ => .no
def sApp (g : Env → R Pth) (f : Env → R (OV × Env)) : Env → RS := fun ρ => (g ρ).to ρ fun q => match atE ρ q with
  | some (.own _) => (f ρ).to ρ fun r => apR q r.1 r.2
  | _ => .no
theorem app_step {q : Pth} {n : OV} {t v w : V} {Fo : List Addr} (S : SR C H₀ F ρ σ H) (r : OwnR C.G H₀ H n w Fo) (nd : (Fo ++ F).Nodup) (fr : ∀ a ∈ Fo, C.He a = none ∧ H₀ a = none) (et : σ[q.1]? = some (some t)) (ev : AtP H t q.2 v)
    (h : Aft C W D (apR q n ρ)) : ∃ a xs, v = .ref a ∧ H a = some (.lst xs) ∧ xs.length < sizeLine ∧ D.nx σ (upd H a (.lst (xs ++ [w]))) ∧ a ∈ F := by
  unfold apR at h
  cases ea : atE ρ q with
  | none => rw [ea] at h; exact h.elim
  | some sub =>
    rw [ea] at h
    cases sub with
    | sh p => exact h.elim
    | obj c fs => exact h.elim
    | own l =>
      dsimp only at h
      by_cases hl : l.length < sizeLine
      · rw [if_pos hl] at h
        obtain ⟨t', vs, Fs, e1, e2, e3, e4, e5, e6⟩ := S.at ea
        have et2 : t' = t := by rw [et] at e1; cases e1; rfl
        subst et2
        have ev2 : v = vs := AtP.det ev e5
        subst ev2
        simp only [OwnR] at e2
        obtain ⟨a, xs, F', h1, h2, h3, h4⟩ := e2
        obtain ⟨n1, n2, n3⟩ := List.nodup_append.mp nd
        subst h2
        obtain ⟨na, nd'⟩ := List.nodup_cons.mp e3
        have aFo : a ∉ Fo := fun z => n3 a z a (e4 a List.mem_cons_self) rfl
        have keep1 : ∀ b ∈ F', upd H a (.lst (xs ++ [w])) b = H b := fun b hb => upd_ne fun z => na (z ▸ hb)
        have keep2 : ∀ b ∈ Fo, upd H a (.lst (xs ++ [w])) b = H b := fun b hb => upd_ne fun z => aFo (z ▸ hb)
        have o2 : OwnRs C.G H₀ (upd H a (.lst (xs ++ [w]))) (l ++ [n]) (xs ++ [w]) (F' ++ Fo) := OwnRs.snoc (OwnR.mono (Same.refl _) keep2 r) (OwnRs.mono (Same.refl _) keep1 h4)
        obtain ⟨F2, S2⟩ := e6 a (.lst (xs ++ [w])) F' (.own (l ++ [n])) (a :: (F' ++ Fo)) rfl (by simp only [OwnR]; exact ⟨a, _, _, h1, rfl, upd_same, o2⟩)
          (List.nodup_cons.mpr ⟨fun z => (List.mem_append.mp z).elim na aFo, List.nodup_append.mpr ⟨nd', n1, fun x hx y hy e => n3 y hy x (e4 x (List.mem_cons_of_mem _ hx)) e.symm⟩⟩)
          fun b hb => by
            rcases List.mem_cons.mp hb with z | z
            · exact .inl (by rw [z]; exact List.mem_cons_self)
            · rcases List.mem_append.mp z with z | z
              · exact .inl (List.mem_cons_of_mem _ z)
              · exact .inr ⟨fun y => n3 b z b y rfl, fr b z⟩
        exact ⟨a, xs, h1, h3, by rw [← h4.length]; exact hl, h σ _ H₀ F2 S2, e4 a List.mem_cons_self⟩
      · rw [if_neg hl] at h
        exact h.elim
theorem qApp {g : Env → R Pth} {f : Env → R (OV × Env)} {apos cpos : Pos} (ho : QP C W X o g) (he : QM C W X e f) (hsw : swapsWith (.Call (.Attribute o "append" apos) [e] [] cpos) none pos.line X.env = pure false := by rfl)
    (hbase : attributeBase o "append" X.env (eval o X.env) = eval o X.env := by rfl)
    (hfew : ((backTo cpos (starEach (e :: []) X.env)).all (fun x => !x.1) && (backToKw cpos (keywordEach [] X.env)).all (fun x => x.1.isSome)
      && decide ((e :: ([] : List Expr)).length + ([] : List Keyword).length + (if ([] : List Keyword).isEmpty then 0 else 1) < 30)) = true := by rfl)
    (hline : (apos.endLine == cpos.line) = true := by rfl) (hs : starEach (e :: []) X.env = (false, eval e X.env) :: starEach [] X.env := by rfl) (hplain : (backTo cpos (starEach [] X.env)).any (·.1) = false := by rfl) :
    QS C W X (.Expr (.Call (.Attribute o "append" apos) [e] [] cpos) pos) (sApp g f) := by
  have ha : PA X [e] (tCons (tM C W f) tNil) := pa_cons he pa_nil hs
  refine PS.imp (ps_expr (pe_bm PySem.F.plainAttrs_list PySem.F.slot_list_append PySem.F.type_list_append mt_append ho ha hbase hfew hline hs hplain) hsw) fun D σ H h => ?_
  show tP C W g σ H fun x H1 => tyV X.K "list" x H1 ∧ tM C W f σ H1 fun w H2 => rAppend x [w] H2 fun _ H3 => D.nx σ H3
  obtain ⟨H₀, F, ρ, S, h⟩ := h
  refine ⟨H₀, F, ρ, S, (Aft.to S h).imp fun q eq h v t H1 H₁ E1 et ev => ?_⟩
  have S1 := S.ext E1
  cases ea : atE ρ q with
  | none => rw [ea] at h; exact h.elim
  | some sub =>
    rw [ea] at h
    cases sub with
    | sh p => exact h.elim
    | obj c fs => exact h.elim
    | own l =>
      have ty : tyV X.K "list" v H1 := by
        obtain ⟨t', vs, Fs, e1, e2, e3, e4, e5, e6⟩ := S1.at ea
        have et2 : t' = t := by rw [et] at e1; cases e1; rfl
        subst et2
        have ev2 : v = vs := AtP.det ev e5
        subst ev2
        simp only [OwnR] at e2
        obtain ⟨a, xs, F', h1, h2, h3, h4⟩ := e2
        subst h1
        exact .inl ⟨rfl, xs, SqL.of h3⟩
      refine ⟨ty, H₁, F, ρ, S1, (Aft.to S1 h).imp fun r er h w H2 H₂ Fo Fr E2 S2 ro nd fr => ?_⟩
      obtain ⟨a, xs, h1, h2, h3, h4, _⟩ := app_step S2 ro nd fr et (ev.mono E2.s) h
      exact ⟨a, xs, w, h1, rfl, h2, h3, h4⟩
/-! ### o[i] = e -/
theorem OwnRs.put {G : Gc} {H₀ H : Hp} {n : OV} {w : V} {Fo : List Addr} (r : OwnR G H₀ H n w Fo) (ndo : Fo.Nodup) : ∀ {l : List OV} {xs : List V} {F : List Addr} (j : Nat), OwnRs G H₀ H l xs F → F.Nodup → (∀ b ∈ Fo, b ∉ F) → ∃ F', OwnRs G H₀ H (l.set j n) (xs.set j w) F' ∧ F'.Nodup ∧ ∀ b ∈ F', b ∈ F ∨ b ∈ Fo
  | [], xs, F, j, h, nd, ap => by
    simp only [OwnRs] at h
    obtain ⟨h1, h2⟩ := h
    subst h1 h2
    exact ⟨[], by simp [OwnRs], List.nodup_nil, fun b hb => by cases hb⟩
  | q :: l, xs, F, 0, h, nd, ap => by
    simp only [OwnRs] at h
    obtain ⟨x, ys, F1, F2, h1, h2, h3, h4⟩ := h
    subst h1 h2
    refine ⟨Fo ++ F2, by simp only [List.set_cons_zero, OwnRs]; exact ⟨w, ys, Fo, F2, rfl, rfl, r, h4⟩, List.nodup_append.mpr ⟨ndo, (List.nodup_append.mp nd).2.1, fun a ha b hb e => ap a ha (List.mem_append_right _ (e ▸ hb))⟩, fun b hb => ?_⟩
    exact (List.mem_append.mp hb).elim .inr fun z => .inl (List.mem_append_right _ z)
  | q :: l, xs, F, j + 1, h, nd, ap => by
    simp only [OwnRs] at h
    obtain ⟨x, ys, F1, F2, h1, h2, h3, h4⟩ := h
    subst h1 h2
    obtain ⟨n1, n2, n3⟩ := List.nodup_append.mp nd
    obtain ⟨F', k1, k2, k3⟩ := OwnRs.put r ndo j h4 n2 fun b hb z => ap b hb (List.mem_append_right _ z)
    refine ⟨F1 ++ F', by simp only [List.set_cons_succ, OwnRs]; exact ⟨x, _, F1, F', rfl, rfl, h3, k1⟩, List.nodup_append.mpr ⟨n1, k2, fun a ha b hb e => ?_⟩, fun b hb => ?_⟩
    · subst e
      rcases k3 a hb with z | z
      · exact n3 a ha a z rfl
      · exact ap a z (List.mem_append_left _ ha)
    · rcases List.mem_append.mp hb with z | z
      · exact .inl (List.mem_append_left _ z)
      · exact (k3 b z).imp (List.mem_append_right _) id
theorem OwnRf.put {G : Gc} {H₀ H : Hp} {n : OV} {w : V} {Fo : List Addr} {f : Str} (r : OwnR G H₀ H n w Fo) (ndo : Fo.Nodup) : ∀ {l : List (Str × OV)} {xs : List (Str × V)} {F : List Addr}, OwnRf G H₀ H l xs F → F.Nodup → (∀ b ∈ Fo, b ∉ F) → ∃ F', OwnRf G H₀ H (putO f n l) (putF f w xs) F' ∧ F'.Nodup ∧ ∀ b ∈ F', b ∈ F ∨ b ∈ Fo
  | [], xs, F, h, nd, ap => by
    simp only [OwnRf] at h
    obtain ⟨h1, h2⟩ := h
    subst h1 h2
    exact ⟨Fo, by simp only [putO, putF, OwnRf]; exact ⟨w, [], Fo, [], rfl, by simp, r, rfl, rfl⟩, ndo, fun b hb => .inr hb⟩
  | (g, q) :: l, xs, F, h, nd, ap => by
    simp only [OwnRf] at h
    obtain ⟨x, ys, F1, F2, h1, h2, h3, h4⟩ := h
    subst h1 h2
    obtain ⟨n1, n2, n3⟩ := List.nodup_append.mp nd
    by_cases hg : g = f
    · refine ⟨Fo ++ F2, by simp only [putO, putF, if_pos hg, OwnRf]; exact ⟨w, ys, Fo, F2, rfl, rfl, r, h4⟩, List.nodup_append.mpr ⟨ndo, n2, fun a ha b hb e => ap a ha (List.mem_append_right _ (e ▸ hb))⟩, fun b hb => ?_⟩
      exact (List.mem_append.mp hb).elim .inr fun z => .inl (List.mem_append_right _ z)
    · obtain ⟨F', k1, k2, k3⟩ := OwnRf.put r ndo h4 n2 fun b hb z => ap b hb (List.mem_append_right _ z)
      refine ⟨F1 ++ F', by simp only [putO, putF, if_neg hg, OwnRf]; exact ⟨x, _, F1, F', rfl, rfl, h3, k1⟩, List.nodup_append.mpr ⟨n1, k2, fun a ha b hb e => ?_⟩, fun b hb => ?_⟩
      · subst e
        rcases k3 a hb with z | z
        · exact n3 a ha a z rfl
        · exact ap a z (List.mem_append_left _ ha)
      · rcases List.mem_append.mp hb with z | z
        · exact .inl (List.mem_append_left _ z)
        · exact (k3 b z).imp (List.mem_append_right _) id
theorem OwnRf.length {G : Gc} {H₀ H : Hp} : ∀ {l : List (Str × OV)} {xs : List (Str × V)} {F : List Addr}, OwnRf G H₀ H l xs F → l.length = xs.length
  | [], xs, F, h => by simp only [OwnRf] at h; rw [h.1]; rfl
  | (g, q) :: l, xs, F, h => by
    simp only [OwnRf] at h
    obtain ⟨x, ys, F1, F2, h1, h2, h3, h4⟩ := h
    subst h1
    simp only [List.length_cons, OwnRf.length h4]
/-- what is held aside stays apart -/
theorem aside {n : OV} {w : V} {Fo : List Addr} {H' H₀' : Hp} (r : OwnR C.G H₀ H n w Fo) (fr : ∀ a ∈ Fo, C.He a = none ∧ H₀ a = none) (E : Ext H₀ H H₀' H') : OwnR C.G H₀' H' n w Fo ∧ ∀ a ∈ Fo, C.He a = none ∧ H₀' a = none := by
  refine ⟨OwnR.mono E.s0 (fun a ha => ?_) r, fun a ha => ⟨(fr a ha).1, ?_⟩⟩
  · obtain ⟨u, e⟩ := r.there a ha
    rw [e, E.s a u e]
  · obtain ⟨u, e⟩ := r.there a ha
    rw [E.n a (ne_none_of e)]
    exact (fr a ha).2
def stR (q : Pth) (p : PV) (n : OV) (ρ : Env) : RS := match atE ρ q, p with
  | some (.own l), .int k => (match ixN l.length k with
    | some j => .nx (upE ρ q (.own (l.set j n)))
    | none => .no)
  | _, _ => .no
def sSt (g : Env → R Pth) (fi : Env → R PV) (f : Env → R (OV × Env)) : Env → RS := fun ρ => (f ρ).to ρ fun r => (g r.2).to r.2 fun q => (fi r.2).to r.2 fun p => stR q p r.1 r.2
theorem st_step {q : Pth} {p : PV} {n : OV} {t v w y : V} {Fo : List Addr} (S : SR C H₀ F ρ σ H) (r : OwnR C.G H₀ H n w Fo) (nd : (Fo ++ F).Nodup) (fr : ∀ a ∈ Fo, C.He a = none ∧ H₀ a = none) (et : σ[q.1]? = some (some t)) (ev : AtP H t q.2 v) (ry : Rep C.G (md m H₀ H F) p y)
    (h : Aft C W D (stR q p n ρ)) : rSetL v y w H fun H' => D.nx σ H' := by
  unfold stR at h
  cases ea : atE ρ q with
  | none => rw [ea] at h; exact (show False from h).elim
  | some sub =>
    rw [ea] at h
    match sub, p, ea, h, ry with
    | .own l, .int k, ea, h, ry =>
      dsimp only at h
      cases ej : ixN l.length k with
      | none => rw [ej] at h; exact h.elim
      | some j =>
        rw [ej] at h
        obtain ⟨t', vs, Fs, e1, e2, e3, e4, e5, e6⟩ := S.at ea
        have et2 : t' = t := by rw [et] at e1; cases e1; rfl
        subst et2
        have ev2 : v = vs := AtP.det ev e5
        subst ev2
        simp only [OwnR] at e2
        obtain ⟨a, xs, F', h1, h2, h3, h4⟩ := e2
        simp only [Rep] at ry
        obtain ⟨n1, n2, n3⟩ := List.nodup_append.mp nd
        subst h2
        obtain ⟨na, nd'⟩ := List.nodup_cons.mp e3
        have aFo : a ∉ Fo := fun z => n3 a z a (e4 a List.mem_cons_self) rfl
        have keep1 : ∀ b ∈ F', upd H a (.lst (xs.set j w)) b = H b := fun b hb => upd_ne fun z => na (z ▸ hb)
        have keep2 : ∀ b ∈ Fo, upd H a (.lst (xs.set j w)) b = H b := fun b hb => upd_ne fun z => aFo (z ▸ hb)
        obtain ⟨F1, k1, k2, k3⟩ := OwnRs.put (H := upd H a (.lst (xs.set j w))) (OwnR.mono (Same.refl _) keep2 r) n1 j (OwnRs.mono (Same.refl _) keep1 h4) nd' fun b hb z => n3 b hb b (e4 b (List.mem_cons_of_mem _ z)) rfl
        obtain ⟨F2, S2⟩ := e6 a (.lst (xs.set j w)) F' (.own (l.set j n)) (a :: F1) rfl (by simp only [OwnR]; exact ⟨a, _, _, h1, rfl, upd_same, k1⟩)
          (List.nodup_cons.mpr ⟨fun z => (k3 a z).elim na aFo, k2⟩)
          fun b hb => by
            rcases List.mem_cons.mp hb with z | z
            · exact .inl (by rw [z]; exact List.mem_cons_self)
            · rcases k3 b z with z | z
              · exact .inl (List.mem_cons_of_mem _ z)
              · exact .inr ⟨fun y => n3 b z b y rfl, fr b z⟩
        exact ⟨a, xs, k, j, h1, ry, h3, by rw [← h4.length]; exact ej, h σ _ H₀ F2 S2⟩
    | .sh p', p, ea, h, rw' => exact (show False from h).elim
    | .obj c fs, p, ea, h, rw' => exact (show False from h).elim
    | .own l, .non, ea, h, rw' => exact (show False from h).elim
    | .own l, .bl _, ea, h, rw' => exact (show False from h).elim
    | .own l, .str _, ea, h, rw' => exact (show False from h).elim
    | .own l, .lst _, ea, h, rw' => exact (show False from h).elim
    | .own l, .scr _, ea, h, rw' => exact (show False from h).elim
    | .own l, .tup _, ea, h, rw' => exact (show False from h).elim
    | .own l, .ins _ _, ea, h, rw' => exact (show False from h).elim
theorem nd_keep {Fo F : List Addr} (nd : (Fo ++ F).Nodup) : (Fo ++ F).Nodup := nd
theorem qSt {ie : Expr} {g : Env → R Pth} {fi : Env → R PV} {f : Env → R (OV × Env)} (he : QM C W X e f) (ho : QP C W X o g) (hi : QE C W m X ie fi) (ha : ∀ v, assign (.Subscript o ie p) X.env v = (do
      let ov ← holding [v] (eval o X.env)
      let iv ← holding [v, ov] (eval ie X.env)
      standAt p
      holding [v, ov, iv] (setItem ov iv v)
      release [v, ov, iv] []) := by intro _; rfl) (hs : swapsWithSole [.Subscript o ie p] e pos.line X.env = pure false := by rfl) (hw : swappedStores [.Subscript o ie p] e X.env = pure none := by rfl)
    (h1 : (assignEach [.Subscript o ie p] X.env).map (·.2) = [assign (.Subscript o ie p) X.env] := by rfl) : QS C W X (.Assign [.Subscript o ie p] e pos) (sSt g fi f) := by
  refine PS.imp (ps_asg he (pg_sub ho hi set_list ha) hs hw h1) fun D σ H h => ?_
  show tM C W f σ H fun w H1 => tP C W g σ H1 fun v H2 => tE C W m fi σ H2 fun y H3 => rSetL v y w H3 fun H4 => D.nx σ H4
  obtain ⟨H₀, F, ρ, S, h⟩ := h
  refine ⟨H₀, F, ρ, S, (Aft.to S h).imp fun r _ h w H1 H₁ Fo Fr E1 S1 ro nd fr => ?_⟩
  refine ⟨H₁, Fr, r.2, S1, (Aft.to S1 h).imp fun q _ h v t H2 H₂ E2 et ev => ?_⟩
  have S2 := S1.ext E2
  obtain ⟨ro2, fr2⟩ := aside ro fr E2
  show tE C W m fi σ H2 fun y H3 => rSetL v y w H3 fun H4 => D.nx σ H4
  rw [tE_iff]
  refine ⟨H₂, Fr, r.2, S2, (Aft.to S2 h).imp fun p _ h y H3 H₃ E3 ry => ?_⟩
  obtain ⟨ro3, fr3⟩ := aside ro2 fr2 E3
  exact st_step (S2.ext E3) ro3 nd fr3 et (ev.mono E3.s) ry h
/-! ### o.f = e -/
def flR (q : Pth) (ok : Nat → Bool) (fl : Str) (n : OV) (ρ : Env) : RS := match atE ρ q with
  | some (.obj c fs) => if ok c = true ∧ fs.length < 1000 then .nx (upE ρ q (.obj c (putO fl n fs))) else .no
  | _ => .no
def sFl (g : Env → R Pth) (ok : Nat → Bool) (fl : Str) (f : Env → R (OV × Env)) : Env → RS := fun ρ => (f ρ).to ρ fun r => (g r.2).to r.2 fun q => flR q ok fl r.1 r.2
theorem qFl {g : Env → R Pth} {f : Env → R (OV × Env)} {ok : Nat → Bool} {fl : Str} (hK : X.K = C.G.K) (T : ∀ c, ok c = true → Cls C.G.K (C.G.CA c) ∧ NoAttr C.G.K (C.G.CA c) fl) (he : QM C W X e f) (ho : QP C W X o g) (hs : swapsWith e (some (.Attribute o fl p)) pos.line X.env = pure false := by rfl) : QS C W X (.Assign [.Attribute o fl p] e pos) (sFl g ok fl f) := by
  refine PS.imp (ps_fld ho he hs) fun D σ H h => ?_
  show tM C W f σ H fun w H1 => tP C W g σ H1 fun v H2 => ∃ a Ca dx fs, v = .ref a ∧ H2 a = some (.ins Ca dx fs) ∧ Cls X.K Ca ∧ NoAttr X.K Ca fl ∧ fs.length < 1000 ∧ D.nx σ (upd H2 a (.ins Ca dx (putF fl w fs)))
  obtain ⟨H₀, F, ρ, S, h⟩ := h
  refine ⟨H₀, F, ρ, S, (Aft.to S h).imp fun r _ h w H1 H₁ Fo Fr E1 S1 ro nd fr => ?_⟩
  refine ⟨H₁, Fr, r.2, S1, (Aft.to S1 h).imp fun q _ h v t H2 H₂ E2 et ev => ?_⟩
  have S2 := S1.ext E2
  obtain ⟨ro2, fr2⟩ := aside ro fr E2
  unfold flR at h
  cases ea : atE r.2 q with
  | none => rw [ea] at h; exact h.elim
  | some sub =>
    rw [ea] at h
    cases sub with
    | sh p => exact h.elim
    | own l => exact h.elim
    | obj c fs =>
      dsimp only at h
      by_cases hk : ok c = true ∧ fs.length < 1000
      · rw [if_pos hk] at h
        obtain ⟨T1, T2⟩ := T c hk.1
        obtain ⟨t', vs, Fs, e1, e2, e3, e4, e5, e6⟩ := S2.at ea
        have et2 : t' = t := by rw [et] at e1; cases e1; rfl
        subst et2
        have ev2 : v = vs := AtP.det ev e5
        subst ev2
        simp only [OwnR] at e2
        obtain ⟨a, dx, xs, F', h1, h2, h3, h4⟩ := e2
        obtain ⟨n1, n2, n3⟩ := List.nodup_append.mp nd
        subst h2
        obtain ⟨na, nd'⟩ := List.nodup_cons.mp e3
        have aFo : a ∉ Fo := fun z => n3 a z a (e4 a List.mem_cons_self) rfl
        have keep1 : ∀ b ∈ F', upd H2 a (.ins (C.G.CA c) dx (putF fl w xs)) b = H2 b := fun b hb => upd_ne fun z => na (z ▸ hb)
        have keep2 : ∀ b ∈ Fo, upd H2 a (.ins (C.G.CA c) dx (putF fl w xs)) b = H2 b := fun b hb => upd_ne fun z => aFo (z ▸ hb)
        obtain ⟨F1, k1, k2, k3⟩ := OwnRf.put (f := fl) (H := upd H2 a (.ins (C.G.CA c) dx (putF fl w xs))) (OwnR.mono (Same.refl _) keep2 ro2) n1 (OwnRf.mono (Same.refl _) keep1 h4) nd' fun b hb z => n3 b hb b (e4 b (List.mem_cons_of_mem _ z)) rfl
        obtain ⟨F2, S3⟩ := e6 a (.ins (C.G.CA c) dx (putF fl w xs)) F' (.obj c (putO fl r.1 fs)) (a :: F1) rfl (by simp only [OwnR]; exact ⟨a, dx, _, _, h1, rfl, upd_same, k1⟩)
          (List.nodup_cons.mpr ⟨fun z => (k3 a z).elim na aFo, k2⟩)
          fun b hb => by
            rcases List.mem_cons.mp hb with z | z
            · exact .inl (by rw [z]; exact List.mem_cons_self)
            · rcases k3 b z with z | z
              · exact .inl (List.mem_cons_of_mem _ z)
              · exact .inr ⟨fun y => n3 b z b y rfl, fr2 b z⟩
        exact ⟨a, _, dx, xs, h1, h3, by rw [hK]; exact T1, by rw [hK]; exact T2, by rw [← h4.length]; exact hk.2, h σ _ H₂ F2 S3⟩
      · rw [if_neg hk] at h
        exact h.elim
end
end L3

/-! L3. 11: new lists by operators; defs -/
namespace L3
open PySem PySem.Spec PyProof.Rows L2
section
variable {C : Fc} {W : WX} {D : Ends} {m : Bool} {X : Cx} {a b e : Expr} {es : List Expr} {pos p : Pos} {σ : L2.St} {H H₀ : Hp} {F : List Addr} {ρ : Env} {x : Str} {i : Nat} {fa fb : Env → R PV} {fas : Env → R (List PV)}
/-- an operator that makes a new list -/
def Op2F (Γ : Gc) (r : R2) (g : PV → PV → R (List PV)) : Prop := ∀ (H₀ H : Hp) (p q : PV) (l : List PV) (x y : V) (Q : VK), Same H₀ H → Rep Γ H₀ p x → Rep Γ H₀ q y → g p q = .ok l →
  (∀ xs a, H a = none → Reps Γ H₀ l xs → Q (.ref a) (upd H a (.lst xs))) → r x y H Q
def fOp (g : PV → PV → R (List PV)) (fa fb : Env → R PV) : Env → R OV := fun ρ => (fa ρ).bind fun p => (fb ρ).bind fun q => (g p q).bind fun l => .ok (.own (l.map .sh))
theorem qOpF {op : Operator} {r : R2} {g : PV → PV → R (List PV)} (ho : OpR X (binaryOp op) r) (hg : ∀ p q x, g p q ≠ .er x) (hr : Op2F C.G r g) (ha : QE C W true X a fa) (hb : QE C W true X b fb) : QF C W X (.BinOp a op b pos) (fOp g fa fb) := by
  refine PE.imp (pe_op ho ha hb) fun σ H Q h => ?_
  show tE C W true fa σ H fun x H1 => tE C W true fb σ H1 fun y H2 => r x y H2 Q
  rw [tF_iff] at h
  rw [tE_iff]
  obtain ⟨H₀, F, ρ, S, h⟩ := h
  unfold fOp at h
  rw [Goes.bind] at h
  refine ⟨H₀, F, ρ, S, h.imp fun p _ h v H1 H₁ E1 r1 => ?_⟩
  rw [Goes.bind] at h
  rw [tE_iff]
  refine ⟨H₁, F, ρ, S.ext E1, (h.later E1).imp fun q _ h w H2 H₂ E2 r2 => ?_⟩
  rw [Goes.bind] at h
  have E := E1.trans E2
  cases e : g p q with
  | er x => exact absurd e (hg p q x)
  | no => rw [e] at h; exact h.elim
  | ok l =>
    rw [e] at h
    refine hr H₂ H2 p q l v w Q E2.z (Rep.mono E2.s0 r1) r2 e fun xs a ha r => ?_
    obtain ⟨E3, o3, n3, f3⟩ := own_new (C := C) E2.z ha r
    exact h _ _ _ _ (E.trans E3) o3 n3 fun c hc => ⟨Same.free E.s (f3 c hc).1, (f3 c hc).2⟩
def mulL : PV → PV → R (List PV)
  | .lst l, .int k => if -(2 ^ 63) ≤ k ∧ k < 2 ^ 63 ∧ l.length * k.toNat ≤ sizeLine then .ok (List.replicate k.toNat l).flatten else .no
  | _, _ => .no
def addL : PV → PV → R (List PV)
  | .lst a, .lst b => if a.length + b.length ≤ sizeLine then .ok (a ++ b) else .no
  | _, _ => .no
theorem mulL_ok {G : Gc} : Op2F G rRep mulL := by
  intro H₀ H p q l x y Q zz rp rq e k
  unfold mulL at e
  split at e
  · simp only [Rep] at rp rq
    obtain ⟨a, xs, h1, h2, h3⟩ := rp
    split at e
    · rename_i hc
      cases e
      exact ⟨a, _, xs, h1, rq, zz _ _ h2, hc.1, hc.2.1, by rw [← h3.length]; exact hc.2.2, fun r hr => k _ r hr (h3.rep _)⟩
    · cases e
  · cases e
theorem addL_ok {G : Gc} : Op2F G rCat addL := by
  intro H₀ H p q l x y Q zz rp rq e k
  unfold addL at e
  split at e
  · simp only [Rep] at rp rq
    obtain ⟨a, xs, h1, h2, h3⟩ := rp
    obtain ⟨b, ys, g1, g2, g3⟩ := rq
    split at e
    · rename_i hc
      cases e
      exact ⟨a, b, xs, ys, h1, g1, zz _ _ h2, zz _ _ g2, by rw [← h3.length, ← g3.length]; exact hc, fun r hr => k _ r hr (h3.append g3)⟩
    · cases e
  · cases e
theorem qMulF (ha : QE C W true X a fa) (hb : QE C W true X b fb) : QF C W X (.BinOp a .Mult b pos) (fOp mulL fa fb) := qOpF op_rep (fun p q x => by unfold mulL; split <;> first | exact R.not_er | (intro z; cases z)) mulL_ok ha hb
theorem qAddF (ha : QE C W true X a fa) (hb : QE C W true X b fb) : QF C W X (.BinOp a .Add b pos) (fOp addL fa fb) := qOpF op_cat (fun p q x => by unfold addL; split <;> first | exact R.not_er | (intro z; cases z)) addL_ok ha hb
/-- what has no list in it leaves what is only looked at -/
def eFlat (f : Env → R PV) : Env → R PV := fun ρ => (f ρ).bind fun p => if p.flat = true then .ok p else .no
theorem qFlat (h : QE C W false X a fa) : QE C W m X a (eFlat fa) := by
  refine PE.imp h fun σ H Q h => ?_
  rw [tE_iff] at h ⊢
  obtain ⟨H₀, F, ρ, S, h⟩ := h
  unfold eFlat at h
  rw [Goes.bind] at h
  refine ⟨H₀, F, ρ, S, h.imp fun p _ h v H1 H₁ E1 r1 => ?_⟩
  by_cases hf : p.flat = true
  · rw [if_pos hf] at h
    have S1 := S.ext E1
    have hF : ∀ a ∈ F, ∀ o, vw H₁ H1 F a = some o → isLI o := fun a ha o e => by
      obtain ⟨u, e1, e2⟩ := S1.env.kind a ha
      unfold vw at e
      rw [if_pos ha, e1] at e
      cases e
      exact e2
    have r2 := Rep.mask hF hf r1
    have z : Same (mask (vw H₁ H1 F) F) H₁ := fun c o e => by
      unfold mask at e
      split at e
      · cases e
      · rename_i hc
        unfold vw at e
        rw [if_neg hc] at e
        exact e
    exact h v H1 H₁ E1 (Rep.mono (z_md fun a ha => (S1.fr a ha).2) (Rep.mono z r2))
  · rw [if_neg hf] at h
    exact h.elim
/-! ### calls in a suite -/
theorem qCallH {k : Nat} {f : Addr} {fd : FuncData} {ns : List Str} {Fn : List PV → R OV} (Fo : L2H.FnH X.prog X.w X.K X.mg X.base (L2N.CX X.prog X.w) k f fd ns (spP C.G Fn)) (hr : L2H.RoomH k X.A) (hc : L2H.HotC X) (tk : L2N.Takes X W) (hm : X.mg x = some (.ref f)) (hk : PySem.W.keepIn X.K (.ref f) = true) (hb : Binds X.K fd ns [])
    (ha : QA C W m X (e :: es) fas) (hg : Gl X x := by rfl) (hdb : (x == ("__debug__" : Str)) = false := by decide) (he : starEach (e :: es) X.env = (false, eval e X.env) :: starEach es X.env := by rfl) (hpl : (backTo pos (starEach es X.env)).any (·.1) = false := by rfl) :
    QF C W X (.Call (.Name x p) (e :: es) [] pos) (fCall m Fn [] fas) := by
  refine PE.imp (L2H.pe_callH (E := WE W) Fo hr hc hg hm hk hb (fun σ => L2N.passAt tk σ) ha hdb he hpl) fun σ H Q h => ?_
  show tAs C W m fas σ H fun vs H1 => spP C.G Fn vs H1 Q (WE W σ)
  rw [tF_iff] at h
  rw [tA_iff]
  obtain ⟨H₀, F, ρ, S, h⟩ := h
  unfold fCall at h
  rw [Goes.bind] at h
  refine ⟨H₀, F, ρ, S, h.imp fun ps _ h vs H1 H₁ E1 r1 => ?_⟩
  rw [List.append_nil] at h
  exact call_go (S.ext E1) r1 ((h.later E1).imp fun o _ h v H' H₀' Fv E ro nd fr => h v H' H₀' Fv (E1.trans E) ro nd fun a ha => ⟨Same.free E1.s (fr a ha).1, (fr a ha).2⟩)
/-- in a suite nothing is raised -/
theorem takes0 {X : Cx} : L2N.Takes X W0 := fun u s' ⟨_, _, _, _, _, _, _, _, _, _, _, _, _, _, _, _, w⟩ => w.elim
end
/-! ### defs -/
def startE (n : Nat) (ps : List PV) : Env := ps.map (fun p => some (.sh p)) ++ List.replicate (n - ps.length) none
def outS : RS → R OV
  | .nx _ => .ok (.sh .non)
  | .rt o => .ok o
  | .er x _ => .er x
  | _ => .no
def defF (n np : Nat) (f : Env → RS) : List PV → R OV := fun ps => if ps.length = np then outS (f (startE n ps)) else .no
theorem env_none {G : Gc} {H₀ H : Hp} : ∀ k : Nat, EnvR G H₀ H (List.replicate k none) (List.replicate k none) []
  | 0 => ⟨rfl, rfl⟩
  | k + 1 => ⟨none, _, rfl, env_none k⟩
theorem env_start {G : Gc} {H₀ H : Hp} {k : Nat} : ∀ {ps : List PV} {vs : List V}, Reps G H₀ ps vs → EnvR G H₀ H (ps.map (fun p => some (.sh p)) ++ List.replicate k none) (vs.map some ++ List.replicate k none) []
  | [], vs, r => by simp only [Reps] at r; subst r; exact env_none k
  | p :: ps, vs, r => by
    simp only [Reps] at r
    obtain ⟨x, ys, h1, h2, h3⟩ := r
    subst h1
    exact ⟨x, _, [], [], rfl, rfl, by simp only [OwnR]; exact ⟨h2, trivial⟩, env_start h3⟩
section
variable {P : Program} {w : World} {Γ : Gc} {mg : Str → Option Value} {base : Heap} {x qual : Str} {params : Arguments} {body : List Stmt} {scope : Scope} {dvs : List V} {kws : List (Str × V)} {fa : Addr} {fd : FuncData} {N ns : List Str} {k n np c : Nat} {f : Env → RS}
theorem goes_outS {C : Fc} {W : WX} {Q : VK} {σ : L2.St} {H H₀ : Hp} {r : RS} (hz : C.Hz = H₀) (he : C.He = H) (hW : ∀ cls d σ' H', W cls d σ H' → W cls d σ' H')
    (h : Goes C.G W (outS r) σ H H₀ fun o => ∀ v H' H₀' Fv, Ext H₀ H H₀' H' → OwnR C.G H₀' H' o v Fv → Fv.Nodup → (∀ a ∈ Fv, H a = none ∧ H₀' a = none) → Q v H') :
    Aft C W { nx := fun _ H' => Q .non H', rt := Q } r := by
  subst hz he
  cases r with
  | nx ρ => exact fun σ' H' H₀' F S => h .non H' H₀' [] S.entry (by simp [OwnR, Rep]) List.nodup_nil fun a ha => (by cases ha)
  | rt o => exact fun v H' H₀' Fv E ro nd fr => h v H' H₀' Fv E ro nd fr
  | bk ρ => exact (show False from h).elim
  | ct ρ => exact (show False from h).elim
  | er z ρ => exact fun cls d σ' H' H₀' F S rx => hW _ _ _ _ (h cls d H' H₀' S.entry rx)
  | no => exact h.elim
/-- THE RULE of a def -/
theorem qDef (Fd : FunD Γ.K x qual params body scope dvs kws fa fd) (S : FnScope N ns scope) (hn : N.length = n) (hnp : ns.length = np)
    (hbody : ∀ (cdv : Value) (A : Around) (outer : List PySem.Env) (s : Shared) (H : Hp) (E : XK) (C : Fc), C.G = Γ → C.fx = none → Room k (A.deeper (envOfC qual scope s.heap.objs.size fa cdv)) →
      L2N.Takes (cxOf (L2N.CX P w) P w Γ.K mg base N qual scope fa cdv A outer s H E) (fun cls d _ H => E cls d H) → PassesOwn (model P w) (A.deeper (envOfC qual scope s.heap.objs.size fa cdv)) (envOfC qual scope s.heap.objs.size fa cdv) (cxOf (L2N.CX P w) P w Γ.K mg base N qual scope fa cdv A outer s H E).xe →
      QSs C (fun cls d _ H => E cls d H) (cxOf (L2N.CX P w) P w Γ.K mg base N qual scope fa cdv A outer s H E) body f) :
    FnOk P w Γ.K mg base (L2N.CX P w) (k + 1) fa fd ns (spP Γ (defF n np f)) := by
  refine Fd.ok S (fun vs H Q E h => ?_) fun cdv A outer s H vs Q E hr h => ?_
  · obtain ⟨H₀, ps, hz, r, h⟩ := h
    unfold defF at h
    by_cases hl : ps.length = np
    · rw [← r.length, hl, hnp]
    · rw [if_neg hl] at h
      exact h.elim
  · obtain ⟨H₀, ps, hz, r, h⟩ := h
    unfold defF at h
    by_cases hl : ps.length = np
    · rw [if_pos hl] at h
      have tk : L2N.Takes (cxOf (L2N.CX P w) P w Γ.K mg base N qual scope fa cdv A outer s H E) (fun cls d _ H => E cls d H) := L2N.takes_of rfl rfl rfl rfl
      refine ⟨_, hbody cdv A outer s H E ⟨Γ, H, H₀, none, fun _ => none⟩ rfl rfl hr tk PassesOwn.leaving, H₀, [], startE n ps, ⟨Same.refl _, hz, fun _ _ => rfl, Same.refl _, ?_, List.nodup_nil, fun a ha => (by cases ha), fun i v z => (by cases z), fun a o z => (by cases z)⟩, goes_outS rfl rfl (fun _ _ _ _ z => z) h⟩
      unfold startE L2.start
      rw [hn, r.length]
      exact env_start r
    · rw [if_neg hl] at h
      exact h.elim
/-- the same within a suite -/
theorem qDefH (Fd : FunD Γ.K x qual params body scope dvs kws fa fd) (S : FnScope N ns scope) (hn : N.length = n) (hnp : ns.length = np)
    (hbody : ∀ (cdv : Value) (A : Around) (outer : List PySem.Env) (s : Shared) (H : Hp) (E : XK) (q : Addr × Obj) (C : Fc), C.G = Γ → C.fx = none → L2H.HotC (L2H.cxH (L2N.CX P w) P w Γ.K mg base N qual scope fa cdv A outer s H E q) → L2H.RoomH k (A.deeper (envOfC qual scope s.heap.objs.size fa cdv)) →
      L2N.Takes (L2H.cxH (L2N.CX P w) P w Γ.K mg base N qual scope fa cdv A outer s H E q) (fun cls d _ H => E cls d H) →
      QSs C (fun cls d _ H => E cls d H) (L2H.cxH (L2N.CX P w) P w Γ.K mg base N qual scope fa cdv A outer s H E q) body f) :
    L2H.FnH P w Γ.K mg base (L2N.CX P w) (k + 1) fa fd ns (spP Γ (defF n np f)) := by
  obtain ⟨oc, od, dV, kV, doc, pm, an, cdv, ct, osl, rfl, lk, hcd, _, _⟩ := Fd.ex
  refine L2H.fn_ofH lk hcd S (fun vs H Q E h => ?_) fun A outer s H vs Q E q hot hr h => ?_
  · obtain ⟨H₀, ps, hz, r, h⟩ := h
    unfold defF at h
    by_cases hl : ps.length = np
    · rw [← r.length, hl, hnp]
    · rw [if_neg hl] at h
      exact h.elim
  · obtain ⟨H₀, ps, hz, r, h⟩ := h
    unfold defF at h
    by_cases hl : ps.length = np
    · rw [if_pos hl] at h
      have tk : L2N.Takes (L2H.cxH (L2N.CX P w) P w Γ.K mg base N qual scope fa cdv A outer s H E q) (fun cls d _ H => E cls d H) := L2N.takes_of rfl rfl rfl rfl
      refine ⟨_, hbody cdv A outer s H E q ⟨Γ, H, H₀, none, fun _ => none⟩ rfl rfl ⟨q, hot, List.mem_cons_self⟩ hr tk, H₀, [], startE n ps, ⟨Same.refl _, hz, fun _ _ => rfl, Same.refl _, ?_, List.nodup_nil, fun a ha => (by cases ha), fun i v z => (by cases z), fun a o z => (by cases z)⟩, goes_outS rfl rfl (fun _ _ _ _ z => z) h⟩
      unfold startE L2.start
      rw [hn, r.length]
      exact env_start r
    · rw [if_neg hl] at h
      exact h.elim
/-! an __init__: its first slot is the new instance -/
def outI (c : Nat) : RS → R (List (Str × OV))
  | .nx (some (.obj c' fs) :: _) => if c' = c then .ok fs else .no
  | .er x (some (.obj _ _) :: _) => .er x
  | _ => .no
theorem outI_nx {c c' : Nat} {fs : List (Str × OV)} {ρ : Env} : outI c (.nx (some (.obj c' fs) :: ρ)) = if c' = c then .ok fs else .no := rfl
def initF (n np c : Nat) (f : Env → RS) : List PV → R (List (Str × OV)) := fun ps => if ps.length + 1 = np then outI c (f (some (.obj c []) :: startE (n - 1) ps)) else .no
theorem qInit (Fd : FunD Γ.K x qual params body scope dvs kws fa fd) (S : FnScope N ns scope) (hn : N.length = n) (hnp : ns.length = np)
    (hbody : ∀ (cdv : Value) (A : Around) (outer : List PySem.Env) (s : Shared) (H : Hp) (E : XK) (self : V) (C : Fc), C.G = Γ → C.fx = some (0, self) → Room k (A.deeper (envOfC qual scope s.heap.objs.size fa cdv)) →
      L2N.Takes (cxOf (L2N.CX P w) P w Γ.K mg base N qual scope fa cdv A outer s H E) (fun cls d _ H => E cls d H) → PassesOwn (model P w) (A.deeper (envOfC qual scope s.heap.objs.size fa cdv)) (envOfC qual scope s.heap.objs.size fa cdv) (cxOf (L2N.CX P w) P w Γ.K mg base N qual scope fa cdv A outer s H E).xe →
      QSs C (fun cls d _ H => E cls d H) (cxOf (L2N.CX P w) P w Γ.K mg base N qual scope fa cdv A outer s H E) body f) :
    FnOk P w Γ.K mg base (L2N.CX P w) (k + 1) fa fd ns (spI Γ c (initF n np c f)) := by
  refine Fd.ok S (fun vs H Q E h => ?_) fun cdv A outer s H vs Q E hr h => ?_
  · obtain ⟨x, dx, ws, H₀, ps, e1, hx, h0, hz, r, h⟩ := h
    unfold initF at h
    by_cases hl : ps.length + 1 = np
    · rw [e1, List.length_cons, ← r.length, hl, hnp]
    · rw [if_neg hl] at h
      exact h.elim
  · obtain ⟨x, dx, ws, H₀, ps, e1, hx, h0, hz, r, h⟩ := h
    subst e1
    unfold initF at h
    by_cases hl : ps.length + 1 = np
    · rw [if_pos hl] at h
      have tk : L2N.Takes (cxOf (L2N.CX P w) P w Γ.K mg base N qual scope fa cdv A outer s H E) (fun cls d _ H => E cls d H) := L2N.takes_of rfl rfl rfl rfl
      have dl : ∀ a o, del H x a = some o → a ≠ x ∧ H a = some o := fun a o e => by
        unfold del at e
        split at e
        · cases e
        · rename_i q
          exact ⟨q, e⟩
      have dx0 : del H x x = none := by unfold del; rw [if_pos rfl]
      let C : Fc := ⟨Γ, del H x, H₀, some (0, .ref x), fun _ => none⟩
      have S0 : SR C H₀ [x] (some (.obj c []) :: startE (n - 1) ps) (L2.start N (.ref x :: ws)) H := by
        refine ⟨fun a o e => (dl a o e).2, hz, fun _ _ => rfl, Same.refl _, ?_, by simp, fun a ha => ?_, fun i v z => ?_, fun a o z => (by cases z)⟩
        · unfold startE L2.start
          have e2 : N.length - (V.ref x :: ws).length = n - 1 - ps.length := by
            rw [hn, List.length_cons, r.length]
            omega
          rw [e2]
          refine ⟨.ref x, ws.map some ++ List.replicate (n - 1 - ps.length) none, [x], [], rfl, rfl, ?_, env_start r⟩
          simp only [OwnR, OwnRf]
          exact ⟨x, dx, [], [], rfl, rfl, hx, rfl, rfl⟩
        · rw [List.mem_singleton.mp ha]
          exact ⟨dx0, h0⟩
        · have z : (0, V.ref x) = (i, v) := Option.some.inj z
          cases z
          rfl
      refine ⟨_, hbody cdv A outer s H E (.ref x) C rfl rfl hr tk PassesOwn.leaving, H₀, [x], _, S0, ?_⟩
      -- the new instance still stands in the first slot
      have self : ∀ {c' : Nat} {fs : List (Str × OV)} {ρ' : Env} {σ' : L2.St} {H' H₀' : Hp} {F' : List Addr}, SR C H₀' F' (some (.obj c' fs) :: ρ') σ' H' → ∃ Fo : List Addr, OwnR Γ H₀' H' (.obj c' fs) (.ref x) Fo ∧ Fo.Nodup ∧ (∀ a ∈ Fo, del H x a = none ∧ H₀' a = none) ∧ H₀' x = none ∧ Ext H₀ (del H x) H₀' (del H' x) := by
        intro c' fs ρ' σ' H' H₀' F' T
        obtain ⟨v, Fo, Fr, g1, g2, g3, g4, g5⟩ := EnvR.take (i := 0) T.env rfl T.nd
        have g6 := T.fx 0 _ rfl
        rw [g1] at g6
        have ev : v = .ref x := by cases g6; rfl
        subst ev
        have fr : ∀ a ∈ Fo, del H x a = none ∧ H₀' a = none := fun a ha => T.fr a (g5 a (.inl ha))
        have xF : x ∈ Fo := by
          simp only [OwnR] at g2
          obtain ⟨a, dx', vs', F1, k1, k2, _⟩ := g2
          cases k1
          rw [k2]
          exact List.mem_cons_self
        have x0 := (fr x xF).2
        refine ⟨Fo, g2, (List.nodup_append.mp g4).1, fr, x0, fun a o e => ?_, T.hz, fun a o e => ?_, T.n⟩
        · obtain ⟨q1, _⟩ := dl a o e
          unfold del
          rw [if_neg q1]
          exact T.e a o e
        · unfold del
          rw [if_neg fun q => by rw [q, x0] at e; cases e]
          exact T.z a o e
      generalize f (some (.obj c []) :: startE (n - 1) ps) = r at h
      cases r with
      | nx ρ' =>
        match ρ', h with
        | some (.obj c' fs) :: ρ', h =>
          intro σ' H' H₀' F' T
          obtain ⟨Fo, g2, g3, g4, g5, g6⟩ := self T
          by_cases hc : c' = c
          · subst hc
            have h : match (outI c' (.nx (some (.obj c' fs) :: ρ'))) with
              | .ok fs => ∀ H' H₀' Fv, Ext H₀ (del H x) H₀' (del H' x) → OwnR Γ H₀' H' (.obj c' fs) (.ref x) Fv → Fv.Nodup → (∀ a ∈ Fv, (a = x ∨ H a = none) ∧ H₀' a = none) → Q .non H'
              | .er z => ∀ cls d H' H₀', Ext H₀ (del H x) H₀' (del H' x) → RepX Γ H₀' z cls d → E cls d H'
              | .no => False := h
            rw [outI_nx, if_pos rfl] at h
            refine h H' H₀' Fo g6 g2 g3 fun a ha => ⟨?_, (g4 a ha).2⟩
            have z := (g4 a ha).1
            unfold del at z
            split at z
            · rename_i q; exact .inl q
            · exact .inr z
          · have h : match (outI c (.nx (some (.obj c' fs) :: ρ'))) with
              | .ok fs => ∀ H' H₀' Fv, Ext H₀ (del H x) H₀' (del H' x) → OwnR Γ H₀' H' (.obj c fs) (.ref x) Fv → Fv.Nodup → (∀ a ∈ Fv, (a = x ∨ H a = none) ∧ H₀' a = none) → Q .non H'
              | .er z => ∀ cls d H' H₀', Ext H₀ (del H x) H₀' (del H' x) → RepX Γ H₀' z cls d → E cls d H'
              | .no => False := h
            rw [outI_nx, if_neg hc] at h
            exact h.elim
        | [], h => exact (show False from h).elim
        | none :: _, h => exact (show False from h).elim
        | some (.sh _) :: _, h => exact (show False from h).elim
        | some (.own _) :: _, h => exact (show False from h).elim
      | er z ρ' =>
        match ρ', h with
        | some (.obj c' fs) :: ρ', h =>
          intro cls d σ' H' H₀' F' T rx
          obtain ⟨Fo, g2, g3, g4, g5, g6⟩ := self T
          have h : ∀ cls d H' H₀', Ext H₀ (del H x) H₀' (del H' x) → RepX Γ H₀' z cls d → E cls d H' := h
          exact h cls d H' H₀' g6 rx
        | [], h => exact (show False from h).elim
        | none :: _, h => exact (show False from h).elim
        | some (.sh _) :: _, h => exact (show False from h).elim
        | some (.own _) :: _, h => exact (show False from h).elim
      | rt o => exact (show False from h).elim
      | bk ρ' => exact (show False from h).elim
      | ct ρ' => exact (show False from h).elim
      | no => exact (show False from h).elim
    · rw [if_neg hl] at h
      exact h.elim
end
end L3

/-! L3. 12: xs.append(y); z = list(y) -/
namespace L3
open PySem PySem.Spec PyProof.Rows L2
def shs : List OV → Option (List PV)
  | [] => some []
  | .sh p :: l => (shs l).map (p :: ·)
  | _ :: _ => none
def sAppList (g : Env → R Pth) (j i : Nat) (f : Env → RS) : Env → RS := fun ρ => (g ρ).to ρ fun q => match atE ρ q, ρ[j]? with
  | some (.own l), some (some (.own its)) => (match shs its with
    | some _ => sSeq (apR q (.own its)) (fun ρ' => f (ρ'.set i (some (.own its)))) (ρ.set j none)
    | none => .no)
  | _, _ => .no
theorem shs_ok {G : Gc} {H₀ H : Hp} : ∀ {l : List OV} {ps : List PV} {xs : List V} {F : List Addr}, shs l = some ps → OwnRs G H₀ H l xs F → Reps G H₀ ps xs ∧ l = ps.map .sh
  | [], ps, xs, F, e, h => by cases e; simp only [OwnRs] at h; rw [h.1]; exact ⟨Reps.nil, rfl⟩
  | .sh p :: l, ps, xs, F, e, h => by
    simp only [shs] at e
    cases q : shs l with
    | none => rw [q] at e; cases e
    | some qs =>
      rw [q] at e
      cases e
      simp only [OwnRs, OwnR] at h
      obtain ⟨x, ys, F1, F2, h1, h2, h3, h4⟩ := h
      obtain ⟨r1, r2⟩ := shs_ok q h4
      subst h1
      exact ⟨Reps.cons h3.1 r1, by rw [r2]; rfl⟩
  | .own _ :: l, ps, xs, F, e, h => by cases e
  | .obj _ _ :: l, ps, xs, F, e, h => by cases e
section
variable {C : Fc} {W : WX} {X : Cx} {o : Expr} {rest : List Stmt} {y z : Str} {i j : Nat} {pos pos2 apos cpos py py2 pz pl pc : Pos}
theorem qAppList {g : Env → R Pth} {f : Env → RS} (hK : X.K = C.G.K) (hx : fxOk C i) (hN : X.N.Nodup) (hm : X.mg "list" = none) (ho : QP C W X o g) (hr : QSs C W X rest f)
    (hj : X.N[j]? = some y := by rfl) (hi : X.N[i]? = some z := by rfl) (hv : Vis X.env.scope y := by first | exact Or.inl rfl | exact Or.inr (Or.inl rfl) | exact Or.inr (Or.inr rfl)) (hl : Loc X.env.scope z := by first | exact Or.inl rfl | exact Or.inr rfl)
    (hf : X.fn z = true ∨ X.env.scope.names.lookup z = some .local := by first | exact .inl rfl | exact .inr rfl)
    (hd : (y == ("__debug__" : Str)) = false := by decide) (hcd : (y == ("__classdict__" : Str)) = false := by decide) (hgl : Gl X "list" := by rfl)
    (hsw : swapsWith (.Call (.Attribute o "append" apos) [.Name y py] [] cpos) none pos.line X.env = pure false := by rfl)
    (hbase : attributeBase o "append" X.env (eval o X.env) = eval o X.env := by rfl)
    (hfew : ((backTo cpos (starEach (.Name y py :: []) X.env)).all (fun x => !x.1) && (backToKw cpos (keywordEach [] X.env)).all (fun x => x.1.isSome)
      && decide ((.Name y py :: ([] : List Expr)).length + ([] : List Keyword).length + (if ([] : List Keyword).isEmpty then 0 else 1) < 30)) = true := by rfl)
    (hline : (apos.endLine == cpos.line) = true := by rfl) (hs : starEach (.Name y py :: []) X.env = (false, eval (.Name y py) X.env) :: starEach [] X.env := by rfl) (hplain : (backTo cpos (starEach [] X.env)).any (·.1) = false := by rfl)
    (hs2 : starEach (.Name y py2 :: []) X.env = (false, eval (.Name y py2) X.env) :: starEach [] X.env := by rfl) (hpl2 : (backTo pc (starEach [] X.env)).any (·.1) = false := by rfl)
    (hsw2 : swapsWith (.Call (.Name "list" pl) [.Name y py2] [] pc) (some (.Name z pz)) pos2.line X.env = pure false := by rfl) :
    QSs C W X (.Expr (.Call (.Attribute o "append" apos) [.Name y py] [] cpos) pos :: .Assign [.Name z pz] (.Call (.Name "list" pl) [.Name y py2] [] pc) pos2 :: rest) (sAppList g j i f) := by
  have hy1 : PE X (.Name y py) (tVar j) := pe_var hj hv hd hcd
  have hy2 : PE X (.Name y py2) (tVar j) := pe_var hj hv hd hcd
  have ha1 : PA X [.Name y py] (tCons (tVar j) tNil) := pa_cons hy1 pa_nil hs
  have ha2 : PA X [.Name y py2] (tCons (tVar j) tNil) := pa_cons hy2 pa_nil hs2
  have s1 := ps_expr (pe_bm PySem.F.plainAttrs_list PySem.F.slot_list_append PySem.F.type_list_append mt_append ho ha1 hbase hfew hline hs hplain) hsw
  have s2 := ps_set (pos' := pz) (pos := pos2) hN hi hl (pe_callTy (p := pl) (pos := pc) call_list_of hgl hm bt_list ha2 (by decide) (by decide) hs2 hpl2) hsw2 hf
  refine PSs.imp (pss_cons s1 (pss_cons s2 hr)) fun D σ H h => ?_
  show tP C W g σ H fun x H1 => tyV X.K "list" x H1 ∧ ∃ v, σ[j]? = some (some v) ∧ rAppend x [v] H1 fun _ H2 => ∃ v, σ[j]? = some (some v) ∧ ∃ p ys, [v] = [.ref p] ∧ (SqL X.K H2 p ys ∨ SqT X.K H2 p ys) ∧ ∀ l, H2 l = none → tS C W f D (σ.set i (some (.ref l))) (upd H2 l (.lst ys))
  obtain ⟨H₀, F, ρ, S, h⟩ := h
  refine ⟨H₀, F, ρ, S, (Aft.to S h).imp fun q eq h v t H1 H₁ E1 et ev => ?_⟩
  have S1 := S.ext E1
  cases ea : atE ρ q with
  | none => rw [ea] at h; exact (show False from h).elim
  | some sub =>
    rw [ea] at h
    cases ej : ρ[j]? with
    | none => rw [ej] at h; cases sub <;> exact (show False from h).elim
    | some oj =>
      rw [ej] at h
      match sub, oj, ea, ej, h with
      | .own l, some (.own its), ea, ej, h =>
        dsimp only at h
        cases es : shs its with
        | none => rw [es] at h; exact h.elim
        | some ps =>
          rw [es] at h
          dsimp only at h
          have ty : tyV X.K "list" v H1 := by
            obtain ⟨t', vs, Fs, e1, e2, e3, e4, e5, e6⟩ := S1.at ea
            have et2 : t' = t := by rw [et] at e1; cases e1; rfl
            subst et2
            have ev2 : v = vs := AtP.det ev e5
            subst ev2
            simp only [OwnR] at e2
            obtain ⟨a, xs, F', h1, h2, h3, h4⟩ := e2
            subst h1
            exact .inl ⟨rfl, xs, SqL.of h3⟩
          obtain ⟨w, Fo, Fr, k1, k2, k3, k4, k5⟩ := S1.env.take ej S1.nd
          have S2 : SR { C with Hx := H₁ } H₁ Fr (ρ.set j none) σ H1 := ⟨S1.e, S1.z, S1.n, S1.hz, k3, (List.nodup_append.mp k4).2.1, fun a ha => S1.fr a (k5 a (.inr ha)), S1.fx, Same.refl _⟩
          have k2' := k2
          simp only [OwnR] at k2'
          obtain ⟨b, ys, F', g1, g2, g3, g4⟩ := k2'
          obtain ⟨r1, r2⟩ := shs_ok es g4
          -- what stands behind the append
          have hA : Aft { C with Hx := H₁ } W { nx := fun σ' H' => σ' = σ → ∀ l, H' l = none → Same H₁ H' → tS C W f D (σ'.set i (some (.ref l))) (upd H' l (.lst ys)), rt := D.rt, bk := D.bk, ct := D.ct } (apR q (.own its) (ρ.set j none)) := by
            unfold sSeq at h
            cases er : apR q (.own its) (ρ.set j none) with
            | nx ρ' =>
              rw [er] at h
              intro σ' H' H₀' F' T e l hl zz
              obtain ⟨E2, o2, n2, f2⟩ := own_new (C := C) T.z hl (Reps.mono T.hx r1)
              have T2 := (T.unx S1.hx).ext E2
              obtain ⟨F2, T3⟩ := T2.put (i := i) o2 n2 (fun a ha => ⟨Same.free T.e (f2 a ha).1, (f2 a ha).2, fun z => by
                obtain ⟨u, e⟩ := T.env.there a z
                rw [(f2 a ha).1] at e
                cases e⟩) hx
              rw [r2] at h
              exact ⟨_, F2, _, T3, h⟩
            | rt o => exfalso; revert er; unfold apR; split <;> first | (intro z; cases z; done) | (split <;> (intro z; cases z))
            | bk ρ' => exfalso; revert er; unfold apR; split <;> first | (intro z; cases z; done) | (split <;> (intro z; cases z))
            | ct ρ' => exfalso; revert er; unfold apR; split <;> first | (intro z; cases z; done) | (split <;> (intro z; cases z))
            | er x ρ' => exfalso; revert er; unfold apR; split <;> first | (intro z; cases z; done) | (split <;> (intro z; cases z))
            | no => rw [er] at h; exact h.elim
          obtain ⟨a, xs, p1, p2, p3, p4, p5⟩ := app_step S2 k2 k4 (fun a ha => S1.fr a (k5 a (.inl ha))) et ev hA
          refine ⟨ty, w, k1, a, xs, w, p1, rfl, p2, p3, w, k1, b, ys, by rw [g1], .inl (SqL.of ?_), fun l hl => p4 rfl l hl fun c u e => ?_⟩
          · have nb : b ≠ a := fun z => (List.nodup_append.mp k4).2.2 b (by rw [g2]; exact List.mem_cons_self) a p5 z
            rw [upd_ne nb]
            exact g3
          · have nc : c ≠ a := fun z => by rw [z, (S2.fr a p5).2] at e; cases e
            rw [upd_ne nc]
            exact S1.z c u e
      | .sh p, oj, ea, ej, h => exact (show False from h).elim
      | .obj c fs, oj, ea, ej, h => exact (show False from h).elim
      | .own l, none, ea, ej, h => exact (show False from h).elim
      | .own l, some (.sh p), ea, ej, h => exact (show False from h).elim
      | .own l, some (.obj c fs), ea, ej, h => exact (show False from h).elim
end
end L3

/-! L3. 13: the head's facts -/
namespace X4
open PySem PySem.Spec PyProof.Rows L2 He
abbrev Ck := PySem.W.Frag → Bool
/-- an own error class: its name, its field, its __init__ -/
structure SupD where
  x : Str
  f : Str
  qual : Str
  params : Arguments
  body : List Stmt
  scope : Scope
abbrev SupW := Option (Str × Str × Arguments × FuncBody × Scope × Addr × Addr)
def supW (K : PySem.W.Frag) (x : Str) : SupW := match K.lookup (ma K (ga K x) "__init__") with
  | some ⟨_, _, .func fd, _⟩ => some (fd.name, fd.qualname, fd.params, fd.body, fd.scope, fd.globals, fd.builtins)
  | _ => none
def SupD.val (d : SupD) : SupW := some ("__init__", d.qual, d.params, .stmts d.body, d.scope, mainGlobals, builtinsNs)
def supCl : List (Str × Addr) → Value → Value → Value → Option (Addr × Addr)
  | [(n, cc)], .none, .none, .ref cda => if n = "__class__" then some (cc, cda) else none
  | _, _, _, _ => none
theorem supCl_ok {cl : List (Str × Addr)} {dV kV cd : Value} {cc cda : Addr} (h : supCl cl dV kV cd = some (cc, cda)) : cl = [(("__class__" : Str), cc)] ∧ dV = .none ∧ kV = .none ∧ cd = .ref cda := by
  unfold supCl at h
  split at h
  · split at h
    · rename_i hn
      subst hn
      cases h
      exact ⟨rfl, rfl, rfl, rfl⟩
    · cases h
  · cases h
def supFn (K : PySem.W.Frag) (qual mfile : Str) (C fI : Addr) : Bool := match K.lookup fI with
  | some ⟨_, _, .func fd, _⟩ => (match supCl fd.closure fd.defaults fd.kwdefaults fd.code with
    | some (cc, cda) => PySem.W.codeIn K (.ref cda) qual && ((match K.lookup cda with
        | some ⟨_, _, .fields vs, _⟩ => (match (vs[2]? : Option Value) with
          | some (Value.str file _) => mfile == file
          | _ => false)
        | _ => false) && (match K.lookup cc with
        | some ⟨_, _, .cell (some (.ref D)), _⟩ => decide (D = C)
        | _ => false))
    | none => false)
  | _ => false
def supCls (K : PySem.W.Frag) (C : Addr) : Bool := match K.lookup C with
  | some ⟨.type "type", _, .cls cd, sl⟩ => (match cd.mro, sl.toList with
    | .ref C' :: bm, [_, _, _, _, some (.builtin n), _] => C' == C && n == "ValueError.__new__" && !cd.hasDel && cd.hasDict && PySem.HandSPX.refsVE bm
    | _, _ => false)
  | _ => false
def supB (mfile : Str) (d : SupD) : Ck := fun K => supCls K (ga K d.x) && (eqO (PySem.W.findIn K (.ref (ga K d.x)) "__setattr__") (some (some (.builtin "object.__setattr__"))) && (eqO (PySem.W.findIn K (.ref (ga K d.x)) d.f) (some none) && (eqO (PySem.W.findIn K (.ref (ga K d.x)) "__init__") (some (some (.ref (ma K (ga K d.x) "__init__")))) &&
  (decide (PySem.W.typeIn K (.ref (ma K (ga K d.x) "__init__")) = some (.type "function")) && (decide (PySem.W.subIn K (.ref (ga K d.x)) (.type "ValueError") = some true) && (decide (PySem.W.mroIn K (ga K d.x) (.ref (ga K d.x)) = some true) && (eqO (PySem.W.ks_superIn K (ga K d.x) (ga K d.x) "__init__") (some (some (.builtin "ValueError.__init__"))) &&
  (eqO (PySem.W.nsIn K cStatics "thirdparty.any") (some none) && (eqO (PySem.W.nsIn K mainGlobals "super") (some none) && supFn K d.qual mfile (ga K d.x) (ma K (ga K d.x) "__init__"))))))))))
theorem supCls_ok {K : PySem.W.Frag} {C : Addr} (q : supCls K C = true) : ∃ nm q N bs bm sn sub ab col dd k0 k1 k2 k3 k5, K.lookup C = some (excClassObj nm q C N bs bm true sn sub ab col dd k0 k1 k2 k3 k5 "ValueError.__new__") ∧ PySem.HandSPX.refsVE bm = true := by
  unfold supCls at q
  split at q
  · rename_i dd cd sl ho
    split at q
    · rename_i C' bm k0 k1 k2 k3 n k5 hm hs
      simp only [Bool.and_eq_true, beq_iff_eq, Bool.not_eq_true'] at q
      obtain ⟨⟨⟨⟨rfl, rfl⟩, hdel⟩, hdd⟩, ht⟩ := q
      obtain ⟨nm, bs, mro, ns, qn, hd, sn, sub, ab, col, del⟩ := cd
      dsimp only at hm hdel hdd
      subst hm hdel hdd
      have hsl : sl = #[k0, k1, k2, k3, some (.builtin "ValueError.__new__"), k5] := by
        obtain ⟨l⟩ := sl
        simp only at hs
        rw [hs]
      subst hsl
      exact ⟨nm, qn, ns, bs, bm, sn, sub, ab, col, dd, k0, k1, k2, k3, k5, ho, ht⟩
    · cases q
  · cases q
theorem sup_ok {prog : Program} {K : PySem.W.Frag} {d : SupD} {mfile : Str} {p1 p2 p3 p4 p5 p6 p7 p8 q1 q2 q3 q4 : Pos} {msg : Str} {k : Nat} (e : supW K d.x = d.val) (c : supB mfile d K = true) (hp : d.params = X3.supA p1 p2 d.f) (hb : d.body = X3.supB msg d.f k p3 p4 p5 p6 p7 p8 q1 q2 q3 q4) (hs : d.scope = X3.supS d.f)
    (hmf : prog.main.file = mfile) (htop : (prog.main.scope.names.lookup ("super" : Str)).isSome = false) (hne : (d.f == ("self" : Str)) = false ∧ (d.f == ("super" : Str)) = false ∧ (d.f == ("__class__" : Str)) = false ∧ (d.f == ("__debug__" : Str)) = false) (hbn : X3.BindS d.f) (hline : X3.LineS msg k p3 p4 p5 p6 p7) :
    X3.SupC prog K (ga K d.x) (ma K (ga K d.x) "__init__") d.f := by
  obtain ⟨x, f, qual, params, body, scope⟩ := d
  dsimp only at hp hb hs hne hbn
  subst hp hb hs
  obtain ⟨c1, c⟩ := ba c
  obtain ⟨c2, c⟩ := ba c
  obtain ⟨c3, c⟩ := ba c
  obtain ⟨c4, c⟩ := ba c
  obtain ⟨c5, c⟩ := ba c
  obtain ⟨c6, c⟩ := ba c
  obtain ⟨c7, c⟩ := ba c
  obtain ⟨c8, c⟩ := ba c
  obtain ⟨c9, c⟩ := ba c
  obtain ⟨c10, c11⟩ := ba c
  refine ⟨supCls_ok c1, eqO_ok c2, eqO_ok c3, eqO_ok c4, of_decide_eq_true c5, of_decide_eq_true c6, of_decide_eq_true c7, eqO_ok c8, eqO_ok c9, eqO_ok c10, htop, hne, hbn, ?_⟩
  unfold supW at e
  unfold supFn at c11
  dsimp only at e c11
  cases q : K.lookup (ma K (ga K x) "__init__") with
  | none => rw [q] at c11; cases c11
  | some o =>
    obtain ⟨oc, od, dt, osl⟩ := o
    rw [q] at c11 e
    cases dt with
    | func fd =>
      obtain ⟨n1, n2, n3, n4, n5, n6, n7, n8, n9, n10, n11, n12, n13, n14, n15⟩ := fd
      have e2 : (some (n1, n2, n3, n4, n5, n6, n15) : SupW) = some (("__init__" : Str), qual, X3.supA p1 p2 f, FuncBody.stmts (X3.supB msg f k p3 p4 p5 p6 p7 p8 q1 q2 q3 q4), X3.supS f, mainGlobals, builtinsNs) := e
      simp only [Option.some.injEq, Prod.mk.injEq] at e2
      obtain ⟨h1, h2, h3, h4, h5, h6, h7⟩ := e2
      subst h1 h2 h3 h4 h5 h6 h7
      dsimp only at c11
      cases qc : supCl n7 n8 n9 n13 with
      | none => rw [qc] at c11; cases c11
      | some cq =>
        obtain ⟨cc, cda⟩ := cq
        rw [qc] at c11
        obtain ⟨g1, g2, g3, g4⟩ := supCl_ok qc
        subst g1 g2 g3 g4
        obtain ⟨b2, b⟩ := ba c11
        obtain ⟨b3, b4⟩ := ba b
        refine ⟨_, msg, k, oc, od, n10, n11, n12, cda, cc, n14, osl, p1, p2, p3, p4, p5, p6, p7, p8, q1, q2, q3, q4, rfl, b2, hline, ?_, ?_⟩
        · split at b3
          · rename_i z1 z2 vs z3 hk
            split at b3
            · rename_i file tf hv
              exact ⟨_, _, _, vs, file, tf, hk, hv, by rw [hmf]; exact b3⟩
            · cases b3
          · cases b3
        · split at b4
          · rename_i z1 z2 D z3 hk
            have eD : D = ga K x := of_decide_eq_true b4
            subst eD
            exact ⟨_, _, _, hk⟩
          · cases b4
    | _ => cases c11
/-! the Hook -/
def asX (g : Addr → Option Obj) : Nat → List Addr
  | 0 => [mainGlobals, cStatics]
  | n + 1 => growD g (asX g n)
abbrev AlX : Type := Bool × List FnW × List SupW
def obsX (fs : List Ck) (fn : List DefD) (sx : List SupD) (K : PySem.W.Frag) : AlX := ((fs.all fun f => f K) && fn.all fun d => d.ok K, fn.map fun d => fnW K d.at_, sx.map fun d => supW K d.x)
def valX (fn : List DefD) (sx : List SupD) : AlX := (true, fn.map DefD.val, sx.map SupD.val)
def SaysX (fs : List Ck) (fn : List DefD) (sx : List SupD) (K : PySem.W.Frag) : Prop := obsX fs fn sx K = valX fn sx
def obsXG (n : Nat) (fs : List Ck) (fn : List DefD) (sx : List SupD) (g : Addr → Option Obj) : AlX := obsX fs fn sx (frG g (asX g n))
def hookX (n : Nat) (fs : List Ck) (fn : List DefD) (sx : List SupD) : PySem.W.Hook where
  α := AlX
  obs := fun s => obsXG n fs fn sx s.heap.get?
  val := fun _ => valX fn sx
  says := fun _ h => ∃ K : PySem.W.Frag, K.In h ∧ SaysX fs fn sx K
  of := fun _ _ e => ⟨_, frG_in, e⟩
  keeps := fun _ _ _ ⟨K, hK, c⟩ k => ⟨K, PySem.W.Frag.In.keeps hK k, c⟩
theorem obsXG_eq {n : Nat} {fs : List Ck} {fn : List DefD} {sx : List SupD} {g : Addr → Option Obj} {s : Shared} (h : ∀ a, g a = s.heap.get? a) : obsXG n fs fn sx g = (hookX n fs fn sx).obs s := by
  have e : g = s.heap.get? := funext h
  rw [e] <;> rfl
section
variable {fs : List Ck} {fn : List DefD} {sx : List SupD} {K : PySem.W.Frag}
theorem SaysX.fact (c : SaysX fs fn sx K) (i : Nat) {f : Ck} (h : fs[i]? = some f := by rfl) : f K = true := by
  have c1 := (ba (show ((fs.all fun f => f K) && fn.all fun d => d.ok K) = true from congrArg (fun z : AlX => z.1) c)).1
  exact List.all_eq_true.mp c1 f (List.mem_of_getElem? h)
theorem SaysX.def_ (c : SaysX fs fn sx K) (i : Nat) {d : DefD} (h : fn[i]? = some d := by rfl) : ∃ fd, FunD K d.name d.qual d.params d.body d.scope (d.dvs K) (d.kws K) (fAd K d.at_) fd := by
  have c2 := (ba (show ((fs.all fun f => f K) && fn.all fun d => d.ok K) = true from congrArg (fun z : AlX => z.1) c)).2
  have e : fn.map (fun d => fnW K d.at_) = fn.map DefD.val := congrArg (fun z : AlX => z.2.1) c
  have e2 : (fn.map fun d => fnW K d.at_)[i]? = (fn.map DefD.val)[i]? := by rw [e]
  rw [List.getElem?_map, List.getElem?_map, h] at e2
  exact DefD.funD (Option.some.inj e2) (List.all_eq_true.mp c2 d (List.mem_of_getElem? h))
theorem SaysX.sup (c : SaysX fs fn sx K) (i : Nat) {d : SupD} (h : sx[i]? = some d := by rfl) : supW K d.x = d.val := by
  have e : sx.map (fun d => supW K d.x) = sx.map SupD.val := congrArg (fun z : AlX => z.2.2) c
  have e2 : (sx.map fun d => supW K d.x)[i]? = (sx.map SupD.val)[i]? := by rw [e]
  rw [List.getElem?_map, List.getElem?_map, h] at e2
  exact Option.some.inj e2
end
/-! single facts -/
def fa (f : Fa) : Ck := fun K => f.ok K
/-- a value by its address -/
def tupAt (a : PySem.W.Frag → Addr) (vs : List Dv) : Ck := fun K => match K.lookup (a K) with
  | some ⟨.type c, _, .seq its _, _⟩ => decide (c = "tuple") && (decide (its.size ≤ sizeLine) && relAll (vs.map (Dv.v K)) its.toList)
  | _ => false
theorem tupAt_ok {K : PySem.W.Frag} {a : PySem.W.Frag → Addr} {vs : List Dv} (h : tupAt a vs K = true) (H : Hp) : SqT K H (a K) (vs.map (Dv.v K)) := by
  unfold tupAt at h
  cases q : K.lookup (a K) with
  | none =>
    rw [q] at h
    cases h
  | some o =>
    obtain ⟨oc, od, dt, osl⟩ := o
    rw [q] at h
    cases oc with
    | type c =>
      cases dt with
      | seq its n =>
        obtain ⟨h1, h2⟩ := ba (show (decide (c = "tuple") && (decide (its.size ≤ sizeLine) && relAll (vs.map (Dv.v K)) its.toList)) = true from h)
        obtain ⟨h3, h4⟩ := ba h2
        exact .inr ⟨_, its, n, q, congrArg Value.type (of_decide_eq_true h1), rfl, of_decide_eq_true h3, relAll_ok h4⟩
      | _ => cases h
    | _ => cases dt <;> cases h
def exiB (K : PySem.W.Frag) (D : Addr) : Bool := (PySem.W.clsIn K D).isSome && (eqO (PySem.W.findIn K (.ref D) "__getattribute__") (some (some (.builtin "BaseException.__getattribute__"))) && (eqO (PySem.W.findIn K (.ref D) "__getattr__") (some none) && (decide (PySem.W.subIn K (.ref D) (.type "BaseException") = some true) &&
  (eqO (PySem.W.findIn K (.ref D) "__class__") (some (some (.builtin "object.__class__"))) && (eqO (PySem.W.specialIn K (.builtin "object.__class__") "__get__") (some (some (.builtin "getset_descriptor.__get__"))) && (decide (PySem.W.takesIn K (.builtin "object.__class__") = some true) && decide (PySem.W.mroIn K D (.type "object") = some true)))))))
theorem exi_ok {K : PySem.W.Frag} {D : Addr} (c : exiB K D = true) : X3.ExI K D := by
  obtain ⟨c1, c⟩ := ba c
  obtain ⟨c2, c⟩ := ba c
  obtain ⟨c3, c⟩ := ba c
  obtain ⟨c4, c⟩ := ba c
  obtain ⟨c5, c⟩ := ba c
  obtain ⟨c6, c⟩ := ba c
  obtain ⟨c7, c8⟩ := ba c
  exact ⟨c1, eqO_ok c2, eqO_ok c3, of_decide_eq_true c4, eqO_ok c5, eqO_ok c6, of_decide_eq_true c7, of_decide_eq_true c8⟩
def iscB (K : PySem.W.Frag) (x : Str) : Bool := (Fa.cls x).ok K && (eqO (PySem.W.findIn K (.ref (ga K x)) "__class__") (some (some (.builtin "object.__class__"))) && (eqO (PySem.W.specialIn K (.builtin "object.__class__") "__get__") (some (some (.builtin "getset_descriptor.__get__"))) && (decide (PySem.W.takesIn K (.builtin "object.__class__") = some true) && decide (PySem.W.mroIn K (ga K x) (.type "object") = some true))))
theorem isc_ok {K : PySem.W.Frag} {x : Str} (c : iscB K x = true) : L3.IsC K (ga K x) := by
  obtain ⟨c1, c⟩ := ba c
  obtain ⟨c2, c⟩ := ba c
  obtain ⟨c3, c⟩ := ba c
  obtain ⟨c4, c5⟩ := ba c
  exact ⟨cls_ok c1, eqO_ok c2, eqO_ok c3, of_decide_eq_true c4, of_decide_eq_true c5⟩
def kitB2 (v u : PySem.W.Frag → Value) (b : Bool) : Ck := fun K => decide (PySem.W.kitOne K (v K) (u K) = some b)
def exmB (x y : Str) (b : Bool) : Ck := fun K => decide (PySem.W.exmOne K (.ref (ga K x)) (.ref (ga K y)) = some b)
def raisB (x : Str) : Ck := fun K => decide (PySem.W.subIn K (.ref (ga K x)) (.type "BaseException") = some true) && decide (PySem.W.typeIn K (.ref (ga K x)) = some (.type "type"))
theorem rais_ok {X : Cx} {x : Str} (c : raisB x X.K = true) : Raises X (.ref (ga X.K x)) := by
  obtain ⟨c1, c2⟩ := ba c
  exact raises_own (of_decide_eq_true c1) (of_decide_eq_true c2)
/-! the end -/
theorem walk_X {l : PySem.W.OpenLaw} {n k : Nat} {q : Program} {loose : List Str} {XP : (Str → Option Value) → Heap → Prop} {YP : World → Heap → Prop} {d : DefRec} {x : Str} {Fn : List L3.PV → L3.R L3.OV}
    (hn : l.most = some n) (hn2 : n ≤ sizeLine) (hdf : d.params.defaults = []) (hr : Room k callerA)
    (F : ∀ (w : World) (mg : Str → Option Value) (fa : Addr) (h : Heap), YP w h → h.Ns mainGlobals mg → mg d.name = some (.ref fa) →
      ∃ (Γ : L3.Gc) (fd : FuncData), Γ.K.In h ∧ (∀ (s : Shared) (u : Value), BindsTo s fd ⟨[u], []⟩ [(x, u)]) ∧ ∀ base : Heap, Γ.K.In base → base.Ns mainGlobals mg → FnOk l.prog w Γ.K mg base (L2N.CX l.prog w) k fa fd [x] (L3.spP Γ Fn))
    (hF : ∀ ns : List Int, ns.length ≤ n → (∀ z ∈ ns, Builtin.Int.intBits z ≤ 1048576) → Fn [.scr (ns.map .int)] = .ok (.sh (.bl true))) :
    PySem.W.WalkO q loose XP YP l.row.toRowW d [] (fun f vs => PySem.call f vs) := by
  refine Att.attach_callB hn hdf fun w s₀ s₁ mg mb fa o pm cd doc a vs ns G Y ho hd hcd hmg hobj hints hlen hbits hg => ?_
  obtain ⟨Γ, fd, KX, hb, hFn⟩ := F w mg fa _ Y G.T.g hmg
  refine law_call KX G.T.g G.T.b G.T.builtins G.T.nolimit hg hobj hints (Nat.le_trans hlen hn2) hr hFn hb (fun H hO hS => ?_) fun H e s' hc => ?_
  · refine ⟨H, [.scr (ns.map .int)], Same.refl _, ?_, ?_⟩
    · refine L3.Reps.one ?_
      simp only [L3.Rep]
      refine ⟨a, _, rfl, hS, ?_⟩
      clear hlen hbits hints hS
      induction ns with
      | nil => exact L3.Reps.nil
      | cons i ns ih => exact L3.Reps.cons (by simp only [L3.Rep]) ih
    · rw [hF ns hlen hbits]
      intro v H' H₀' Fv E r nd fr
      simp only [L3.OwnR, L3.Rep] at r
      exact r.1
  · obtain ⟨_, _, _, _, _, _, _, _, _, _, _, _, z⟩ := hc
    exact z
end X4

/-! L3. 14: own ==, list(range(..)), small helps -/
namespace L3
open PySem PySem.Spec PyProof.Rows L2
/-! ### != by an own __eq__ -/
section
open PySem.W
variable {prog : Program} {w : World} {A : Around} {E : Value → Shared → Prop} {s : Shared} {K : Frag} {x C L f : Addr} {h₀ : Heap} {m : Str → Option Value} {ox : Obj} {od : Option Obj} {b tb : Value}
theorem ne_body {Q : Fin → Shared → Prop} (hu : A.units < cLine) (X : K.In s.heap) (I : InstAt s.heap x ox C od) (hs : findIn K (.ref C) "__eq__" = some (some (.ref f))) (hf : isFn K (.ref f) = true)
    (h : wpAny (model prog w) A (call (.ref f) [.ref x, b]) (fun v s' => ∃ k, v = .bool k ∧ Q (.done (.ret (.bool (!k)))) s') E s) : wpAny (model prog w) A (Builtin.«object.__ne__» ⟨[.ref x, b], []⟩) Q E s := by
  unfold Builtin.«object.__ne__»
  repeat (first | with_reducible refine wpAny_cRoomFor hu ?_ | (with_reducible refine ifBound_K (args := [b]) X I hs hf (wpAny_mono h (fun v s' q => ?_) fun _ _ e => e)) | wp_step)
  obtain ⟨k, rfl, q⟩ := q
  repeat (first | with_reducible refine wpAny_truthy_bool ?_ | wp_step)
  exact q
theorem ne_K {Q : Value → Shared → Prop} (hu : A.units + 1 < cLine) (Fr0 : Fr h₀ L s.heap m) (X₀ : K.In h₀) (I : InstAt s.heap x ox C od) (hb : Looks (model prog w) s.heap (typeOf b) tb) (hn : notFirst K C tb = true)
    (hs : findIn K (.ref C) "__eq__" = some (some (.ref f))) (hf : isFn K (.ref f) = true) (hne : findIn K (.ref C) "__ne__" = some (some (.builtin "object.__ne__"))) (hob : subIn K (.ref C) (.type "object") = some true)
    (h : wpAny (model prog w) A.in1 (call (.ref f) [.ref x, b]) (fun v s' => ∃ k, v = .bool k ∧ Q (.bool (!k)) s') E s) : wpAny (model prog w) A (richCompare .NotEq (.ref x) b) Q E s := by
  have X := X₀.keeps Fr0.keep
  have hu0 : A.units < cLine := Nat.lt_of_succ_lt hu
  have one : wpAny (model prog w) A (tryCompare (.ref x) (cmpInfo .NotEq).2.1 b) (fun r s' => ∃ v, r = some v ∧ Q v s') E s := by
    show wpAny (model prog w) A (tryCompare (.ref x) "__ne__" b) (fun r s' => ∃ v, r = some v ∧ Q v s') E s
    unfold tryCompare
    refine wpAny_bind ?_
    simp only [callSpecialIfBound?, bindSpecialIfBound?]
    refine wpAny_holding (wpAny_bind (wpAny_bind (wpAny_bind (I.type.here ((looks_findIn X hne).here ?_)))))
    simp only [F.cmp_object.ne.bind]
    refine wpAny_bind (wpAny_askSetting (wpAny_ite ?_))
    have hc : wpAny (model prog w) A (call (.builtin "object.__ne__") [.ref x, b]) (fun v s' => ∃ k, v = .bool k ∧ Q (.bool k) s') E s := by
      refine wpAny_call (codeAny_call_builtin F.cmp_object.ne.plain F.cmpEntry_ne ?_)
      simp only [checkBuiltinCall, F.cmpKind_ne, F.cmpSplit_ne]
      have LI : Looks (model prog w) s.heap (isInstance (.ref x) (.type "object")) true := I.type.andThen (looks_subIn X hob)
      refine wpAny_bind (LI.here ?_)
      have ha := F.cmpArgs_ne (.ref x) b
      cases hsig : Manifest.signature? "object.__ne__" with
      | none =>
        refine wpAny_pure ?_
        exact ne_body (A := A.in1) (by show A.units + 1 < cLine; exact hu) X I hs hf (wpAny_mono h (fun v s' q => (let ⟨k, e, q⟩ := q; ⟨k, e, ⟨!k, rfl, q⟩⟩)) fun _ _ e => e)
      | some sig =>
        simp only [argsOk, hsig] at ha
        have h2 : Bind.checkArgs "object.__ne__" sig ⟨[.ref x, b], []⟩ = pure () := ha
        show wpAny _ _ (Bind.checkArgs "object.__ne__" sig ⟨[.ref x, b], []⟩) _ _ _
        rw [h2]
        refine wpAny_pure ?_
        exact ne_body (A := A.in1) (by show A.units + 1 < cLine; exact hu) X I hs hf (wpAny_mono h (fun v s' q => (let ⟨k, e, q⟩ := q; ⟨k, e, ⟨!k, rfl, q⟩⟩)) fun _ _ e => e)
    have fin : wpAny (model prog w) A (call (.builtin "object.__ne__") ([.ref x] ++ [b]) >>= fun v => pure (some v)) (fun r s' => wpAny (model prog w) A (match r with
        | some .notImplemented => pure none
        | none => pure none
        | some v => pure (some v)) (fun r s' => ∃ v, r = some v ∧ Q v s') E s') E s := wpAny_bind (wpAny_mono hc (fun v s' q => (by obtain ⟨k, rfl, q⟩ := q; exact wpAny_pure (wpAny_pure ⟨_, rfl, q⟩))) fun _ _ h' => h')
    split
    · exact wpAny_bind (wpAny_pure (wpAny_pure fin))
    · exact wpAny_tryCatch (wpAny_bind (wpAny_pure (wpAny_pure fin)))
  unfold richCompare
  simp only [oneThing_ref]
  refine wpAny_holding (wpAny_bind (wpAny_cRoomFor hu0 ?_))
  refine wpAny_bind (I.type.here (wpAny_bind (hb.here ?_)))
  split
  · rename_i q
    have e : subIn K tb (.ref C) = some false := by
      rcases Bool.or_eq_true_iff.mp hn with e | e
      · rw [beq_iff_eq.mp e] at q; simp at q
      · exact beq_iff_eq.mp e
    refine wpAny_bind ((looks_subIn X e).here ?_)
    simp only [Bool.false_eq_true, if_false]
    refine wpAny_bind (wpAny_mono one (fun r s' z => ?_) fun _ _ e => e)
    obtain ⟨v, rfl, hq⟩ := z
    exact wpAny_pure hq
  · refine wpAny_bind (wpAny_pure ?_)
    simp only [Bool.false_eq_true, if_false]
    refine wpAny_bind (wpAny_mono one (fun r s' z => ?_) fun _ _ e => e)
    obtain ⟨v, rfl, hq⟩ := z
    exact wpAny_pure hq
end
/-- what an own == must have -/
structure EqC (K : PySem.W.Frag) (Ca f : Addr) : Prop where
  eq : PySem.W.findIn K (.ref Ca) "__eq__" = some (some (.ref f))
  fn : PySem.W.isFn K (.ref f) = true
  ne : PySem.W.findIn K (.ref Ca) "__ne__" = some (some (.builtin "object.__ne__"))
  ob : PySem.W.subIn K (.ref Ca) (.type "object") = some true
  tu : PySem.W.subIn K (.type "tuple") (.ref Ca) = some false
def rEqO (K : PySem.W.Frag) (Ca : Addr) (sp : Sp) (neg : Bool) : R2 := fun x y H Q => ∃ a b dx fs, x = .ref a ∧ y = .ref b ∧ H a = some (.ins Ca dx fs) ∧ ((∃ dy gs, H b = some (.ins Ca dy gs)) ∨ ∃ xs, SqT K H b xs) ∧
  sp [x, y] H (fun v H' => ∃ k, v = .bl k ∧ Q (.bl (if neg then !k else k)) H') fun _ _ _ => False
section
variable {X : Cx} {Ca f : Addr} {fd : FuncData} {ns : List Str} {k : Nat} {sp : Sp}
theorem type_of_y {pins : List (Addr × Obj)} {σ : L2.St} {H : Hp} {s : Shared} {b : Addr} (T : EqC X.K Ca f) (I : Inv X pins σ H s) (h : (∃ dy gs, H b = some (.ins Ca dy gs)) ∨ ∃ xs, SqT X.K H b xs) :
    ∃ tb, PySem.W.Looks (model X.prog X.w) s.heap (typeOf (.ref b)) tb ∧ PySem.W.notFirst X.K Ca tb = true := by
  rcases h with ⟨dy, gs, h⟩ | ⟨xs, h⟩
  · obtain ⟨mA, J, _⟩ := ins_get I.hok h
    obtain ⟨od, J, _⟩ := J.look
    exact ⟨_, J.type, by simp [PySem.W.notFirst]⟩
  · obtain ⟨its, rv, pl, hz⟩ := I.tuple h
    obtain ⟨o, ho, hc, _⟩ := pl
    exact ⟨.type "tuple", fun A Q E s' kk q => wpAny_typeOf_ref (kk _ _ ho) (by rw [hc]; exact q), by simp [PySem.W.notFirst, T.tu]⟩
theorem run_eqO {A : Around} {pins : List (Addr × Obj)} {σ : L2.St} {H : Hp} {s : Shared} {a b : Addr} {Q : VK} (Fo : FnOk X.prog X.w X.K X.mg X.base (L2N.CX X.prog X.w) k f fd ns sp) (hr : Room k A) (hfr : A.frames = X.A.frames) (hb : Binds X.K fd ns []) (I : Inv X pins σ H s)
    (h : sp [.ref a, .ref b] H (fun v H' => ∃ k, v = .bl k ∧ Q (.bl k) H') fun _ _ _ => False) :
    wpAny (model X.prog X.w) A (call (.ref f) [.ref a, .ref b]) (fun u s' => ∃ k H', u = .bool k ∧ Inv X pins σ H' s' ∧ Q (.bl k) H') X.xe s := by
  have e0 : Env0 X.prog X.w X.K X.mg X.base A X.stack s H := by
    have e := I.env0
    exact ⟨by rw [hfr]; exact e.frames, e.mod, e.bs, e.bsz, e.funs, e.frf, e.hok, e.bare⟩
  have hl := Fo.len _ _ _ _ h
  have r2 : Vals [V.ref a, V.ref b] [Value.ref a, Value.ref b] := .cons rfl (.cons rfl .nil)
  refine wpAny_call (codeAny_mono (Fo.run A X.stack s H ⟨[.ref a, .ref b], []⟩ [.ref a, .ref b] [.ref a, .ref b] _ _ hr e0 (by
    have := hb s [.ref a, .ref b] I.kIn (by simpa using hl)
    simpa using this) r2 h) fun r s' hq => ?_)
  cases r with
  | error e =>
    obtain ⟨_, _, _, _, _, _, _, _, _, _, _, _, z⟩ := hq
    exact z.elim
  | ok fl =>
    cases fl with
    | ret u =>
      obtain ⟨z, H', I', rz, k, ez, q⟩ := I.after hq
      subst ez
      cases rz
      exact ⟨k, H', rfl, I', q⟩
    | next => exact False.elim hq
    | brk => exact False.elim hq
    | cont => exact False.elim hq
theorem op_eqO (T : EqC X.K Ca f) (Fo : FnOk X.prog X.w X.K X.mg X.base (L2N.CX X.prog X.w) k f fd ns sp) (hr : Room k X.A) (hb : Binds X.K fd ns []) : OpR X (compareOp .Eq) (rEqO X.K Ca sp false) := by
  intro pins s σ H x y v u Q I rx ry h
  obtain ⟨a, b, dx, fs, rfl, rfl, ha, hy, h⟩ := h
  cases rx
  cases ry
  obtain ⟨mA, J, _⟩ := ins_get I.hok ha
  obtain ⟨od, J, _⟩ := J.look
  obtain ⟨m, hF⟩ := I.fr
  obtain ⟨tb, L1, L2⟩ := type_of_y T I hy
  show wpAny (model X.prog X.w) X.A (richCompare .Eq (.ref a) (.ref b)) (EP X pins σ Q) X.xe s
  refine PySem.W.cmp_K (op := .Eq) hr.units0 hF I.ok.mod.kin J L1 L2 T.eq T.fn ?_
  refine wpAny_mono (run_eqO Fo hr rfl hb I h) (fun v s' q => ?_) fun _ _ e => e
  obtain ⟨k, H', rfl, I', q⟩ := q
  exact ⟨.bl k, H', I', rfl, q⟩
theorem op_neO (T : EqC X.K Ca f) (Fo : FnOk X.prog X.w X.K X.mg X.base (L2N.CX X.prog X.w) k f fd ns sp) (hr : Room (k + 1) X.A) (hb : Binds X.K fd ns []) : OpR X (compareOp .NotEq) (rEqO X.K Ca sp true) := by
  intro pins s σ H x y v u Q I rx ry h
  obtain ⟨a, b, dx, fs, rfl, rfl, ha, hy, h⟩ := h
  cases rx
  cases ry
  obtain ⟨mA, J, _⟩ := ins_get I.hok ha
  obtain ⟨od, J, _⟩ := J.look
  obtain ⟨m, hF⟩ := I.fr
  obtain ⟨tb, L1, L2⟩ := type_of_y T I hy
  show wpAny (model X.prog X.w) X.A (richCompare .NotEq (.ref a) (.ref b)) (EP X pins σ Q) X.xe s
  refine ne_K (by have := hr.units; omega) hF I.ok.mod.kin J L1 L2 T.eq T.fn T.ne T.ob ?_
  refine wpAny_mono (run_eqO (A := X.A.in1) (Q := fun v H' => ∃ k, v = .bl k ∧ Q (.bl (!k)) H') Fo hr.in1 rfl hb I ?_) (fun v s' q => ?_) fun _ _ e => e
  · refine cast ?_ h
    congr
    funext v H'
    refine propext ⟨fun ⟨k, e, q⟩ => ⟨k, e, k, rfl, q⟩, fun ⟨k, e, k', e', q⟩ => ⟨k, e, ?_⟩⟩
    cases e'
    exact q
  · obtain ⟨k, H', rfl, I', k', e, q⟩ := q
    cases e
    exact ⟨k, rfl, .bl (!k), H', I', rfl, q⟩
end
def eqY (c : Nat) : PV → Bool
  | .ins c'' _ => decide (c'' = c)
  | .tup _ => true
  | _ => false
def eqoK (c : Nat) (Fn : List PV → R OV) (neg : Bool) (p q : PV) : R PV := match p with
  | .ins c' _ => if c' = c ∧ eqY c q = true then (match Fn [p, q] with
      | .ok (.sh (.bl b)) => .ok (.bl (if neg then !b else b))
      | _ => .no) else .no
  | _ => .no
def eEqO (neg : Bool) (c : Nat) (Fn : List PV → R OV) (fa fb : Env → R PV) : Env → R PV := fun ρ => (fa ρ).bind fun p => (fb ρ).bind fun q => eqoK c Fn neg p q
section
variable {C : Fc} {W : WX} {m : Bool} {X : Cx} {a b : Expr} {pos : Pos} {f : Addr} {fd : FuncData} {ns : List Str} {k c : Nat} {Fn : List PV → R OV} {fa fb : Env → R PV} {σ : L2.St} {H : Hp} {neg : Bool}
theorem eqo_go (hK : X.K = C.G.K) {Q : VK} (h : tE C W m (eEqO neg c Fn fa fb) σ H Q) : tE C W m fa σ H fun x H1 => tE C W m fb σ H1 fun y H2 => rEqO X.K (C.G.CA c) (spP C.G Fn) neg x y H2 Q := by
  rw [tE_iff] at h ⊢
  obtain ⟨H₀, F, ρ, S, h⟩ := h
  unfold eEqO at h
  rw [Goes.bind] at h
  refine ⟨H₀, F, ρ, S, h.imp fun p _ h1 v H1 H₁ E1 r1 => ?_⟩
  clear h
  rw [Goes.bind] at h1
  rw [tE_iff]
  have S1 := S.ext E1
  refine ⟨H₁, F, ρ, S1, (h1.later E1).imp fun q _ h w H2 H₂ E2 r2 => ?_⟩
  clear h1
  have S2 := S1.ext E2
  have r1 := Rep.mono (md_ext E2) r1
  have E := E1.trans E2
  unfold eqoK at h
  cases p with
  | ins c' fs =>
    dsimp only at h
    by_cases hc : c' = c ∧ eqY c q = true
    rotate_left
    · rw [if_neg hc] at h
      exact h.elim
    rw [if_pos hc] at h
    obtain ⟨hc1, hc2⟩ := hc
    subst hc1
    have r1' := r1
    simp only [Rep] at r1'
    obtain ⟨a', dx, vs, e1, e2, e3⟩ := r1'
    have yk : ∃ b', w = .ref b' ∧ ((∃ dy gs, H2 b' = some (.ins (C.G.CA c') dy gs)) ∨ ∃ xs, SqT X.K H2 b' xs) := by
      cases q with
      | ins c'' gs =>
        have hc3 : c'' = c' := by simpa [eqY] using hc2
        subst hc3
        have r2' := r2
        simp only [Rep] at r2'
        obtain ⟨b', dy, ws, g1, g2, g3⟩ := r2'
        exact ⟨b', g1, .inl ⟨dy, ws, md_H S2.z _ _ g2⟩⟩
      | tup l =>
        have r2' := r2
        simp only [Rep] at r2'
        obtain ⟨b', xs, g1, g2, g3⟩ := r2'
        exact ⟨b', g1, .inr ⟨xs, by rw [hK]; exact Same.seqT (md_H S2.z) g2⟩⟩
      | _ => simp [eqY] at hc2
    obtain ⟨b', g1, g2⟩ := yk
    subst e1 g1
    cases eF : Fn [.ins c' fs, q] with
    | er z => rw [eF] at h; exact h.elim
    | no => rw [eF] at h; exact h.elim
    | ok o =>
      rw [eF] at h
      match o, eF, h with
      | .sh (.bl bb), eF, h =>
        refine ⟨a', b', dx, vs, rfl, rfl, md_H S2.z _ _ e2, g2, md m H₂ H2 F, [.ins c' fs, q], md_H S2.z, Reps.cons r1 (Reps.one r2), ?_⟩
        rw [eF]
        intro v H' Hc Fv Ec ro nd fr
        obtain ⟨H₀', E', c1, c2, c3⟩ := cap S2 Ec
        simp only [OwnR, Rep] at ro
        exact ⟨bb, ro.1, h _ H' H₀' (E.trans E') (by simp only [Rep])⟩
      | .sh .non, eF, h => exact (show False from h).elim
      | .sh (.int _), eF, h => exact (show False from h).elim
      | .sh (.str _), eF, h => exact (show False from h).elim
      | .sh (.lst _), eF, h => exact (show False from h).elim
      | .sh (.scr _), eF, h => exact (show False from h).elim
      | .sh (.tup _), eF, h => exact (show False from h).elim
      | .sh (.ins _ _), eF, h => exact (show False from h).elim
      | .own _, eF, h => exact (show False from h).elim
      | .obj _ _, eF, h => exact (show False from h).elim
  | _ => exact (show False from h).elim
theorem tst_go' {f : Env → R PV} {Q : Bool → Hp → Prop} (h : tTt C W (eTst f) σ H Q) : tE C W m f σ H fun x H' => ∃ k, x = .bl k ∧ Q k H' := tst_go h
theorem qEqO (hK : X.K = C.G.K) (Fo : FnOk X.prog X.w X.K X.mg X.base (L2N.CX X.prog X.w) k f fd ns (spP C.G Fn)) (T : EqC X.K (C.G.CA c) f) (hr : Room k X.A) (hb : Binds X.K fd ns []) (ha : QE C W m X a fa) (hb' : QE C W m X b fb) (hm : behindInMarks .Eq b = false := by first | exact nomark _ | rfl) :
    QE C W m X (.Compare a [.Eq] [b] pos) (eEqO false c Fn fa fb) := PE.imp (pe_cmpR (op_eqO T Fo hr hb) ha hb' hm) fun σ H Q h => eqo_go hK h
theorem qNeO (hK : X.K = C.G.K) (Fo : FnOk X.prog X.w X.K X.mg X.base (L2N.CX X.prog X.w) k f fd ns (spP C.G Fn)) (T : EqC X.K (C.G.CA c) f) (hr : Room (k + 1) X.A) (hb : Binds X.K fd ns []) (ha : QE C W m X a fa) (hb' : QE C W m X b fb) (hm : behindInMarks .NotEq b = false := by first | exact nomark _ | rfl) :
    QE C W m X (.Compare a [.NotEq] [b] pos) (eEqO true c Fn fa fb) := PE.imp (pe_cmpR (op_neO T Fo hr hb) ha hb' hm) fun σ H Q h => eqo_go hK h
theorem tEqO (hK : X.K = C.G.K) (Fo : FnOk X.prog X.w X.K X.mg X.base (L2N.CX X.prog X.w) k f fd ns (spP C.G Fn)) (T : EqC X.K (C.G.CA c) f) (hr : Room k X.A) (hb : Binds X.K fd ns []) (ha : QE C W m X a fa) (hb' : QE C W m X b fb) (hm : behindInMarks .Eq b = false := by first | exact nomark _ | rfl) :
    QT C W X (.Compare a [.Eq] [b] pos) (eTst (eEqO false c Fn fa fb)) := PT.imp (pt_cmpR (op_eqO T Fo hr hb) ha hb' hm) fun σ H Q h => eqo_go (m := m) hK (tst_go' h)
theorem tNeO (hK : X.K = C.G.K) (Fo : FnOk X.prog X.w X.K X.mg X.base (L2N.CX X.prog X.w) k f fd ns (spP C.G Fn)) (T : EqC X.K (C.G.CA c) f) (hr : Room (k + 1) X.A) (hb : Binds X.K fd ns []) (ha : QE C W m X a fa) (hb' : QE C W m X b fb) (hm : behindInMarks .NotEq b = false := by first | exact nomark _ | rfl) :
    QT C W X (.Compare a [.NotEq] [b] pos) (eTst (eEqO true c Fn fa fb)) := PT.imp (pt_cmpR (op_neO T Fo hr hb) ha hb' hm) fun σ H Q h => eqo_go (m := m) hK (tst_go' h)
/-! ### list(range(n)) -/
def bLstR : List PV → R OV
  | [.int n] => if 0 ≤ n ∧ n ≤ 1000000 then .ok (.own ((rngP 0 n.toNat).map .sh)) else .no
  | _ => .no
theorem reps_rng {G : Gc} {Hv : Hp} {n : Int} : Reps G Hv (rngP 0 n.toNat) (rgV 0 n) := by
  unfold rngP rgV
  rw [show (n - 0).toNat = n.toNat by simp]
  generalize List.range n.toNat = l
  induction l with
  | nil => exact Reps.nil
  | cons i l ih => exact Reps.cons (by simp only [Rep]) ih
theorem qListR {e : Expr} {p pos p2 pos2 : Pos} {fe : Env → R PV} (hc : X.calm = true) (hm : X.mg "list" = none) (hm2 : X.mg "range" = none) (he : QE C W true X e fe) (hg : Gl X "list" := by rfl) (hg2 : Gl X "range" := by rfl) (na : starEach [e] X.env = (false, eval e X.env) :: starEach [] X.env := by rfl)
    (na2 : starEach [.Call (.Name "range" p2) [e] [] pos2] X.env = (false, eval (.Call (.Name "range" p2) [e] [] pos2) X.env) :: starEach [] X.env := by rfl) : QF C W X (.Call (.Name "list" p) [.Call (.Name "range" p2) [e] [] pos2] [] pos) (fB bLstR (aCons fe aNil)) := by
  refine PE.imp (pe_listRg hc hg hm (prg_1 hg2 hm2 he na) na2) fun σ H Q h => ?_
  show tE C W true fe σ H fun x H1 => ∃ n, x = .int n ∧ RgOk 0 n ∧ ∀ q, H1 q = none → Q (.ref q) (upd H1 q (.lst (rgV 0 n)))
  rw [tF_iff] at h
  rw [tE_iff]
  obtain ⟨H₀, F, ρ, S, h⟩ := h
  unfold fB aCons aNil at h
  rw [Goes.bind, Goes.bind] at h
  refine ⟨H₀, F, ρ, S, h.imp fun p _ h v H1 H₁ E1 r1 => ?_⟩
  have h : Goes C.G W (bLstR [p]) σ H H₀ fun o => ∀ v H' H₀' Fv, Ext H₀ H H₀' H' → OwnR C.G H₀' H' o v Fv → Fv.Nodup → (∀ a ∈ Fv, H a = none ∧ H₀' a = none) → Q v H' := h
  unfold bLstR at h
  cases p with
  | int n =>
    dsimp only at h
    by_cases hn : 0 ≤ n ∧ n ≤ 1000000
    · rw [if_pos hn] at h
      simp only [Rep] at r1
      refine ⟨n, r1, RgOk.of_le (Int.le_refl _) (by omega) (by omega) hn.1, fun q hq => ?_⟩
      obtain ⟨E3, o3, n3, f3⟩ := own_new (C := C) E1.z hq (reps_rng (G := C.G) (Hv := H₁) (n := n))
      exact h _ _ _ _ (E1.trans E3) o3 n3 fun c hc => ⟨Same.free E1.s (f3 c hc).1, (f3 c hc).2⟩
    · rw [if_neg hn] at h
      exact h.elim
  | _ => exact (show False from h).elim
end
/-! ### small helps -/
theorem fxo_none {G : Gc} {He Hz Hx : Hp} {i : Nat} : fxOk ⟨G, He, Hz, none, Hx⟩ i := fun _ _ z => nomatch z
theorem fxo_some {G : Gc} {He Hz Hx : Hp} {i j : Nat} {v : V} (h : j ≠ i) : fxOk ⟨G, He, Hz, some (j, v), Hx⟩ i := fun j' v' z => by
  have z : (j, v) = (j', v') := Option.some.inj z
  cases z
  exact h
theorem fxs_none {G : Gc} {He Hz Hx : Hp} {l : List Nat} : ∀ i ∈ l, fxOk ⟨G, He, Hz, none, Hx⟩ i := fun _ _ => fxo_none
theorem fxs_some {G : Gc} {He Hz Hx : Hp} {l : List Nat} {j : Nat} {v : V} (h : j ∉ l) : ∀ i ∈ l, fxOk ⟨G, He, Hz, some (j, v), Hx⟩ i := fun i hi => fxo_some fun z => h (z ▸ hi)
/-- a name that an inner block takes, as a comprehension's target -/
theorem lcNameC {C : Fc} {X : Cx} {pos : Pos} {scope : Scope} {i : Nat} {x : Str} (hx : fxOk C i) (hN : X.N.Nodup) (hi : X.N[i]? = some x) (hl : ∀ c cl, (compEnvC scope cl c X.env).scope.names.lookup x = some .cell) (hc : (scope.names.lookup x == some .cell) = true) :
    ∃ g : TG, (∀ (s : Shared) (H : Hp) (c : Addr) (cl : List (Str × Addr)) (fp : List Addr), PG (X.blk s H scope (compEnvC scope cl c X.env) fp) (.Name x pos) g) ∧ ∀ (p : PV) (v : V) (H₀ : Hp) (F : List Addr) (ρ ρ' : Env) (σ : L2.St) (H : Hp) (Q : L2.St → Hp → Prop), SR C H₀ F ρ σ H → Rep C.G H₀ p v → tgS (.nm i) p ρ = .ok ρ' → (∀ σ' F', SR C H₀ F' ρ' σ' H → (∀ vs, (∀ j ∈ (Tg.nm i).slots, j ∈ vs) → wipe σ' vs = wipe σ vs) → Q σ' H) → g v σ H Q :=
  ⟨gName i, fun s H c cl fp => pg_name hN hi (.inr (hl c cl)) (.inl hc), fun p v H₀ F ρ ρ' σ H Q S r e k => by
    simp only [tgS] at e
    cases e
    obtain ⟨F', S'⟩ := S.sh r hx
    exact k _ F' S' fun vs hv => wipe_set (hv i (by simp [Tg.slots]))⟩
/-- isinstance of a built-in class, of what is no instance of an own class -/
def tbT (t : String) : String → Option Bool := fun s => if s = "NoneType" ∨ s = "bool" ∨ s = "int" ∨ s = "str" ∨ s = "list" ∨ s = "tuple" then kitB s t else none
theorem tbT_ok {t : String} : ∀ s b, tbT t s = some b → kitB s t = some b := fun s b h => by
  unfold tbT at h
  split at h
  · exact h
  · cases h
def ibN : Nat → Option Bool := fun _ => none
theorem ibN_ok {P : Nat → Bool → Prop} : ∀ c b, ibN c = some b → P c b := fun _ _ h => nomatch h
theorem hotc {X : Cx} {a : Addr} {ob : Obj} {cls : Value} {d : Option Addr} {pl : List (Addr × Obj)} (hz : L2N.Zn cls d ob) (hf : ∃ vs, ob.data = .fields vs) : L2H.HotC (X.suite a ((a, ob) :: pl)) :=
  let ⟨vs, e⟩ := hf
  ⟨(a, ob), ⟨rfl, vs, e, hz.2.2 vs e⟩, List.mem_cons_self⟩
theorem room_mark {k : Nat} {A : Around} {h : Option Value} (r : L2H.RoomH k A) : L2H.RoomH k (A.mark h) := ⟨r.dp, r.un⟩
theorem hu_of {k : Nat} {A : Around} (r : Room k A) : A.units + 65 < cLine := by have := r.un; omega
theorem huH_of {k : Nat} {A : Around} (r : L2H.RoomH k A) : A.units + 65 < cLine := by have := r.un; omega
theorem dep_of {k : Nat} {A : Around} (r : Room k A) : A.depth + 1 < recursionLimit := by have := r.dp; omega
end L3

/-! L3. 15: the head's facts, more of them -/
namespace X4
open PySem PySem.Spec PyProof.Rows L2 He
def eqcB (x : Str) : Ck := fun K => eqO (PySem.W.findIn K (.ref (ga K x)) "__eq__") (some (some (.ref (ma K (ga K x) "__eq__")))) && (PySem.W.isFn K (.ref (ma K (ga K x) "__eq__")) && (eqO (PySem.W.findIn K (.ref (ga K x)) "__ne__") (some (some (.builtin "object.__ne__"))) &&
  (decide (PySem.W.subIn K (.ref (ga K x)) (.type "object") = some true) && decide (PySem.W.subIn K (.type "tuple") (.ref (ga K x)) = some false))))
theorem eqc_ok {K : PySem.W.Frag} {x : Str} (c : eqcB x K = true) : L3.EqC K (ga K x) (ma K (ga K x) "__eq__") := by
  obtain ⟨c1, c⟩ := ba c
  obtain ⟨c2, c⟩ := ba c
  obtain ⟨c3, c⟩ := ba c
  obtain ⟨c4, c5⟩ := ba c
  exact ⟨eqO_ok c1, c2, eqO_ok c3, of_decide_eq_true c4, of_decide_eq_true c5⟩
def xfCk (x : Str) : Ck := fun K => L2.xfB K (ga K x)
theorem xfc_ok {K : PySem.W.Frag} {x : Str} (c : xfCk x K = true) : XfC K (ga K x) := xfB_ok c
def exiC (x : Str) : Ck := fun K => exiB K (ga K x)
def kitRR (x y : Str) (b : Bool) : Ck := fun K => decide (PySem.W.kitOne K (.ref (ga K x)) (.ref (ga K y)) = some b)
def kitTR (t : String) (y : Str) (b : Bool) : Ck := fun K => decide (PySem.W.kitOne K (.type t) (.ref (ga K y)) = some b)
theorem kitRR_ok {K : PySem.W.Frag} {x y : Str} {b : Bool} (c : kitRR x y b K = true) : PySem.W.kitOne K (.ref (ga K x)) (.ref (ga K y)) = some b := of_decide_eq_true c
theorem kitTR_ok {K : PySem.W.Frag} {t : String} {y : Str} {b : Bool} (c : kitTR t y b K = true) : PySem.W.kitOne K (.type t) (.ref (ga K y)) = some b := of_decide_eq_true c
theorem exmB_ok {K : PySem.W.Frag} {x y : Str} {b : Bool} (c : exmB x y b K = true) : PySem.W.exmOne K (.ref (ga K x)) (.ref (ga K y)) = some b := of_decide_eq_true c
def tupC (x : Str) (vs : List Dv) : Ck := fun K => tupB K x vs
/-- all defs at once -/
theorem SaysX.defs {fs : List Ck} {fn : List DefD} {sx : List SupD} {K : PySem.W.Frag} (c : SaysX fs fn sx K) (h0 : 0 < fn.length) : ∃ fd : Nat → FuncData, ∀ (i : Nat) (d : DefD), fn[i]? = some d → FunD K d.name d.qual d.params d.body d.scope (d.dvs K) (d.kws K) (fAd K d.at_) (fd i) := by
  obtain ⟨f0, _⟩ := c.def_ 0 (d := fn[0]) (by rw [List.getElem?_eq_getElem h0])
  have key : ∀ i : Nat, ∃ f : FuncData, ∀ d : DefD, fn[i]? = some d → FunD K d.name d.qual d.params d.body d.scope (d.dvs K) (d.kws K) (fAd K d.at_) f := by
    intro i
    cases e : fn[i]? with
    | none => exact ⟨f0, fun d h => nomatch h⟩
    | some d0 =>
      obtain ⟨f, hf⟩ := c.def_ i e
      exact ⟨f, fun d h => by cases h; exact hf⟩
  exact ⟨fun i => (key i).choose, fun i => (key i).choose_spec⟩
theorem binds_all {K : PySem.W.Frag} {x qual : Str} {params : Arguments} {body : List Stmt} {scope : Scope} {dvs : List V} {kws : List (Str × V)} {f : Addr} {fd : FuncData} {ps : List Str} (F : FunD K x qual params body scope dvs kws f fd) (hd : dvs ≠ [])
    (h : ∀ (T : Addr) (kV doc pm : Value) (an : Option Addr) (cdv ct : Value) (us its : List Value), us.length = ps.length → its.length = dvs.length →
      ∃ k, bindArgs (PySem.W.fnOf x qual params body scope (.ref T) kV doc pm an cdv ct) ⟨us, []⟩ = seqItems? (.ref T) >>= k ∧ k (some its.toArray) = pure (ps.zip us)) : Vals [] [] ∧ Binds K fd ps [] := by
  obtain ⟨ds, h1, h2⟩ := FunD.binds1 (ps := ps) F ps.length dvs.length hd (by simp) fun T kV doc pm an cdv ct us its hu hi => by
    obtain ⟨k, e1, e2⟩ := h T kV doc pm an cdv ct us its hu hi
    exact ⟨k, e1, by rw [e2, List.drop_eq_nil_of_le (by omega), List.append_nil]⟩
  rw [List.drop_eq_nil_of_le (Nat.le_refl _)] at h1
  cases h1
  exact ⟨.nil, h2⟩
end X4

/-! L3. 16: the plain functions, reckoned by simp -/
namespace L3
open PySem PySem.Spec PyProof.Rows L2
/-- a proof by computing that simp is to name -/
theorem nr {α : Sort _} {a b : α} (h : a = b) : a = b := h
/-! ### one thing after another: every rule has its continuation by name, so that simp never looks under a binder -/
section
variable {ρ ρ' : Env} {fa fb : Env → R PV} {c d : Env → R Bool} {s t : Env → RS} {fas : Env → R (List PV)} {fo go : Env → R OV} {fm : Env → R (OV × Env)} {p q : PV} {o : OV} {i j : Nat} {x : PX}
def seqS : RS → (Env → RS) → RS
  | .nx ρ, g => g ρ
  | r, _ => r
@[simp] theorem seqS_nx : seqS (.nx ρ) s = s ρ := nr rfl
@[simp] theorem seqS_rt : seqS (.rt o) s = .rt o := nr rfl
@[simp] theorem seqS_bk : seqS (.bk ρ) s = .bk ρ := nr rfl
@[simp] theorem seqS_ct : seqS (.ct ρ) s = .ct ρ := nr rfl
@[simp] theorem seqS_er : seqS (.er x ρ) s = .er x ρ := nr rfl
@[simp] theorem sSeq_at : sSeq s t ρ = seqS (s ρ) t := by unfold sSeq; cases s ρ <;> rfl
@[simp] theorem sNx_at : sNx ρ = .nx ρ := nr rfl
@[simp] theorem sBk_at : sBk ρ = .bk ρ := nr rfl
@[simp] theorem sCt_at : sCt ρ = .ct ρ := nr rfl
def ifS : R Bool → (Env → RS) → (Env → RS) → Env → RS
  | .ok k, s, t, ρ => if k = true then s ρ else t ρ
  | .er x, _, _, ρ => .er x ρ
  | .no, _, _, _ => .no
@[simp] theorem ifS_true : ifS (.ok true) s t ρ = s ρ := nr rfl
@[simp] theorem ifS_false : ifS (.ok false) s t ρ = t ρ := nr rfl
@[simp] theorem ifS_er : ifS (.er x) s t ρ = .er x ρ := nr rfl
@[simp] theorem sIf_at : sIf c s t ρ = ifS (c ρ) s t ρ := by unfold sIf; cases c ρ <;> rfl
def setS (i : Nat) : R (OV × Env) → Env → RS
  | .ok q, _ => .nx (q.2.set i (some q.1))
  | .er x, ρ => .er x ρ
  | .no, _ => .no
@[simp] theorem setS_ok : setS i (.ok (o, ρ)) ρ' = .nx (ρ.set i (some o)) := nr rfl
@[simp] theorem setS_er : setS i (.er x) ρ' = .er x ρ' := nr rfl
@[simp] theorem sSet_at : sSet i fm ρ = setS i (fm ρ) ρ := by unfold sSet; cases fm ρ <;> rfl
def rtS : R (OV × Env) → Env → RS
  | .ok q, _ => .rt q.1
  | .er x, ρ => .er x ρ
  | .no, _ => .no
@[simp] theorem rtS_ok : rtS (.ok (o, ρ)) ρ' = .rt o := nr rfl
@[simp] theorem rtS_er : rtS (.er x) ρ' = .er x ρ' := nr rfl
@[simp] theorem sRt_at : sRt fm ρ = rtS (fm ρ) ρ := by unfold sRt; cases fm ρ <;> rfl
@[simp] theorem sRtN_at : sRtN ρ = .rt (.sh .non) := nr rfl
def doS {α : Type} : R α → Env → RS
  | .ok _, ρ => .nx ρ
  | .er x, ρ => .er x ρ
  | .no, _ => .no
@[simp] theorem doS_ok {α : Type} {a : α} : doS (.ok a) ρ = .nx ρ := nr rfl
@[simp] theorem doS_er {α : Type} : doS (.er x : R α) ρ = .er x ρ := nr rfl
@[simp] theorem sDo_at {α : Type} {f : Env → R α} : sDo f ρ = doS (f ρ) ρ := by unfold sDo; cases f ρ <;> rfl
def rzS (k : Nat) (fl : Str) : R PV → Env → RS
  | .ok p, ρ => .er ⟨k, [(fl, p)]⟩ ρ
  | .er x, ρ => .er x ρ
  | .no, _ => .no
@[simp] theorem rzS_ok {k : Nat} {fl : Str} : rzS k fl (.ok p) ρ = .er ⟨k, [(fl, p)]⟩ ρ := nr rfl
@[simp] theorem sRz_at {k : Nat} {fl : Str} : sRz k fl fa ρ = rzS k fl (fa ρ) ρ := by unfold sRz; cases fa ρ <;> rfl
@[simp] theorem sFz_at : sFz i s ρ = s (frz i ρ) := nr rfl
def tgN : R Env → Env → RS
  | .ok ρ', _ => .nx ρ'
  | .er x, ρ => .er x ρ
  | .no, _ => .no
@[simp] theorem tgN_ok : tgN (.ok ρ) ρ' = .nx ρ := nr rfl
def tgG (T : Tg) : R PV → Env → RS
  | .ok p, ρ => tgN (tgS T p ρ) ρ
  | .er x, ρ => .er x ρ
  | .no, _ => .no
@[simp] theorem tgG_ok {T : Tg} : tgG T (.ok p) ρ = tgN (tgS T p ρ) ρ := nr rfl
@[simp] theorem sTg_at {T : Tg} : sTg T fa ρ = tgG T (fa ρ) ρ := by
  unfold sTg
  cases fa ρ with
  | ok p =>
    show (tgS T p ρ).to ρ _ = tgN _ _
    cases tgS T p ρ <;> rfl
  | er x => rfl
  | no => rfl
def parS (i j : Nat) : R (List PV) → Env → RS
  | .ok [p, q], ρ => .nx ((ρ.set i (some (.sh p))).set j (some (.sh q)))
  | .ok _, _ => .no
  | .er x, ρ => .er x ρ
  | .no, _ => .no
@[simp] theorem parS_ok : parS i j (.ok [p, q]) ρ = .nx ((ρ.set i (some (.sh p))).set j (some (.sh q))) := nr rfl
@[simp] theorem sPar_at (h : ∃ p q, fas ρ = .ok [p, q]) : sPar i j fas ρ = parS i j (fas ρ) ρ := by
  obtain ⟨p, q, h⟩ := h
  unfold sPar
  rw [h]
  rfl
def forS (T : Tg) (fg : List Nat) (s : Env → RS) : R (List PV) → Env → RS
  | .ok ps, ρ => forGo T fg s ps (wipeE ρ fg)
  | .er x, ρ => .er x ρ
  | .no, _ => .no
@[simp] theorem forS_ok {T : Tg} {fg : List Nat} {ps : List PV} : forS T fg s (.ok ps) ρ = forGo T fg s ps (wipeE ρ fg) := nr rfl
@[simp] theorem sFor_at {T : Tg} {fg : List Nat} {fi : Env → R (List PV)} : sFor T fg fi s ρ = forS T fg s (fi ρ) ρ := by unfold sFor; cases fi ρ <;> rfl
@[simp] theorem sWhile_at {fu : Env → Nat} {fg : List Nat} : sWhile fu fg c s ρ = whGo fg c s (fu ρ) (wipeE ρ fg) := nr rfl
/-! expressions -/
@[simp] theorem eVar_zero {ρ : Env} : eVar 0 (some (.sh p) :: ρ) = .ok p := nr rfl
@[simp] theorem eVar_succ {x : Option OV} {ρ : Env} : eVar (i + 1) (x :: ρ) = eVar i ρ := nr rfl
@[simp] theorem eOwn_zero {ρ : Env} : eOwn 0 (some o :: ρ) = .ok o.pv := nr rfl
@[simp] theorem eOwn_succ {x : Option OV} {ρ : Env} : eOwn (i + 1) (x :: ρ) = eOwn i ρ := nr rfl
@[simp] theorem eCst_at : eCst p ρ = .ok p := nr rfl
def bin2 (g : PV → PV → R PV) : R PV → R PV → R PV
  | .ok p, .ok q => g p q
  | .ok _, r => r
  | r, _ => r
@[simp] theorem bin2_ok {g : PV → PV → R PV} : bin2 g (.ok p) (.ok q) = g p q := nr rfl
@[simp] theorem bin2_er {g : PV → PV → R PV} {r : R PV} : bin2 g (.er x) r = .er x := nr rfl
@[simp] theorem bin2_er' {g : PV → PV → R PV} : bin2 g (.ok p) (.er x) = .er x := nr rfl
@[simp] theorem eBin_at {g : PV → PV → R PV} : eBin g fa fb ρ = bin2 g (fa ρ) (fb ρ) := by
  unfold eBin
  cases fa ρ <;> cases fb ρ <;> rfl
@[simp] theorem eIdx_at : eIdx fa fb ρ = bin2 idxR (fa ρ) (fb ρ) := eBin_at
def un1 (g : PV → R PV) : R PV → R PV
  | .ok p => g p
  | r => r
@[simp] theorem un1_ok {g : PV → R PV} : un1 g (.ok p) = g p := nr rfl
@[simp] theorem un1_er {g : PV → R PV} : un1 g (.er x) = .er x := nr rfl
@[simp] theorem eUn_at {g : PV → R PV} : eUn g fa ρ = un1 g (fa ρ) := by unfold eUn; cases fa ρ <;> rfl
def tst : R PV → R Bool
  | .ok (.bl b) => .ok b
  | .ok _ => .no
  | .er x => .er x
  | .no => .no
@[simp] theorem tst_bl {b : Bool} : tst (.ok (.bl b)) = .ok b := nr rfl
@[simp] theorem tst_er : tst (.er x) = .er x := nr rfl
@[simp] theorem eTst_at : eTst fa ρ = tst (fa ρ) := by
  unfold eTst
  cases fa ρ with
  | ok p => cases p <;> rfl
  | er x => rfl
  | no => rfl
def tru1 : R PV → R Bool
  | .ok p => truthR p
  | .er x => .er x
  | .no => .no
@[simp] theorem tru1_ok : tru1 (.ok p) = truthR p := nr rfl
@[simp] theorem eTru_at : eTru fa ρ = tru1 (fa ρ) := by unfold eTru; cases fa ρ <;> rfl
def andR : R Bool → R Bool → R Bool
  | .ok k, r => if k = true then r else .ok false
  | r, _ => r
@[simp] theorem andR_true {r : R Bool} : andR (.ok true) r = r := nr rfl
@[simp] theorem andR_false {r : R Bool} : andR (.ok false) r = .ok false := nr rfl
@[simp] theorem andR_ok {b k : Bool} : andR (.ok b) (.ok k) = .ok (b && k) := by cases b <;> rfl
@[simp] theorem bAnd_at : bAnd c d ρ = andR (c ρ) (d ρ) := by unfold bAnd; cases c ρ <;> rfl
def orR : R Bool → R Bool → R Bool
  | .ok k, r => if k = true then .ok true else r
  | r, _ => r
@[simp] theorem orR_true {r : R Bool} : orR (.ok true) r = .ok true := nr rfl
@[simp] theorem orR_false {r : R Bool} : orR (.ok false) r = r := nr rfl
@[simp] theorem orR_ok {b k : Bool} : orR (.ok b) (.ok k) = .ok (b || k) := by cases b <;> rfl
@[simp] theorem bOr_at : bOr c d ρ = orR (c ρ) (d ρ) := by unfold bOr; cases c ρ <;> rfl
def notR : R Bool → R Bool
  | .ok k => .ok (!k)
  | r => r
@[simp] theorem notR_ok {b : Bool} : notR (.ok b) = .ok (!b) := nr rfl
@[simp] theorem notR_er : notR (.er x) = .er x := nr rfl
@[simp] theorem bNot_at : bNot c ρ = notR (c ρ) := by unfold bNot; cases c ρ <;> rfl
def andP : R PV → R PV → R PV
  | .ok (.bl k), r => if k = true then r else .ok (.bl false)
  | .ok _, _ => .no
  | r, _ => r
@[simp] theorem andP_true {r : R PV} : andP (.ok (.bl true)) r = r := nr rfl
@[simp] theorem andP_false {r : R PV} : andP (.ok (.bl false)) r = .ok (.bl false) := nr rfl
@[simp] theorem andP_ok {b k : Bool} : andP (.ok (.bl b)) (.ok (.bl k)) = .ok (.bl (b && k)) := by cases b <;> rfl
@[simp] theorem eAnd_at : eAnd fa fb ρ = andP (fa ρ) (fb ρ) := by
  unfold eAnd
  cases fa ρ with
  | ok p => cases p with
    | bl b => cases b <;> rfl
    | _ => rfl
  | er x => rfl
  | no => rfl
def orP : R PV → R PV → R PV
  | .ok (.bl k), r => if k = true then .ok (.bl true) else r
  | .ok _, _ => .no
  | r, _ => r
@[simp] theorem orP_true {r : R PV} : orP (.ok (.bl true)) r = .ok (.bl true) := nr rfl
@[simp] theorem orP_false {r : R PV} : orP (.ok (.bl false)) r = r := nr rfl
@[simp] theorem orP_ok {b k : Bool} : orP (.ok (.bl b)) (.ok (.bl k)) = .ok (.bl (b || k)) := by cases b <;> rfl
@[simp] theorem eOr_at : eOr fa fb ρ = orP (fa ρ) (fb ρ) := by
  unfold eOr
  cases fa ρ with
  | ok p => cases p with
    | bl b => cases b <;> rfl
    | _ => rfl
  | er x => rfl
  | no => rfl
def notP : R PV → R PV
  | .ok (.bl b) => .ok (.bl (!b))
  | .ok _ => .no
  | r => r
@[simp] theorem notP_ok {b : Bool} : notP (.ok (.bl b)) = .ok (.bl (!b)) := nr rfl
@[simp] theorem eNot_at : eNot fa ρ = notP (fa ρ) := by
  unfold eNot
  cases fa ρ with
  | ok p => cases p <;> rfl
  | er x => rfl
  | no => rfl
def ifR {α : Type} : R Bool → R α → R α → R α
  | .ok k, r, r' => if k = true then r else r'
  | .er x, _, _ => .er x
  | .no, _, _ => .no
@[simp] theorem ifR_true {α : Type} {r r' : R α} : ifR (.ok true) r r' = r := nr rfl
@[simp] theorem ifR_false {α : Type} {r r' : R α} : ifR (.ok false) r r' = r' := nr rfl
theorem ifR_ok {α : Type} {b : Bool} {u v : α} : ifR (.ok b) (.ok u) (.ok v) = .ok (if b = true then u else v) := by cases b <;> rfl
@[simp] theorem ifR_int {b : Bool} {u v : Int} : ifR (.ok b) (.ok (PV.int u)) (.ok (PV.int v)) = .ok (PV.int (if b = true then u else v)) := by cases b <;> rfl
@[simp] theorem eIf_at : eIf c fa fb ρ = ifR (c ρ) (fa ρ) (fb ρ) := by unfold eIf; cases c ρ <;> rfl
def cons2 : R PV → R (List PV) → R (List PV)
  | .ok p, .ok ps => .ok (p :: ps)
  | .ok _, r => r
  | .er x, _ => .er x
  | .no, _ => .no
@[simp] theorem cons2_ok {ps : List PV} : cons2 (.ok p) (.ok ps) = .ok (p :: ps) := nr rfl
@[simp] theorem cons2_er {r : R (List PV)} : cons2 (.er x) r = .er x := nr rfl
@[simp] theorem aNil_at : aNil ρ = .ok [] := nr rfl
@[simp] theorem aCons_at : aCons fa fas ρ = cons2 (fa ρ) (fas ρ) := by
  unfold aCons
  cases fa ρ <;> cases fas ρ <;> rfl
def app1 {α β : Type} (g : α → R β) : R α → R β
  | .ok a => g a
  | .er x => .er x
  | .no => .no
@[simp] theorem app1_ok {α β : Type} {g : α → R β} {a : α} : app1 g (.ok a) = g a := nr rfl
@[simp] theorem app1_er {α β : Type} {g : α → R β} : app1 g (.er x) = .er x := nr rfl
theorem bind_app {α β : Type} {r : R α} {g : α → R β} : r.bind g = app1 g r := by cases r <;> rfl
@[simp] theorem eTup_at : eTup fas ρ = app1 mkTup (fas ρ) := bind_app
@[simp] theorem fLst_at : fLst fas ρ = app1 mkLst (fas ρ) := bind_app
def fz1 : R OV → R PV
  | .ok o => .ok o.pv
  | .er x => .er x
  | .no => .no
@[simp] theorem fz1_ok : fz1 (.ok o) = .ok o.pv := nr rfl
@[simp] theorem fz1_er : fz1 (.er x) = .er x := nr rfl
@[simp] theorem eFz_at : eFz fo ρ = fz1 (fo ρ) := by unfold eFz; cases fo ρ <;> rfl
def sh1 : R PV → R OV
  | .ok p => .ok (.sh p)
  | .er x => .er x
  | .no => .no
@[simp] theorem sh1_ok : sh1 (.ok p) = .ok (.sh p) := nr rfl
@[simp] theorem sh1_er : sh1 (.er x) = .er x := nr rfl
@[simp] theorem fSh_at : fSh fa ρ = sh1 (fa ρ) := by unfold fSh; cases fa ρ <;> rfl
@[simp] theorem eB_at {g : List PV → R PV} : eB g fas ρ = app1 g (fas ρ) := bind_app
@[simp] theorem fB_at {g : List PV → R OV} : fB g fas ρ = app1 g (fas ρ) := bind_app
@[simp] theorem iSeq_at : iSeq fa ρ = app1 seqR (fa ρ) := bind_app
@[simp] theorem iRg_at {g : List PV → R (List PV)} : iRg g fas ρ = app1 g (fas ρ) := bind_app
@[simp] theorem tYesB_at : tYesB ρ = .ok true := nr rfl
def shM : R PV → Env → R (OV × Env)
  | .ok p, ρ => .ok (.sh p, ρ)
  | .er x, _ => .er x
  | .no, _ => .no
@[simp] theorem shM_ok : shM (.ok p) ρ = .ok (.sh p, ρ) := nr rfl
@[simp] theorem shM_er : shM (.er x) ρ = .er x := nr rfl
@[simp] theorem mSh_at : mSh fa ρ = shM (fa ρ) ρ := by unfold mSh; cases fa ρ <;> rfl
def frM : R OV → Env → R (OV × Env)
  | .ok o, ρ => .ok (o, ρ)
  | .er x, _ => .er x
  | .no, _ => .no
@[simp] theorem frM_ok : frM (.ok o) ρ = .ok (o, ρ) := nr rfl
@[simp] theorem frM_er : frM (.er x) ρ = .er x := nr rfl
@[simp] theorem mFr_at : mFr fo ρ = frM (fo ρ) ρ := by unfold mFr; cases fo ρ <;> rfl
def mvC (x : Option OV) : R (OV × Env) → R (OV × Env)
  | .ok q => .ok (q.1, x :: q.2)
  | r => r
@[simp] theorem mvC_ok {y : Option OV} : mvC y (.ok (o, ρ)) = .ok (o, y :: ρ) := nr rfl
@[simp] theorem mMv_zero {ρ : Env} : mMv 0 (some o :: ρ) = .ok (o, none :: ρ) := nr rfl
@[simp] theorem mMv_succ {y : Option OV} {ρ : Env} : mMv (i + 1) (y :: ρ) = mvC y (mMv i ρ) := by
  unfold mMv
  rw [List.getElem?_cons_succ]
  cases h : (ρ[i]? : Option (Option OV)) with
  | none => rfl
  | some z => cases z <;> simp [mvC]
def lst1 : R (List PV) → R OV
  | .ok l => .ok (.own (l.map .sh))
  | .er x => .er x
  | .no => .no
@[simp] theorem lst1_ok {l : List PV} : lst1 (.ok l) = .ok (.own (l.map .sh)) := nr rfl
def opF (g : PV → PV → R (List PV)) : R PV → R PV → R OV
  | .ok p, .ok q => lst1 (g p q)
  | .ok _, .er x => .er x
  | .ok _, .no => .no
  | .er x, _ => .er x
  | .no, _ => .no
@[simp] theorem opF_ok {g : PV → PV → R (List PV)} : opF g (.ok p) (.ok q) = lst1 (g p q) := nr rfl
@[simp] theorem fOp_at {g : PV → PV → R (List PV)} : fOp g fa fb ρ = opF g (fa ρ) (fb ρ) := by
  unfold fOp
  cases fa ρ with
  | ok p =>
    cases fb ρ with
    | ok q =>
      show (g p q).bind _ = lst1 _
      cases g p q <;> rfl
    | er x => rfl
    | no => rfl
  | er x => rfl
  | no => rfl
def flat1 : R PV → R PV
  | .ok p => if p.flat = true then .ok p else .no
  | r => r
@[simp] theorem flat1_ok (h : p.flat = true) : flat1 (.ok p) = .ok p := if_pos h
@[simp] theorem flat1_er : flat1 (.er x) = .er x := nr rfl
@[simp] theorem eFlat_at : eFlat fa ρ = flat1 (fa ρ) := by unfold eFlat; cases fa ρ <;> rfl
def call1 (m : Bool) (Fn : List PV → R OV) (dps : List PV) : R (List PV) → R OV
  | .ok ps => capR m (Fn (ps ++ dps))
  | .er x => .er x
  | .no => .no
@[simp] theorem call1_ok {m : Bool} {Fn : List PV → R OV} {dps ps : List PV} : call1 m Fn dps (.ok ps) = capR m (Fn (ps ++ dps)) := nr rfl
@[simp] theorem fCall_at {m : Bool} {Fn : List PV → R OV} {dps : List PV} : fCall m Fn dps fas ρ = call1 m Fn dps (fas ρ) := by unfold fCall; cases fas ρ <;> rfl
theorem capR_flat {m : Bool} (h : o.flat = true) : capR m (.ok o) = .ok o := if_pos (.inr h)
theorem capR_flat_er {m : Bool} (h : PV.flatf x.fs = true) : capR m (.er x) = .er x := if_pos (.inr h)
def meth1 (m : Bool) (k : Nat) (mth : Str) (Fn : List PV → R OV) (dps : List PV) : R PV → R (List PV) → R OV
  | .ok (.ins c' fs), r => if c' = k ∧ fs.lookup mth = none then (match r with
    | .ok ps => capR m (Fn (.ins c' fs :: (ps ++ dps)))
    | .er x => .er x
    | .no => .no) else .no
  | .ok _, _ => .no
  | .er x, _ => .er x
  | .no, _ => .no
@[simp] theorem meth1_ins {m : Bool} {k c' : Nat} {fs : List (Str × PV)} {mth : Str} {Fn : List PV → R OV} {dps ps : List PV} (h1 : c' = k) (h2 : fs.lookup mth = none) : meth1 m k mth Fn dps (.ok (.ins c' fs)) (.ok ps) = capR m (Fn (.ins c' fs :: (ps ++ dps))) := if_pos ⟨h1, h2⟩
@[simp] theorem fMeth_at {m : Bool} {k : Nat} {mth : Str} {Fn : List PV → R OV} {dps : List PV} : fMeth m k mth Fn dps fa fas ρ = meth1 m k mth Fn dps (fa ρ) (fas ρ) := by
  unfold fMeth
  cases fa ρ with
  | ok p =>
    cases p with
    | ins c' fs =>
      show (if _ then (fas ρ).bind _ else _) = if _ then _ else _
      cases fas ρ <;> rfl
    | _ => rfl
  | er x => rfl
  | no => rfl
def mkO (m : Bool) (k : Nat) : R (List (Str × OV)) → R OV
  | .ok fs => capR m (.ok (.obj k fs))
  | .er x => capR m (.er x)
  | .no => .no
@[simp] theorem mkO_ok {m : Bool} {k : Nat} {fs : List (Str × OV)} : mkO m k (.ok fs) = capR m (.ok (.obj k fs)) := nr rfl
@[simp] theorem mkO_er {m : Bool} {k : Nat} : mkO m k (.er x) = capR m (.er x) := nr rfl
def make1 (m : Bool) (k : Nat) (FI : List PV → R (List (Str × OV))) (dps : List PV) : R (List PV) → R OV
  | .ok ps => mkO m k (FI (ps ++ dps))
  | .er x => .er x
  | .no => .no
@[simp] theorem make1_ok {m : Bool} {k : Nat} {FI : List PV → R (List (Str × OV))} {dps ps : List PV} : make1 m k FI dps (.ok ps) = mkO m k (FI (ps ++ dps)) := nr rfl
@[simp] theorem fMake_at {m : Bool} {k : Nat} {FI : List PV → R (List (Str × OV))} {dps : List PV} : fMake m k FI dps fas ρ = make1 m k FI dps (fas ρ) := by
  unfold fMake
  cases fas ρ with
  | ok ps =>
    show capR m ((FI (ps ++ dps)).bind _) = mkO m k _
    cases FI (ps ++ dps) <;> rfl
  | er x => rfl
  | no => rfl
def fldR (f : Str) (ok : Nat → Bool) : R PV → R PV
  | .ok (.ins c fs) => if ok c then R.of (fs.lookup f) else .no
  | .ok _ => .no
  | r => r
@[simp] theorem fldR_ins {f : Str} {ok : Nat → Bool} {k : Nat} {fs : List (Str × PV)} (h : ok k = true) : fldR f ok (.ok (.ins k fs)) = R.of (fs.lookup f) := if_pos h
@[simp] theorem eFld_at {f : Str} {ok : Nat → Bool} : eFld f ok fa ρ = fldR f ok (fa ρ) := by
  unfold eFld
  cases fa ρ with
  | ok p => cases p <;> rfl
  | er x => rfl
  | no => rfl
@[simp] theorem eIsi_at {tb : String → Option Bool} {ib : Nat → Option Bool} : eIsi tb ib fa ρ = un1 (isiP tb ib) (fa ρ) := eUn_at
def sl3 : R PV → R (Option Int) → R (Option Int) → R PV
  | .ok p, .ok l, .ok h => slR p l h
  | .ok _, .ok _, .er x => .er x
  | .ok _, .er x, _ => .er x
  | .er x, _, _ => .er x
  | _, _, _ => .no
@[simp] theorem sl3_ok {l h : Option Int} : sl3 (.ok p) (.ok l) (.ok h) = slR p l h := nr rfl
@[simp] theorem eSl_at {l h : Env → R (Option Int)} : eSl fa l h ρ = sl3 (fa ρ) (l ρ) (h ρ) := by
  unfold eSl
  cases fa ρ <;> cases l ρ <;> cases h ρ <;> rfl
@[simp] theorem oNone_at : oNone ρ = .ok none := nr rfl
def oInt1 : R PV → R (Option Int)
  | .ok (.int i) => .ok (some i)
  | .ok _ => .no
  | .er x => .er x
  | .no => .no
@[simp] theorem oInt1_int {i : Int} : oInt1 (.ok (.int i)) = .ok (some i) := nr rfl
@[simp] theorem oSome_at : oSome fa ρ = oInt1 (fa ρ) := by
  unfold oSome
  cases fa ρ with
  | ok p => cases p <;> rfl
  | er x => rfl
  | no => rfl
def isN1 (neg : Bool) : R PV → R PV
  | .ok p => .ok (.bl (isN p != neg))
  | r => r
@[simp] theorem isN1_ok {neg : Bool} : isN1 neg (.ok p) = .ok (.bl (isN p != neg)) := nr rfl
@[simp] theorem eIsN_at : eIsN fa ρ = isN1 false (fa ρ) := by unfold eIsN; cases fa ρ <;> simp [isN1]
@[simp] theorem eNotN_at : eNotN fa ρ = isN1 true (fa ρ) := by unfold eNotN; cases fa ρ <;> simp [isN1]
@[simp] theorem isN_non : isN .non = true := nr rfl
@[simp] theorem isN_int {i : Int} : isN (.int i) = false := nr rfl
@[simp] theorem isN_tup {l : List PV} : isN (.tup l) = false := nr rfl
@[simp] theorem eEqO_at {neg : Bool} {k : Nat} {Fn : List PV → R OV} : eEqO neg k Fn fa fb ρ = bin2 (eqoK k Fn neg) (fa ρ) (fb ρ) := by
  unfold eEqO
  cases fa ρ <;> cases fb ρ <;> rfl
@[simp] theorem eXf_at {ok : Nat → Bool} {x : PX} {fl : Str} (h : ok x.c = true) : eXf ok x fl ρ = R.of (x.fs.lookup fl) := if_pos h
@[simp] theorem eXi_at {ib : Nat → Option Bool} {x : PX} : eXi ib x ρ = R.of ((ib x.c).map .bl) := nr rfl
def tryS (hs : List Hd) : RS → RS
  | .er x ρ' => handle hs x ρ'
  | r => r
@[simp] theorem tryS_er {hs : List Hd} : tryS hs (.er x ρ) = handle hs x ρ := nr rfl
@[simp] theorem tryS_nx {hs : List Hd} : tryS hs (.nx ρ) = .nx ρ := nr rfl
@[simp] theorem tryS_rt {hs : List Hd} : tryS hs (.rt o) = .rt o := nr rfl
@[simp] theorem tryS_bk {hs : List Hd} : tryS hs (.bk ρ) = .bk ρ := nr rfl
@[simp] theorem tryS_ct {hs : List Hd} : tryS hs (.ct ρ) = .ct ρ := nr rfl
@[simp] theorem sTry_at {hs : List Hd} : sTry s hs ρ = tryS hs (s ρ) := by unfold sTry; cases s ρ <;> rfl
@[simp] theorem handle_nm {m : Nat → Option Bool} {su : PX → Env → RS} {hs : List Hd} (h1 : m x.c = some true) (h3 : i < ρ.length) : handle (⟨m, some i, su⟩ :: hs) x ρ = goneS i (calmS (su x (ρ.set i none))) := by
  unfold handle
  simp only [h1]
  exact if_pos h3
@[simp] theorem handle_bare {m : Nat → Option Bool} {su : PX → Env → RS} {hs : List Hd} (h1 : m x.c = some true) : handle (⟨m, none, su⟩ :: hs) x ρ = calmS (su x ρ) := by
  unfold handle
  simp only [h1]
@[simp] theorem handle_not {m : Nat → Option Bool} {nm : Option Nat} {su : PX → Env → RS} {hs : List Hd} (h1 : m x.c = some false) : handle (⟨m, nm, su⟩ :: hs) x ρ = handle hs x ρ := by
  rw [handle]
  simp only [h1]
@[simp] theorem handle_nil : handle [] x ρ = .er x ρ := nr rfl
@[simp] theorem calmS_nx : calmS (.nx ρ) = .nx ρ := nr rfl
@[simp] theorem calmS_rt : calmS (.rt o) = .rt o := nr rfl
@[simp] theorem calmS_bk : calmS (.bk ρ) = .bk ρ := nr rfl
@[simp] theorem calmS_ct : calmS (.ct ρ) = .ct ρ := nr rfl
@[simp] theorem goneS_nx : goneS i (.nx ρ) = .nx (ρ.set i none) := nr rfl
@[simp] theorem goneS_rt : goneS i (.rt o) = .rt o := nr rfl
@[simp] theorem goneS_bk : goneS i (.bk ρ) = .bk (ρ.set i none) := nr rfl
@[simp] theorem goneS_ct : goneS i (.ct ρ) = .ct (ρ.set i none) := nr rfl
/-! results -/
@[simp] theorem outS_nx : outS (.nx ρ) = .ok (.sh .non) := nr rfl
@[simp] theorem outS_rt : outS (.rt o) = .ok o := nr rfl
@[simp] theorem outS_er {x : PX} : outS (.er x ρ) = .er x := nr rfl
theorem defF_at {n np : Nat} {ps : List PV} (h : ps.length = np) : defF n np s ps = outS (s (startE n ps)) := if_pos h
theorem initF_at {n np k : Nat} {ps : List PV} (h : ps.length + 1 = np) : initF n np k s ps = outI k (s (some (.obj k []) :: startE (n - 1) ps)) := if_pos h
@[simp] theorem outI_ok {k : Nat} {fs : List (Str × OV)} : outI k (.nx (some (.obj k fs) :: ρ)) = .ok fs := if_pos rfl
@[simp] theorem outI_er {k k' : Nat} {fs : List (Str × OV)} : outI k (.er x (some (.obj k' fs) :: ρ)) = .er x := nr rfl
/-! places -/
@[simp] theorem atE_zero {ρ : Env} {π : List Stp} : atE (some o :: ρ) (0, π) = getP π o := nr rfl
@[simp] theorem atE_succ {x : Option OV} {ρ : Env} {π : List Stp} : atE (x :: ρ) (i + 1, π) = atE ρ (i, π) := nr rfl
@[simp] theorem upE_zero {ρ : Env} {π : List Stp} {n : OV} : upE (some o :: ρ) (0, π) n = some (setP π o n) :: ρ := nr rfl
@[simp] theorem upE_succ {x : Option OV} {ρ : Env} {π : List Stp} {n : OV} : upE (x :: ρ) (i + 1, π) n = x :: upE ρ (i, π) n := by
  unfold upE
  rw [List.getElem?_cons_succ]
  cases h : (ρ[i]? : Option (Option OV)) with
  | none => rfl
  | some y => cases y <;> simp
@[simp] theorem getP_nil : getP [] o = some o := by unfold getP; rfl
def getL (π : List Stp) : Option OV → Option OV
  | some o => getP π o
  | none => none
@[simp] theorem getL_some {π : List Stp} : getL π (some o) = getP π o := nr rfl
@[simp] theorem getP_ix {l : List OV} {π : List Stp} : getP (.ix j :: π) (.own l) = getL π l[j]? := by
  show (l[j]?).bind (getP π) = _
  cases l[j]? <;> rfl
@[simp] theorem getP_fl {f : Str} {k : Nat} {fs : List (Str × OV)} {π : List Stp} : getP (.fl f :: π) (.obj k fs) = getL π (fs.lookup f) := by
  show (fs.lookup f).bind (getP π) = _
  cases fs.lookup f <;> rfl
@[simp] theorem setP_nil {n : OV} : setP [] o n = n := by unfold setP; rfl
theorem setP_ix {l : List OV} {π : List Stp} {n : OV} : setP (.ix j :: π) (.own l) n = (match l[j]? with
    | some o => .own (l.set j (setP π o n))
    | none => .own l) := rfl
@[simp] theorem setP_ix1 {l : List OV} {n : OV} : setP [.ix j] (.own l) n = .own (l.set j n) := by
  rw [setP_ix]
  cases h : l[j]? with
  | some o => simp only [setP_nil]
  | none =>
    have hl : l.length ≤ j := List.getElem?_eq_none_iff.mp h
    show OV.own l = _
    rw [List.set_eq_of_length_le hl]
@[simp] theorem setP_fl1 {f : Str} {k : Nat} {fs : List (Str × OV)} {n y : OV} (h : fs.lookup f = some y) : setP [.fl f] (.obj k fs) n = .obj k (putO f n fs) := by
  show (match fs.lookup f with
    | some o => OV.obj k (putO f (setP [] o n) fs)
    | none => .obj k fs) = _
  rw [h]
  simp
def ownR (q : Pth) : Option OV → R Pth
  | some (.own _) => .ok q
  | some (.obj _ _) => .ok q
  | _ => .no
@[simp] theorem ownR_own {q : Pth} {l : List OV} : ownR q (some (.own l)) = .ok q := nr rfl
@[simp] theorem ownR_obj {q : Pth} {k : Nat} {fs : List (Str × OV)} : ownR q (some (.obj k fs)) = .ok q := nr rfl
theorem pthR_at {q : Pth} : pthR ρ q = ownR q (atE ρ q) := by
  unfold pthR ownR
  rfl
@[simp] theorem pVar_at : pVar i ρ = ownR (i, []) (atE ρ (i, [])) := pthR_at
def ixR (ρ : Env) (q : Pth) : Option OV → PV → R Pth
  | some (.own l), .int k => (match ixN l.length k with
    | some j => pthR ρ (q.1, q.2 ++ [.ix j])
    | none => .no)
  | _, _ => .no
@[simp] theorem ixR_at {q : Pth} {l : List OV} {k : Int} (h0 : 0 ≤ k) (h1 : k < l.length) : ixR ρ q (some (.own l)) (.int k) = ownR (q.1, q.2 ++ [.ix k.toNat]) (atE ρ (q.1, q.2 ++ [.ix k.toNat])) := by
  have e : ixN l.length k = some k.toNat := by unfold ixN; rw [if_pos h0, if_pos h1]
  show (match ixN l.length k with
    | some j => pthR ρ (q.1, q.2 ++ [Stp.ix j])
    | none => .no) = _
  rw [e]
  exact pthR_at
def ix2 (ρ : Env) : R Pth → R PV → R Pth
  | .ok q, .ok p => ixR ρ q (atE ρ q) p
  | .ok _, .er x => .er x
  | .er x, _ => .er x
  | _, _ => .no
@[simp] theorem ix2_ok {q : Pth} : ix2 ρ (.ok q) (.ok p) = ixR ρ q (atE ρ q) p := nr rfl
@[simp] theorem pIx_at {g : Env → R Pth} : pIx g fa ρ = ix2 ρ (g ρ) (fa ρ) := by
  unfold pIx
  cases g ρ <;> cases fa ρ <;> rfl
def apG (q : Pth) : Option OV → R (OV × Env) → Env → RS
  | some (.own _), .ok r, _ => apR q r.1 r.2
  | some (.own _), .er x, ρ => .er x ρ
  | _, _, _ => .no
@[simp] theorem apG_ok {q : Pth} {l : List OV} : apG q (some (.own l)) (.ok (o, ρ)) ρ' = apR q o ρ := nr rfl
def ap2 (ρ : Env) : R Pth → R (OV × Env) → RS
  | .ok q, r => apG q (atE ρ q) r ρ
  | .er x, _ => .er x ρ
  | .no, _ => .no
@[simp] theorem ap2_ok {q : Pth} {r : R (OV × Env)} : ap2 ρ (.ok q) r = apG q (atE ρ q) r ρ := nr rfl
@[simp] theorem sApp_at {g : Env → R Pth} : sApp g fm ρ = ap2 ρ (g ρ) (fm ρ) := by
  unfold sApp
  cases g ρ with
  | ok q =>
    show (match atE ρ q with
      | some (.own _) => (fm ρ).to ρ fun r => apR q r.1 r.2
      | _ => .no) = apG q (atE ρ q) (fm ρ) ρ
    cases atE ρ q with
    | none => rfl
    | some y =>
      cases y with
      | own l => cases fm ρ <;> rfl
      | _ => rfl
  | er x => rfl
  | no => rfl
def apN (q : Pth) (n : OV) (ρ : Env) : Option OV → RS
  | some (.own l) => if l.length < sizeLine then .nx (upE ρ q (.own (l ++ [n]))) else .no
  | _ => .no
@[simp] theorem apN_own {q : Pth} {n : OV} {l : List OV} (h : l.length < sizeLine) : apN q n ρ (some (.own l)) = .nx (upE ρ q (.own (l ++ [n]))) := if_pos h
@[simp] theorem apR_at {q : Pth} {n : OV} : apR q n ρ = apN q n ρ (atE ρ q) := nr rfl
def stG (q : Pth) (n : OV) (ρ : Env) : Option OV → PV → RS
  | some (.own l), .int k => (match ixN l.length k with
    | some j => .nx (upE ρ q (.own (l.set j n)))
    | none => .no)
  | _, _ => .no
@[simp] theorem stG_own {q : Pth} {n : OV} {l : List OV} {k : Int} (h0 : 0 ≤ k) (h1 : k < l.length) : stG q n ρ (some (.own l)) (.int k) = .nx (upE ρ q (.own (l.set k.toNat n))) := by
  have e : ixN l.length k = some k.toNat := by unfold ixN; rw [if_pos h0, if_pos h1]
  show (match ixN l.length k with
    | some j => RS.nx (upE ρ q (.own (l.set j n)))
    | none => .no) = _
  rw [e]
theorem stR_at {q : Pth} {n : OV} : stR q p n ρ = stG q n ρ (atE ρ q) p := rfl
def st2 : R Pth → R PV → OV → Env → RS
  | .ok q, .ok p, o, ρ => stR q p o ρ
  | .ok _, .er x, _, ρ => .er x ρ
  | .er x, _, _, ρ => .er x ρ
  | _, _, _, _ => .no
@[simp] theorem st2_ok {q : Pth} : st2 (.ok q) (.ok p) o ρ = stG q o ρ (atE ρ q) p := nr rfl
def st3 (g : Env → R Pth) (fi : Env → R PV) : R (OV × Env) → Env → RS
  | .ok r, _ => st2 (g r.2) (fi r.2) r.1 r.2
  | .er x, ρ => .er x ρ
  | .no, _ => .no
@[simp] theorem st3_ok {g : Env → R Pth} {fi : Env → R PV} : st3 g fi (.ok (o, ρ)) ρ' = st2 (g ρ) (fi ρ) o ρ := nr rfl
@[simp] theorem sSt_at {g : Env → R Pth} {fi : Env → R PV} : sSt g fi fm ρ = st3 g fi (fm ρ) ρ := by
  unfold sSt
  cases fm ρ with
  | ok r =>
    show (g r.2).to r.2 (fun q => (fi r.2).to r.2 fun p => stR q p r.1 r.2) = st2 (g r.2) (fi r.2) r.1 r.2
    cases g r.2 <;> cases fi r.2 <;> rfl
  | er x => rfl
  | no => rfl
def flG (q : Pth) (ok : Nat → Bool) (fl : Str) (n : OV) (ρ : Env) : Option OV → RS
  | some (.obj c fs) => if ok c = true ∧ fs.length < 1000 then .nx (upE ρ q (.obj c (putO fl n fs))) else .no
  | _ => .no
@[simp] theorem flG_obj {q : Pth} {ok : Nat → Bool} {fl : Str} {n : OV} {k : Nat} {fs : List (Str × OV)} (h : ok k = true) (h2 : fs.length < 1000) : flG q ok fl n ρ (some (.obj k fs)) = .nx (upE ρ q (.obj k (putO fl n fs))) := if_pos ⟨h, h2⟩
def fl2 (ok : Nat → Bool) (fl : Str) : R Pth → OV → Env → RS
  | .ok q, o, ρ => flR q ok fl o ρ
  | .er x, _, ρ => .er x ρ
  | .no, _, _ => .no
@[simp] theorem fl2_ok {ok : Nat → Bool} {fl : Str} {q : Pth} : fl2 ok fl (.ok q) o ρ = flG q ok fl o ρ (atE ρ q) := nr rfl
def fl3 (g : Env → R Pth) (ok : Nat → Bool) (fl : Str) : R (OV × Env) → Env → RS
  | .ok r, _ => fl2 ok fl (g r.2) r.1 r.2
  | .er x, ρ => .er x ρ
  | .no, _ => .no
@[simp] theorem fl3_ok {g : Env → R Pth} {ok : Nat → Bool} {fl : Str} : fl3 g ok fl (.ok (o, ρ)) ρ' = fl2 ok fl (g ρ) o ρ := nr rfl
@[simp] theorem sFl_at {g : Env → R Pth} {ok : Nat → Bool} {fl : Str} : sFl g ok fl fm ρ = fl3 g ok fl (fm ρ) ρ := by
  unfold sFl
  cases fm ρ with
  | ok r =>
    show (g r.2).to r.2 (fun q => flR q ok fl r.1 r.2) = fl2 ok fl (g r.2) r.1 r.2
    cases g r.2 <;> rfl
  | er x => rfl
  | no => rfl
@[simp] theorem putO_nil {f : Str} {n : OV} : putO f n [] = [(f, n)] := nr rfl
@[simp] theorem putO_ne {f g : Str} {n x : OV} {r : List (Str × OV)} (h : g ≠ f) : putO f n ((g, x) :: r) = (g, x) :: putO f n r := if_neg h
@[simp] theorem putO_eq {f : Str} {n x : OV} {r : List (Str × OV)} : putO f n ((f, x) :: r) = (f, n) :: r := if_pos rfl
@[simp] theorem frz_zero {ρ : Env} : frz 0 (some o :: ρ) = some (.sh o.pv) :: ρ := nr rfl
@[simp] theorem frz_succ {x : Option OV} {ρ : Env} : frz (i + 1) (x :: ρ) = x :: frz i ρ := by
  unfold frz
  rw [List.getElem?_cons_succ]
  cases h : (ρ[i]? : Option (Option OV)) with
  | none => rfl
  | some y => cases y <;> simp
@[simp] theorem wipeE_nil : wipeE ρ [] = ρ := nr rfl
@[simp] theorem wipeE_cons {v : Nat} {vs : List Nat} : wipeE ρ (v :: vs) = (wipeE ρ vs).set v none := nr rfl
@[simp] theorem tgS_nm : tgS (.nm i) p ρ = .ok (ρ.set i (some (.sh p))) := nr rfl
@[simp] theorem tgS_tup {l : List PV} {is : List Nat} (h : l.length = is.length) : tgS (.tp is) (.tup l) ρ = .ok (setMany is l ρ) := if_pos h
@[simp] theorem tgS_lst {l : List PV} {is : List Nat} (h : l.length = is.length) : tgS (.tp is) (.lst l) ρ = .ok (setMany is l ρ) := if_pos h
@[simp] theorem setMany_nil {ps : List PV} : setMany [] ps ρ = ρ := nr rfl
@[simp] theorem setMany_cons {is : List Nat} {ps : List PV} : setMany (i :: is) (p :: ps) ρ = setMany is ps (ρ.set i (some (.sh p))) := nr rfl
/-- xs.append(y); z = list(y) -/
def apl2 (ρ : Env) (i j : Nat) (f : Env → RS) : R Pth → RS
  | .ok q => (match atE ρ q, ρ[j]? with
    | some (.own _), some (some (.own its)) => (match shs its with
      | some _ => sSeq (apR q (.own its)) (fun ρ' => f (ρ'.set i (some (.own its)))) (ρ.set j none)
      | none => .no)
    | _, _ => .no)
  | .er x => .er x ρ
  | .no => .no
@[simp] theorem sAppList_at {g : Env → R Pth} : sAppList g j i s ρ = apl2 ρ i j s (g ρ) := by
  unfold sAppList
  cases g ρ with
  | ok q => rfl
  | er x => rfl
  | no => rfl
theorem shs_map : ∀ l : List PV, shs (l.map OV.sh) = some l
  | [] => rfl
  | p :: l => by rw [List.map_cons, shs, shs_map l]; rfl
end
/-! values -/
@[simp] theorem pv_sh {p : PV} : (OV.sh p).pv = p := by simp only [OV.pv]
@[simp] theorem pv_own {l : List OV} : (OV.own l).pv = .lst (OV.pvs l) := by simp only [OV.pv]
@[simp] theorem pv_obj {c : Nat} {fs : List (Str × OV)} : (OV.obj c fs).pv = .ins c (OV.pvf fs) := by simp only [OV.pv]
theorem pvs_eq : ∀ l : List OV, OV.pvs l = l.map OV.pv
  | [] => by simp only [OV.pvs, List.map_nil]
  | o :: l => by simp only [OV.pvs, List.map_cons, pvs_eq l]
@[simp] theorem pvs_nil : OV.pvs [] = [] := by simp only [OV.pvs]
@[simp] theorem pvs_cons {o : OV} {l : List OV} : OV.pvs (o :: l) = o.pv :: OV.pvs l := by simp only [OV.pvs]
@[simp] theorem pvs_append {l k : List OV} : OV.pvs (l ++ k) = OV.pvs l ++ OV.pvs k := by simp only [pvs_eq, List.map_append]
@[simp] theorem pvs_map {α : Type} {f : α → OV} {l : List α} : OV.pvs (l.map f) = l.map fun x => (f x).pv := by rw [pvs_eq, List.map_map]; rfl
@[simp] theorem pvf_nil : OV.pvf [] = [] := by simp only [OV.pvf]
@[simp] theorem pvf_cons {f : Str} {o : OV} {l : List (Str × OV)} : OV.pvf ((f, o) :: l) = (f, o.pv) :: OV.pvf l := by simp only [OV.pvf]
theorem pvs_length (l : List OV) : (OV.pvs l).length = l.length := by rw [pvs_eq, List.length_map]
section
variable {a b : Int} {x y : Str} {l r : List PV} {p q : PV}
@[simp] theorem add_int : pyAdd (.int a) (.int b) = .ok (.int (a + b)) := nr rfl
@[simp] theorem add_str (h : x.length + y.length ≤ sizeLine) : pyAdd (.str x) (.str y) = .ok (.str (x ++ y)) := if_pos h
@[simp] theorem add_lst (h : l.length + r.length ≤ sizeLine) : pyAdd (.lst l) (.lst r) = .ok (.lst (l ++ r)) := if_pos h
@[simp] theorem add_tup (h : l.length + r.length ≤ sizeLine) : pyAdd (.tup l) (.tup r) = .ok (.tup (l ++ r)) := if_pos h
@[simp] theorem sub_int : pySub (.int a) (.int b) = .ok (.int (a - b)) := nr rfl
@[simp] theorem neg_int : pyNeg (.int a) = .ok (.int (-a)) := nr rfl
@[simp] theorem mod_int (h : 0 < b) : pyMod (.int a) (.int b) = .ok (.int (a % b)) := by
  show (if decide (0 < b) = true then _ else _) = _
  rw [if_pos (decide_eq_true h)]
theorem log2_le {n k : Nat} (h : n < 2 ^ k) (hk : 0 < k) : n.log2 < k := by
  by_cases z : n = 0
  · subst z; simpa using hk
  · exact (Nat.log2_lt z).mpr h
@[simp] theorem fdiv_int (h : 0 < b) (h2 : b < 2 ^ 200) : pyFdiv (.int a) (.int b) = .ok (.int (a / b)) := by
  show (if (decide (0 < b) && decide (b.natAbs.log2 < 9000)) = true then _ else _) = _
  have e : b.natAbs.log2 < 200 := log2_le (by have : (b.natAbs : Int) < 2 ^ 200 := by omega
                                              exact_mod_cast this) (by decide)
  rw [if_pos (by simp [h]; omega)]
@[simp] theorem mul_int (h : -(2 ^ 64) < b ∧ b < 2 ^ 64) : pyMul (.int a) (.int b) = .ok (.int (a * b)) := by
  show (if mulOk a b = true then _ else _) = _
  rw [if_pos (by unfold mulOk; simp only [Bool.or_eq_true, decide_eq_true_eq]; omega)]
theorem mul_int_l (h : -(2 ^ 64) < a ∧ a < 2 ^ 64) : pyMul (.int a) (.int b) = .ok (.int (a * b)) := by
  show (if mulOk a b = true then _ else _) = _
  rw [if_pos (by unfold mulOk; simp only [Bool.or_eq_true, decide_eq_true_eq]; omega)]
@[simp] theorem pow_int (h : 0 ≤ b) (h1 : b ≤ 1000000) (h2 : a.natAbs < 2 ^ 64) : pyPow (.int a) (.int b) = .ok (.int (a ^ b.toNat)) := by
  show (if (decide (0 ≤ b) && decide (b ≤ 1000000) && decide (a.natAbs < 2 ^ 64)) = true then _ else _) = _
  rw [if_pos (by simp only [Bool.and_eq_true, decide_eq_true_eq]; exact ⟨⟨h, h1⟩, h2⟩)]
@[simp] theorem lt_int : pyLt (.int a) (.int b) = .ok (.bl (decide (a < b))) := nr rfl
@[simp] theorem le_int : pyLe (.int a) (.int b) = .ok (.bl (decide (a ≤ b))) := nr rfl
@[simp] theorem gt_int : pyGt (.int a) (.int b) = .ok (.bl (decide (b < a))) := nr rfl
@[simp] theorem ge_int : pyGe (.int a) (.int b) = .ok (.bl (decide (b ≤ a))) := nr rfl
@[simp] theorem eq_int : pyEq (.int a) (.int b) = .ok (.bl (decide (a = b))) := nr rfl
@[simp] theorem ne_int : pyNe (.int a) (.int b) = .ok (.bl (!decide (a = b))) := nr rfl
@[simp] theorem eq_str : pyEq (.str x) (.str y) = .ok (.bl (decide (x = y))) := nr rfl
@[simp] theorem ne_str : pyNe (.str x) (.str y) = .ok (.bl (!decide (x = y))) := nr rfl
@[simp] theorem eq_bl {c d : Bool} : pyEq (.bl c) (.bl d) = .ok (.bl (decide (c = d))) := nr rfl
@[simp] theorem ne_bl {c d : Bool} : pyNe (.bl c) (.bl d) = .ok (.bl (!decide (c = d))) := nr rfl
@[simp] theorem idx_lst : idxR (.lst l) (.int a) = R.of (atI l a) := nr rfl
@[simp] theorem idx_scr : idxR (.scr l) (.int a) = R.of (atI l a) := nr rfl
@[simp] theorem idx_tup : idxR (.tup l) (.int a) = R.of (atI l a) := nr rfl
@[simp] theorem mkTup_ok (h : l.length ≤ sizeLine) : mkTup l = .ok (.tup l) := if_pos h
@[simp] theorem mkLst_ok (h : l.length ≤ sizeLine) : mkLst l = .ok (.own (l.map .sh)) := if_pos h
@[simp] theorem len_lst : bLen [.lst l] = .ok (.int l.length) := nr rfl
@[simp] theorem len_scr : bLen [.scr l] = .ok (.int l.length) := nr rfl
@[simp] theorem len_tup : bLen [.tup l] = .ok (.int l.length) := nr rfl
@[simp] theorem abs_int : bAbs [.int a] = .ok (.int (if a < 0 then -a else a)) := nr rfl
@[simp] theorem int_int : bInt [.int a] = .ok (.int a) := nr rfl
@[simp] theorem max_int : bMax [.int a, .int b] = .ok (.int (if b > a then b else a)) := nr rfl
@[simp] theorem min_int : bMin [.int a, .int b] = .ok (.int (if b < a then b else a)) := nr rfl
@[simp] theorem tuple_lst : bTuple [.lst l] = .ok (.tup l) := nr rfl
@[simp] theorem tuple_tup : bTuple [.tup l] = .ok (.tup l) := nr rfl
@[simp] theorem list_lst : bList [.lst l] = .ok (.own (l.map .sh)) := nr rfl
@[simp] theorem list_tup : bList [.tup l] = .ok (.own (l.map .sh)) := nr rfl
@[simp] theorem seq_lst : seqR (.lst l) = .ok l := nr rfl
@[simp] theorem seq_scr : seqR (.scr l) = .ok l := nr rfl
@[simp] theorem seq_tup : seqR (.tup l) = .ok l := nr rfl
@[simp] theorem rng1_int (h : -(2 ^ 62) ≤ a ∧ a < 2 ^ 62) : rng1R [.int a] = .ok (rngP 0 a.toNat) := if_pos h
@[simp] theorem rng2_int (h : -(2 ^ 62) ≤ a ∧ a < 2 ^ 62) (h' : -(2 ^ 62) ≤ b ∧ b < 2 ^ 62) : rng2R [.int a, .int b] = .ok (rngP a (b - a).toNat) := if_pos ⟨h.1, h.2, h'.1, h'.2⟩
@[simp] theorem listR_int (h : 0 ≤ a ∧ a ≤ 1000000) : bLstR [.int a] = .ok (.own ((rngP 0 a.toNat).map .sh)) := if_pos h
/-- the one item of a list -/
theorem atI_of {α : Type} {l : List α} {a : Int} (h0 : 0 ≤ a) (h1 : a < l.length) : atI l a = l[a.toNat]? := by
  unfold atI ixN
  rw [if_pos h0, if_pos h1]
  rfl
theorem atI_natP {α : Type} {l : List α} {k : Nat} : atI l (k : Int) = l[k]? := by
  by_cases h : (k : Int) < l.length
  · rw [atI_of (by omega) h, Int.toNat_natCast]
  · unfold atI ixN
    rw [if_pos (by omega), if_neg h]
    exact (List.getElem?_eq_none (by omega)).symm
@[simp] theorem atI_map {α β : Type} {f : α → β} {l : List α} : atI (l.map f) a = (atI l a).map f := by
  unfold atI
  rw [List.length_map]
  cases ixN l.length a with
  | none => rfl
  | some j => simp
theorem atI_some {α : Type} {l : List α} {a : Int} (h0 : 0 ≤ a) (h1 : a < l.length) : atI l a = some (l[a.toNat]'(by omega)) := by
  rw [atI_of h0 h1]
  exact List.getElem?_eq_getElem _
@[simp] theorem atI_zero {α : Type} {x : α} {l : List α} : atI (x :: l) 0 = some x := by
  rw [atI_of (by omega) (by simp only [List.length_cons]; omega)]
  rfl
@[simp] theorem atI_one {α : Type} {x y : α} {l : List α} : atI (x :: y :: l) 1 = some y := by
  rw [atI_of (by omega) (by simp only [List.length_cons]; omega)]
  rfl
@[simp] theorem atI_two {α : Type} {x y z : α} {l : List α} : atI (x :: y :: z :: l) 2 = some z := by
  rw [atI_of (by omega) (by simp only [List.length_cons]; omega)]
  rfl
end
/-! loops -/
section
variable {α : Type} {T : Tg} {fg : List Nat} {fb : Env → RS} {ρ : Env} {f : α → PV}
theorem forGo_nil : forGo T fg fb [] ρ = .nx ρ := rfl
theorem forGo_cons_nx {p : PV} {ps : List PV} {ρ1 ρ2 : Env} (h1 : tgS T p ρ = .ok ρ1) (h2 : fb ρ1 = .nx ρ2) : forGo T fg fb (p :: ps) ρ = forGo T fg fb ps (wipeE ρ2 fg) := by
  rw [forGo, h1]
  dsimp only
  rw [h2]
theorem forGo_cons_ct {p : PV} {ps : List PV} {ρ1 ρ2 : Env} (h1 : tgS T p ρ = .ok ρ1) (h2 : fb ρ1 = .ct ρ2) : forGo T fg fb (p :: ps) ρ = forGo T fg fb ps (wipeE ρ2 fg) := by
  rw [forGo, h1]
  dsimp only
  rw [h2]
theorem forGo_cons_bk {p : PV} {ps : List PV} {ρ1 ρ2 : Env} (h1 : tgS T p ρ = .ok ρ1) (h2 : fb ρ1 = .bk ρ2) : forGo T fg fb (p :: ps) ρ = .nx (wipeE ρ2 fg) := by
  rw [forGo, h1]
  dsimp only
  rw [h2]
theorem forGo_cons_rt {p : PV} {ps : List PV} {ρ1 : Env} {o : OV} (h1 : tgS T p ρ = .ok ρ1) (h2 : fb ρ1 = .rt o) : forGo T fg fb (p :: ps) ρ = .rt o := by
  rw [forGo, h1]
  dsimp only
  rw [h2]
theorem forGo_cons_er {p : PV} {ps : List PV} {ρ1 ρ2 : Env} {x : PX} (h1 : tgS T p ρ = .ok ρ1) (h2 : fb ρ1 = .er x ρ2) : forGo T fg fb (p :: ps) ρ = .er x ρ2 := by
  rw [forGo, h1]
  dsimp only
  rw [h2]
/-- how one turn goes on: its environment at the next turn's start -/
def Turn (T : Tg) (fg : List Nat) (fb : Env → RS) (p : PV) (ρ ρ' : Env) : Prop := ∃ ρ1 ρ2, tgS T p ρ = .ok ρ1 ∧ (fb ρ1 = .nx ρ2 ∨ fb ρ1 = .ct ρ2) ∧ wipeE ρ2 fg = ρ'
theorem Turn.go {p : PV} {ps : List PV} {ρ' : Env} (h : Turn T fg fb p ρ ρ') : forGo T fg fb (p :: ps) ρ = forGo T fg fb ps ρ' := by
  obtain ⟨ρ1, ρ2, h1, h2 | h2, rfl⟩ := h
  · exact forGo_cons_nx h1 h2
  · exact forGo_cons_ct h1 h2
theorem Turn.nm {i : Nat} {p : PV} {ρ2 ρ' : Env} (h : fb (ρ.set i (some (.sh p))) = .nx ρ2) (e : wipeE ρ2 fg = ρ') : Turn (.nm i) fg fb p ρ ρ' := ⟨_, ρ2, rfl, .inl h, e⟩
/-- by the state: a fold -/
theorem forGo_fold {β : Type} (enc : β → Env) (stp : β → α → β) (I : β → Prop) : ∀ (l : List α) (b : β), I b → (∀ x ∈ l, ∀ b, I b → I (stp b x) ∧ Turn T fg fb (f x) (enc b) (enc (stp b x))) → forGo T fg fb (l.map f) (enc b) = .nx (enc (l.foldl stp b)) ∧ I (l.foldl stp b)
  | [], b, hb, _ => ⟨rfl, hb⟩
  | x :: l, b, hb, h => by
    obtain ⟨h1, h2⟩ := h x List.mem_cons_self b hb
    rw [List.map_cons, h2.go, List.foldl_cons]
    exact forGo_fold enc stp I l _ h1 fun y hy => h y (List.mem_cons_of_mem _ hy)
/-- the same, the turns counted -/
theorem forGo_foldN {β : Type} (enc : β → Env) (stp : β → α → β) (I : Nat → β → Prop) : ∀ (l : List α) (k : Nat) (b : β), I k b → (∀ j x b, l[j]? = some x → I (k + j) b → I (k + j + 1) (stp b x) ∧ Turn T fg fb (f x) (enc b) (enc (stp b x))) → forGo T fg fb (l.map f) (enc b) = .nx (enc (l.foldl stp b)) ∧ I (k + l.length) (l.foldl stp b)
  | [], k, b, hb, _ => ⟨rfl, hb⟩
  | x :: l, k, b, hb, h => by
    obtain ⟨h1, h2⟩ := h 0 x b rfl hb
    rw [List.map_cons, h2.go, List.foldl_cons]
    obtain ⟨e1, e2⟩ := forGo_foldN enc stp I l (k + 1) _ h1 fun j y b hy hi => by
      have := h (j + 1) y b hy (by rw [← Nat.add_assoc, Nat.add_right_comm]; exact hi)
      rw [← Nat.add_assoc, Nat.add_right_comm k j 1] at this
      exact this
    exact ⟨e1, by rw [List.length_cons, ← Nat.add_assoc, Nat.add_right_comm]; exact e2⟩
/-- by an invariant -/
theorem forGo_inv (I : Nat → Env → Prop) : ∀ (l : List α) (k : Nat) (ρ : Env), I k ρ → (∀ i x ρ, l[i]? = some x → I (k + i) ρ → ∃ ρ', Turn T fg fb (f x) ρ ρ' ∧ I (k + i + 1) ρ') → ∃ ρ', forGo T fg fb (l.map f) ρ = .nx ρ' ∧ I (k + l.length) ρ'
  | [], k, ρ, h0, _ => ⟨ρ, rfl, h0⟩
  | x :: l, k, ρ, h0, h => by
    obtain ⟨ρ1, t, h1⟩ := h 0 x ρ rfl h0
    rw [List.map_cons, t.go]
    obtain ⟨ρ', e, h2⟩ := forGo_inv I l (k + 1) ρ1 h1 fun i y ρ hy hi => by
      have := h (i + 1) y ρ hy (by rw [← Nat.add_assoc, Nat.add_right_comm]; exact hi)
      rw [← Nat.add_assoc, Nat.add_right_comm k i 1] at this
      exact this
    exact ⟨ρ', e, by rw [List.length_cons, ← Nat.add_assoc, Nat.add_right_comm]; exact h2⟩
/-- a loop that only looks: each turn leaves all as it was -/
theorem forGo_same (l : List α) (h : ∀ x ∈ l, Turn T fg fb (f x) ρ ρ) : forGo T fg fb (l.map f) ρ = .nx ρ := by
  induction l with
  | nil => rfl
  | cons x l ih =>
    rw [List.map_cons, (h x List.mem_cons_self).go]
    exact ih fun y hy => h y (List.mem_cons_of_mem _ hy)
/-- a loop that looks and hands back at the first bad item -/
theorem forGo_all {good : α → Bool} {o : OV} (l : List α) (h : ∀ x ∈ l, good x = true → Turn T fg fb (f x) ρ ρ) (h2 : ∀ x ∈ l, good x = false → ∃ ρ1, tgS T (f x) ρ = .ok ρ1 ∧ fb ρ1 = .rt o) : forGo T fg fb (l.map f) ρ = if l.all good = true then .nx ρ else .rt o := by
  induction l with
  | nil => rfl
  | cons x l ih =>
    rw [List.map_cons, List.all_cons]
    cases hg : good x with
    | true =>
      rw [(h x List.mem_cons_self hg).go, Bool.true_and]
      exact ih (fun y hy => h y (List.mem_cons_of_mem _ hy)) fun y hy => h2 y (List.mem_cons_of_mem _ hy)
    | false =>
      obtain ⟨ρ1, e1, e2⟩ := h2 x List.mem_cons_self hg
      rw [forGo_cons_rt e1 e2, Bool.false_and, if_neg Bool.false_ne_true]
theorem rngP_eq {lo : Int} {n : Nat} : rngP lo n = (List.range n).map fun (k : Nat) => PV.int (lo + (k : Int)) := rfl
theorem lcGo_map {i : Nat} {e : Env → R OV} {g : α → OV} (l : List α) (h : ∀ x ∈ l, e (ρ.set i (some (.sh (f x)))) = .ok (g x)) : lcGo (.nm i) tYesB e ρ (l.map f) = .ok (l.map g) := by
  induction l with
  | nil => rfl
  | cons x l ih =>
    rw [List.map_cons, lcGo, tgS_nm]
    simp only [R.bind_ok, tYesB_at, R.calm_ok', if_true, h x List.mem_cons_self, ih fun y hy => h y (List.mem_cons_of_mem _ hy), List.map_cons]
theorem lcGo_filter {i : Nat} {t : Env → R Bool} {e : Env → R OV} {g : α → OV} {c : α → Bool} (l : List α) (ht : ∀ x ∈ l, t (ρ.set i (some (.sh (f x)))) = .ok (c x)) (h : ∀ x ∈ l, c x = true → e (ρ.set i (some (.sh (f x)))) = .ok (g x)) : lcGo (.nm i) t e ρ (l.map f) = .ok ((l.filter c).map g) := by
  induction l with
  | nil => rfl
  | cons x l ih =>
    have ih := ih (fun y hy => ht y (List.mem_cons_of_mem _ hy)) fun y hy => h y (List.mem_cons_of_mem _ hy)
    rw [List.map_cons, lcGo, tgS_nm]
    cases hc : c x with
    | true => simp only [R.bind_ok, R.calm_ok', ht x List.mem_cons_self, hc, if_true, h x List.mem_cons_self hc, ih, List.map_cons, List.filter_cons]
    | false => simp only [R.bind_ok, R.calm_ok', ht x List.mem_cons_self, hc, Bool.false_eq_true, if_false, ih, List.filter_cons]
theorem fLc_at {T : Tg} {vs : List Nat} {fi : Env → R (List PV)} {t : Env → R Bool} {e : Env → R OV} {ps : List PV} {os : List OV} (h : fi ρ = .ok ps) (hl : ps.length ≤ sizeLine) (h2 : lcGo T t e (wipeE ρ vs) ps = .ok os) : fLc T vs fi t e ρ = .ok (.own os) := by
  unfold fLc
  rw [h, R.bind_ok, if_pos hl, h2]
  rfl
end
/-- one turn's end, as a value -/
def endT (fg : List Nat) : RS → Option Env
  | .nx ρ => some (wipeE ρ fg)
  | .ct ρ => some (wipeE ρ fg)
  | _ => none
@[simp] theorem endT_nx {fg : List Nat} {ρ : Env} : endT fg (.nx ρ) = some (wipeE ρ fg) := nr rfl
@[simp] theorem endT_ct {fg : List Nat} {ρ : Env} : endT fg (.ct ρ) = some (wipeE ρ fg) := nr rfl
theorem endT_some {fg : List Nat} {r : RS} {ρ' : Env} (h : endT fg r = some ρ') : ∃ ρ2, (r = .nx ρ2 ∨ r = .ct ρ2) ∧ wipeE ρ2 fg = ρ' := by
  cases r with
  | nx ρ => exact ⟨ρ, .inl rfl, Option.some.inj h⟩
  | ct ρ => exact ⟨ρ, .inr rfl, Option.some.inj h⟩
  | _ => cases h
theorem Turn.of {fg : List Nat} {fb : Env → RS} {i : Nat} {p : PV} {ρ ρ' : Env} (h : endT fg (fb (ρ.set i (some (.sh p)))) = some ρ') : Turn (.nm i) fg fb p ρ ρ' := by
  obtain ⟨ρ2, h1, h2⟩ := endT_some h
  exact ⟨_, ρ2, rfl, h1, h2⟩
theorem Turn.ofT {T : Tg} {fg : List Nat} {fb : Env → RS} {p : PV} {ρ ρ1 ρ' : Env} (h0 : tgS T p ρ = .ok ρ1) (h : endT fg (fb ρ1) = some ρ') : Turn T fg fb p ρ ρ' := by
  obtain ⟨ρ2, h1, h2⟩ := endT_some h
  exact ⟨_, ρ2, h0, h1, h2⟩
@[simp] theorem rngP_length {lo : Int} {n : Nat} : (rngP lo n).length = n := by simp [rngP]
theorem szl : sizeLine = 16777216 := by first | rfl | decide
@[simp] theorem isi_int_int {a : Int} : isiP (tbT "int") ibN (.int a) = .ok (.bl true) := nr (by kernel_rfl)
@[simp] theorem isi_bool_int {a : Int} : isiP (tbT "bool") ibN (.int a) = .ok (.bl false) := nr (by kernel_rfl)
@[simp] theorem isi_int_bl {a : Bool} : isiP (tbT "int") ibN (.bl a) = .ok (.bl true) := nr (by kernel_rfl)
@[simp] theorem isi_bool_bl {a : Bool} : isiP (tbT "bool") ibN (.bl a) = .ok (.bl true) := nr (by kernel_rfl)
@[simp] theorem isi_int_non : isiP (tbT "int") ibN .non = .ok (.bl false) := nr (by kernel_rfl)
@[simp] theorem isi_bool_non : isiP (tbT "bool") ibN .non = .ok (.bl false) := nr (by kernel_rfl)
@[simp] theorem isi_int_tup {l : List PV} : isiP (tbT "int") ibN (.tup l) = .ok (.bl false) := nr (by kernel_rfl)
@[simp] theorem isi_tuple_tup {l : List PV} : isiP (tbT "tuple") ibN (.tup l) = .ok (.bl true) := nr (by kernel_rfl)
@[simp] theorem isi_tuple_lst {l : List PV} : isiP (tbT "tuple") ibN (.lst l) = .ok (.bl false) := nr (by kernel_rfl)
@[simp] theorem isi_list_lst {l : List PV} : isiP (tbT "list") ibN (.lst l) = .ok (.bl true) := nr (by kernel_rfl)
@[simp] theorem isi_list_tup {l : List PV} : isiP (tbT "list") ibN (.tup l) = .ok (.bl false) := nr (by kernel_rfl)
@[simp] theorem isi_tuple_int {a : Int} : isiP (tbT "tuple") ibN (.int a) = .ok (.bl false) := nr (by kernel_rfl)
@[simp] theorem isi_tuple_non : isiP (tbT "tuple") ibN .non = .ok (.bl false) := nr (by kernel_rfl)
@[simp] theorem isi_list_non : isiP (tbT "list") ibN .non = .ok (.bl false) := nr (by kernel_rfl)
@[simp] theorem ovflat_sh {p : PV} : (OV.sh p).flat = p.flat := by simp only [OV.flat]
@[simp] theorem ovflat_own {l : List OV} : (OV.own l).flat = OV.flats l := by simp only [OV.flat]
@[simp] theorem ovflat_obj {c : Nat} {fs : List (Str × OV)} : (OV.obj c fs).flat = OV.flatf fs := by simp only [OV.flat]
@[simp] theorem ovflats_nil : OV.flats [] = true := by simp only [OV.flats]
@[simp] theorem ovflats_cons {o : OV} {l : List OV} : OV.flats (o :: l) = (o.flat && OV.flats l) := by simp only [OV.flats]
@[simp] theorem ovflatf_nil : OV.flatf [] = true := by simp only [OV.flatf]
@[simp] theorem ovflatf_cons {f : Str} {o : OV} {l : List (Str × OV)} : OV.flatf ((f, o) :: l) = (o.flat && OV.flatf l) := by simp only [OV.flatf]
@[simp] theorem pvflat_non : PV.non.flat = true := by simp only [PV.flat]
@[simp] theorem pvflat_bl {b : Bool} : (PV.bl b).flat = true := by simp only [PV.flat]
@[simp] theorem pvflat_int {b : Int} : (PV.int b).flat = true := by simp only [PV.flat]
@[simp] theorem pvflat_str {b : Str} : (PV.str b).flat = true := by simp only [PV.flat]
@[simp] theorem pvflat_tup {l : List PV} : (PV.tup l).flat = PV.flats l := by simp only [PV.flat]
@[simp] theorem pvflats_nil : PV.flats [] = true := by simp only [PV.flats]
@[simp] theorem pvflats_cons {o : PV} {l : List PV} : PV.flats (o :: l) = (o.flat && PV.flats l) := by simp only [PV.flats]
theorem pvflats_map {α : Type} {f : α → PV} {l : List α} (h : ∀ x ∈ l, (f x).flat = true) : PV.flats (l.map f) = true := by
  induction l with
  | nil => rw [List.map_nil, pvflats_nil]
  | cons x l ih => rw [List.map_cons, pvflats_cons, h x List.mem_cons_self, ih fun y hy => h y (List.mem_cons_of_mem _ hy), Bool.and_self]
theorem ovflats_map {α : Type} {f : α → OV} {l : List α} (h : ∀ x ∈ l, (f x).flat = true) : OV.flats (l.map f) = true := by
  induction l with
  | nil => rw [List.map_nil, ovflats_nil]
  | cons x l ih => rw [List.map_cons, ovflats_cons, h x List.mem_cons_self, ih fun y hy => h y (List.mem_cons_of_mem _ hy), Bool.and_self]
theorem whGo_true {fg : List Nat} {c : Env → R Bool} {s : Env → RS} {n : Nat} {ρ ρ2 : Env} (h : c ρ = .ok true) (h2 : s ρ = .nx ρ2) : whGo fg c s (n + 1) ρ = whGo fg c s n (wipeE ρ2 fg) := by
  rw [whGo, h, R.to_ok, if_pos rfl, h2]
theorem whGo_ct {fg : List Nat} {c : Env → R Bool} {s : Env → RS} {n : Nat} {ρ ρ2 : Env} (h : c ρ = .ok true) (h2 : s ρ = .ct ρ2) : whGo fg c s (n + 1) ρ = whGo fg c s n (wipeE ρ2 fg) := by
  rw [whGo, h, R.to_ok, if_pos rfl, h2]
theorem whGo_bk {fg : List Nat} {c : Env → R Bool} {s : Env → RS} {n : Nat} {ρ ρ2 : Env} (h : c ρ = .ok true) (h2 : s ρ = .bk ρ2) : whGo fg c s (n + 1) ρ = .nx (wipeE ρ2 fg) := by
  rw [whGo, h, R.to_ok, if_pos rfl, h2]
theorem whGo_rt {fg : List Nat} {c : Env → R Bool} {s : Env → RS} {n : Nat} {ρ : Env} {o : OV} (h : c ρ = .ok true) (h2 : s ρ = .rt o) : whGo fg c s (n + 1) ρ = .rt o := by
  rw [whGo, h, R.to_ok, if_pos rfl, h2]
theorem whGo_false {fg : List Nat} {c : Env → R Bool} {s : Env → RS} {n : Nat} {ρ : Env} (h : c ρ = .ok false) : whGo fg c s (n + 1) ρ = .nx ρ := by
  rw [whGo, h, R.to_ok, if_neg Bool.false_ne_true]
@[simp] theorem sl_take {l : List PV} {k : Int} (h : 0 ≤ k) : slR (.lst l) none (some k) = .ok (.lst (l.take k.toNat)) := by
  show R.ok (PV.lst (slR.cutVP l none (some k))) = _
  unfold slR.cutVP HT.sIx
  dsimp only
  rw [if_neg (by omega), List.drop_zero, Nat.sub_zero]
  congr 2
  by_cases c : k.toNat ≤ l.length
  · rw [Nat.min_eq_left c]
  · rw [Nat.min_eq_right (by omega), List.take_of_length_le (Nat.le_refl _), List.take_of_length_le (by omega)]
@[simp] theorem sl_drop {l : List PV} {k : Int} (h : 0 ≤ k) : slR (.lst l) (some k) none = .ok (.lst (l.drop k.toNat)) := by
  show R.ok (PV.lst (slR.cutVP l (some k) none)) = _
  unfold slR.cutVP HT.sIx
  dsimp only
  rw [if_neg (by omega)]
  congr 2
  by_cases c : k.toNat ≤ l.length
  · rw [Nat.min_eq_left c, List.take_of_length_le (by simp)]
  · rw [Nat.min_eq_right (by omega), List.drop_of_length_le (Nat.le_refl _), List.drop_of_length_le (by omega), List.take_nil]
/-- [x] * k -/
def repP (p : PV) (n : Nat) : List PV := List.replicate n p
@[simp] theorem repP_length {p : PV} {n : Nat} : (repP p n).length = n := by simp [repP]
theorem flatten_one {α : Type} {p : α} : ∀ n : Nat, (List.replicate n [p]).flatten = List.replicate n p
  | 0 => rfl
  | n + 1 => by rw [List.replicate_succ, List.flatten_cons, flatten_one n, List.replicate_succ]; rfl
theorem mul_one {p : PV} {k : Int} (h : k ≤ 16777216) (h0 : 0 ≤ k) : pyMul (.lst [p]) (.int k) = .ok (.lst (repP p k.toNat)) := by
  show (if -(2 ^ 63) ≤ k ∧ k < 2 ^ 63 ∧ [p].length * k.toNat ≤ sizeLine then R.ok (PV.lst (List.replicate k.toNat [p]).flatten) else R.no) = _
  rw [if_pos (by simp only [szl, List.length_cons, List.length_nil]; omega), flatten_one]
  rfl
end L3

/-! L3. 17: == and in over data -/
namespace L3
open PySem L2
mutual
def peq : PV → PV → Bool
  | .non, .non => true
  | .bl a, .bl b => a == b
  | .int a, .int b => a == b
  | .str a, .str b => decide (a = b)
  | .lst a, .lst b => peqs a b
  | .scr a, .scr b => peqs a b
  | .tup a, .tup b => peqs a b
  | .ins c a, .ins d b => c == d && peqf a b
  | _, _ => false
def peqs : List PV → List PV → Bool
  | [], [] => true
  | a :: as, b :: bs => peq a b && peqs as bs
  | _, _ => false
def peqf : List (Str × PV) → List (Str × PV) → Bool
  | [], [] => true
  | (f, a) :: as, (g, b) :: bs => decide (f = g) && (peq a b && peqf as bs)
  | _, _ => false
end
mutual
theorem peq_ok : ∀ p q : PV, peq p q = true → p = q
  | .non, q, h => by cases q <;> simp_all [peq]
  | .bl a, q, h => by cases q <;> simp_all [peq]
  | .int a, q, h => by cases q <;> simp_all [peq]
  | .str a, q, h => by cases q <;> simp_all [peq]
  | .lst a, q, h => by
    cases q with
    | lst b => rw [peqs_ok a b (by simpa [peq] using h)]
    | _ => simp [peq] at h
  | .scr a, q, h => by
    cases q with
    | scr b => rw [peqs_ok a b (by simpa [peq] using h)]
    | _ => simp [peq] at h
  | .tup a, q, h => by
    cases q with
    | tup b => rw [peqs_ok a b (by simpa [peq] using h)]
    | _ => simp [peq] at h
  | .ins c a, q, h => by
    cases q with
    | ins d b =>
      simp only [peq, Bool.and_eq_true, beq_iff_eq] at h
      rw [h.1, peqf_ok a b h.2]
    | _ => simp [peq] at h
theorem peqs_ok : ∀ p q : List PV, peqs p q = true → p = q
  | [], q, h => by cases q <;> simp_all [peqs]
  | a :: as, q, h => by
    cases q with
    | nil => simp [peqs] at h
    | cons b bs =>
      simp only [peqs, Bool.and_eq_true] at h
      rw [peq_ok a b h.1, peqs_ok as bs h.2]
theorem peqf_ok : ∀ p q : List (Str × PV), peqf p q = true → p = q
  | [], q, h => by cases q <;> simp_all [peqf]
  | (f, a) :: as, q, h => by
    cases q with
    | nil => simp [peqf] at h
    | cons b bs =>
      obtain ⟨g, b⟩ := b
      simp only [peqf, Bool.and_eq_true, decide_eq_true_eq] at h
      rw [h.1, peq_ok a b h.2.1, peqf_ok as bs h.2.2]
end
mutual
theorem peq_rfl : ∀ p : PV, peq p p = true
  | .non => by simp [peq]
  | .bl a => by simp [peq]
  | .int a => by simp [peq]
  | .str a => by simp [peq]
  | .lst a => by simp [peq, peqs_rfl a]
  | .scr a => by simp [peq, peqs_rfl a]
  | .tup a => by simp [peq, peqs_rfl a]
  | .ins c a => by simp [peq, peqf_rfl a]
theorem peqs_rfl : ∀ p : List PV, peqs p p = true
  | [] => by simp [peqs]
  | a :: as => by simp [peqs, peq_rfl a, peqs_rfl as]
theorem peqf_rfl : ∀ p : List (Str × PV), peqf p p = true
  | [] => by simp [peqf]
  | (f, a) :: as => by simp [peqf, peq_rfl a, peqf_rfl as]
end
instance : DecidableEq PV := fun p q => if h : peq p q = true then .isTrue (peq_ok p q h) else .isFalse fun e => h (by rw [e]; exact peq_rfl q)
theorem peq_dec {p q : PV} : peq p q = decide (p = q) := by
  by_cases h : p = q
  · subst h; simp [peq_rfl]
  · cases e : peq p q with
    | true => exact absurd (peq_ok p q e) h
    | false => simp [h]
/-- data without truth values, of a depth -/
def cln : Nat → PV → Bool
  | _, .non => true
  | _, .int _ => true
  | _, .str s => PyData.strOk s
  | n + 1, .lst l => l.all (cln n)
  | n + 1, .tup l => l.all (cln n)
  | _, _ => false
theorem cln_pd : ∀ (n : Nat) (p : PV), cln n p = true → ∃ d, toPD p = some d ∧ d.canLay0 = true ∧ d.depth ≤ n + 1
  | n, .non, _ => ⟨_, rfl, by simp [PyData.canLay0], by simp [PyData.depth]⟩
  | n, .int _, _ => ⟨_, rfl, by simp [PyData.canLay0], by simp [PyData.depth]⟩
  | n, .str s, h => ⟨_, rfl, by cases n <;> simpa [PyData.canLay0, cln] using h, by simp [PyData.depth]⟩
  | 0, .lst l, h => by simp [cln] at h
  | 0, .tup l, h => by simp [cln] at h
  | n + 1, .lst l, h => by
    have key : ∃ ds, toPDs l = some ds ∧ PyData.canLayAll0 ds = true ∧ PyData.depthAll ds ≤ n + 1 := by
      have h : l.all (cln n) = true := by simpa [cln] using h
      induction l with
      | nil => exact ⟨[], rfl, by simp [PyData.canLayAll0], by simp [PyData.depthAll]⟩
      | cons p l ih =>
        simp only [List.all_cons, Bool.and_eq_true] at h
        obtain ⟨d, e1, e2, e3⟩ := cln_pd n p h.1
        obtain ⟨ds, f1, f2, f3⟩ := ih (by simp [cln, h.2]) h.2
        exact ⟨d :: ds, by simp [toPDs, e1, f1], by simp [PyData.canLayAll0, e2, f2], by simp [PyData.depthAll]; omega⟩
    obtain ⟨ds, e1, e2, e3⟩ := key
    exact ⟨.list ds, by simp [toPD, e1], by simpa [PyData.canLay0] using e2, by simp [PyData.depth]; omega⟩
  | n + 1, .tup l, h => by
    have key : ∃ ds, toPDs l = some ds ∧ PyData.canLayAll0 ds = true ∧ PyData.depthAll ds ≤ n + 1 := by
      have h : l.all (cln n) = true := by simpa [cln] using h
      induction l with
      | nil => exact ⟨[], rfl, by simp [PyData.canLayAll0], by simp [PyData.depthAll]⟩
      | cons p l ih =>
        simp only [List.all_cons, Bool.and_eq_true] at h
        obtain ⟨d, e1, e2, e3⟩ := cln_pd n p h.1
        obtain ⟨ds, f1, f2, f3⟩ := ih (by simp [cln, h.2]) h.2
        exact ⟨d :: ds, by simp [toPDs, e1, f1], by simp [PyData.canLayAll0, e2, f2], by simp [PyData.depthAll]; omega⟩
    obtain ⟨ds, e1, e2, e3⟩ := key
    exact ⟨.tuple ds, by simp [toPD, e1], by simpa [PyData.canLay0] using e2, by simp [PyData.depth]; omega⟩
  | n, .bl b, h => by cases n <;> simp [cln] at h
  | n, .scr b, h => by cases n <;> simp [cln] at h
  | n, .ins c b, h => by cases n <;> simp [cln] at h
mutual
/-- without truth values anywhere -/
def noBl : PV → Bool
  | .bl _ => false
  | .ins _ _ => false
  | .scr _ => false
  | .lst l => noBls l
  | .tup l => noBls l
  | _ => true
def noBls : List PV → Bool
  | [] => true
  | p :: ps => noBl p && noBls ps
end
theorem cln_noBl : ∀ (n : Nat) (p : PV), cln n p = true → noBl p = true
  | n, .non, _ => by simp [noBl]
  | n, .int _, _ => by simp [noBl]
  | n, .str s, h => by simp [noBl]
  | 0, .lst l, h => by simp [cln] at h
  | 0, .tup l, h => by simp [cln] at h
  | n + 1, .lst l, h => by
    have h : l.all (cln n) = true := by simpa [cln] using h
    rw [noBl]
    induction l with
    | nil => simp [noBls]
    | cons p l ih =>
      simp only [List.all_cons, Bool.and_eq_true] at h
      simp [noBls, cln_noBl n p h.1, ih (by simp [cln, h.2]) h.2]
  | n + 1, .tup l, h => by
    have h : l.all (cln n) = true := by simpa [cln] using h
    rw [noBl]
    induction l with
    | nil => simp [noBls]
    | cons p l ih =>
      simp only [List.all_cons, Bool.and_eq_true] at h
      simp [noBls, cln_noBl n p h.1, ih (by simp [cln, h.2]) h.2]
  | n, .bl b, h => by cases n <;> simp [cln] at h
  | n, .scr b, h => by cases n <;> simp [cln] at h
  | n, .ins c b, h => by cases n <;> simp [cln] at h
theorem toPD_lst {l : List PV} {d : PyData} (h : toPD (.lst l) = some d) : ∃ ds, toPDs l = some ds ∧ d = .list ds := by
  simp only [toPD, Option.map_eq_some_iff] at h
  obtain ⟨ds, h1, h2⟩ := h
  exact ⟨ds, h1, h2.symm⟩
theorem toPD_tup {l : List PV} {d : PyData} (h : toPD (.tup l) = some d) : ∃ ds, toPDs l = some ds ∧ d = .tuple ds := by
  simp only [toPD, Option.map_eq_some_iff] at h
  obtain ⟨ds, h1, h2⟩ := h
  exact ⟨ds, h1, h2.symm⟩
mutual
theorem eqv_ok : ∀ (p q : PV) (d e : PyData), noBl p = true → noBl q = true → toPD p = some d → toPD q = some e → PyData.eqv d e = peq p q
  | .non, q, d, e, _, hq, h, k => by
    cases h
    cases q with
    | lst b => obtain ⟨ds, _, rfl⟩ := toPD_lst k; simp [PyData.eqv, peq]
    | tup b => obtain ⟨ds, _, rfl⟩ := toPD_tup k; simp [PyData.eqv, peq]
    | _ => first | (simp [noBl] at hq; done) | (cases k; simp [PyData.eqv, peq])
  | .int a, q, d, e, _, hq, h, k => by
    cases h
    cases q with
    | lst b => obtain ⟨ds, _, rfl⟩ := toPD_lst k; simp [PyData.eqv, peq]
    | tup b => obtain ⟨ds, _, rfl⟩ := toPD_tup k; simp [PyData.eqv, peq]
    | _ => first | (simp [noBl] at hq; done) | (cases k; simp [PyData.eqv, peq])
  | .str a, q, d, e, _, hq, h, k => by
    cases h
    cases q with
    | lst b => obtain ⟨ds, _, rfl⟩ := toPD_lst k; simp [PyData.eqv, peq]
    | tup b => obtain ⟨ds, _, rfl⟩ := toPD_tup k; simp [PyData.eqv, peq]
    | str b => cases k; simp only [PyData.eqv, peq]; rfl
    | _ => first | (simp [noBl] at hq; done) | (cases k; simp [PyData.eqv, peq])
  | .lst a, q, d, e, hp, hq, h, k => by
    obtain ⟨ds, h1, rfl⟩ := toPD_lst h
    cases q with
    | lst b =>
      obtain ⟨es, k1, rfl⟩ := toPD_lst k
      simp only [PyData.eqv, peq]
      exact eqvs_ok a b ds es (by simpa [noBl] using hp) (by simpa [noBl] using hq) h1 k1
    | tup b => obtain ⟨ds, _, rfl⟩ := toPD_tup k; simp [PyData.eqv, peq]
    | _ => first | (simp [noBl] at hq; done) | (cases k; simp [PyData.eqv, peq])
  | .tup a, q, d, e, hp, hq, h, k => by
    obtain ⟨ds, h1, rfl⟩ := toPD_tup h
    cases q with
    | tup b =>
      obtain ⟨es, k1, rfl⟩ := toPD_tup k
      simp only [PyData.eqv, peq]
      exact eqvs_ok a b ds es (by simpa [noBl] using hp) (by simpa [noBl] using hq) h1 k1
    | lst b => obtain ⟨ds, _, rfl⟩ := toPD_lst k; simp [PyData.eqv, peq]
    | _ => first | (simp [noBl] at hq; done) | (cases k; simp [PyData.eqv, peq])
  | .bl _, _, _, _, hp, _, _, _ => by simp [noBl] at hp
  | .scr _, _, _, _, hp, _, _, _ => by simp [noBl] at hp
  | .ins _ _, _, _, _, hp, _, _, _ => by simp [noBl] at hp
theorem eqvs_ok : ∀ (p q : List PV) (d e : List PyData), noBls p = true → noBls q = true → toPDs p = some d → toPDs q = some e → PyData.eqvAll d e = peqs p q
  | [], q, d, e, _, hq, h, k => by
    cases h
    cases q with
    | nil => cases k; simp [PyData.eqvAll, peqs]
    | cons b bs =>
      simp only [toPDs, Option.bind_eq_some_iff, Option.map_eq_some_iff] at k
      obtain ⟨x, _, xs, _, rfl⟩ := k
      simp [PyData.eqvAll, peqs]
  | a :: as, q, d, e, hp, hq, h, k => by
    simp only [toPDs, Option.bind_eq_some_iff, Option.map_eq_some_iff] at h
    obtain ⟨x, h1, xs, h2, rfl⟩ := h
    cases q with
    | nil => cases k; simp [PyData.eqvAll, peqs]
    | cons b bs =>
      simp only [toPDs, Option.bind_eq_some_iff, Option.map_eq_some_iff] at k
      obtain ⟨y, k1, ys, k2, rfl⟩ := k
      simp only [noBls, Bool.and_eq_true] at hp hq
      simp only [PyData.eqvAll, peqs]
      rw [eqv_ok a b x y hp.1 hq.1 h1 k1, eqvs_ok as bs xs ys hp.2 hq.2 h2 k2]
end
theorem shaped_of {n : Nat} {p : PV} (h : cln n p = true) (hn : n < 63) : ∃ d, toPD p = some d ∧ SeqAt.shaped d = true := by
  obtain ⟨d, e1, e2, e3⟩ := cln_pd n p h
  exact ⟨d, e1, by unfold SeqAt.shaped; rw [e2, decide_eq_true (by omega)]; rfl⟩
theorem eqR_cln {n : Nat} {p q : PV} (hn : n < 63) (hp : cln n p = true) (hq : cln n q = true) : eqR p q = .ok (decide (p = q)) := by
  obtain ⟨d, d1, d2⟩ := shaped_of hp hn
  obtain ⟨e, e1, e2⟩ := shaped_of hq hn
  have key : ∀ b, scalP p q = some b → b = decide (p = q) := by
    intro b hb
    unfold scalP at hb
    split at hb <;> first | (cases hb; simp; done) | (cases hb; done)
  unfold eqR
  cases hs : scalP p q with
  | some b => rw [key b hs]
  | none =>
    simp only [d1, e1, d2, e2, and_self, if_true]
    rw [eqv_ok p q d e (cln_noBl n p hp) (cln_noBl n q hq) d1 e1, peq_dec]
theorem eq_cln (n : Nat) {p q : PV} (hn : n < 63) (hp : cln n p = true) (hq : cln n q = true) : pyEq p q = .ok (.bl (decide (p = q))) := by
  unfold pyEq
  rw [eqR_cln hn hp hq]
  rfl
theorem ne_cln (n : Nat) {p q : PV} (hn : n < 63) (hp : cln n p = true) (hq : cln n q = true) : pyNe p q = .ok (.bl (!decide (p = q))) := by
  unfold pyNe
  rw [eqR_cln hn hp hq]
  rfl
theorem inV_flat : ∀ {p : PV} {l : List PV}, flatP p = true → noBl p = true → l.all flatP = true → noBls l = true → inV (toV p) (l.map toV) = decide (p ∈ l)
  | p, [], _, _, _, _ => by simp [inV]
  | p, q :: l, h1, h2, h3, h4 => by
    simp only [List.all_cons, Bool.and_eq_true] at h3
    simp only [noBls, Bool.and_eq_true] at h4
    have ih := inV_flat (l := l) h1 h2 h3.2 h4.2
    have e : eqV (toV q) (toV p) = decide (p = q) := by
      cases p <;> cases q <;> first | (simp [flatP] at h1; done) | (simp [flatP] at h3; done) | (simp [noBl] at h2; done) | (simp [noBl] at h4; done) | (simp [toV, eqV]; done) | (simp only [toV, eqV, PV.int.injEq, PV.str.injEq]; exact Bool.eq_iff_iff.mpr ⟨fun h => decide_eq_true (beq_iff_eq.mp h).symm, fun h => beq_iff_eq.mpr (of_decide_eq_true h).symm⟩)
    unfold inV at ih ⊢
    rw [List.map_cons, List.any_cons, ih, e]
    by_cases c1 : p = q
    · simp [c1]
    · simp [c1]
theorem inR_cln (n : Nat) {p : PV} {l : List PV} (hn : n + 1 < 63) (hp : cln n p = true) (hl : l.all (cln n) = true) (hs : ∀ s, p ≠ .str s ∨ True) : inR p (.lst l) = .ok (decide (p ∈ l)) := by
  have hL : cln (n + 1) (.lst l) = true := by simpa [cln] using hl
  have nb : noBls l = true := by
    have := cln_noBl (n + 1) (.lst l) hL
    simpa [noBl] using this
  have main : (if flatP p = true ∧ l.all flatP = true then R.ok (inV (toV p) (l.map toV)) else match toPD p, toPDs l with
    | some d, some ds => if SeqAt.shaped d = true ∧ SeqAt.shaped (.list ds) = true then .ok (ds.any fun z => PyData.eqv z d) else .no
    | _, _ => .no) = .ok (decide (p ∈ l)) := by
    by_cases c : flatP p = true ∧ l.all flatP = true
    · rw [if_pos c, inV_flat c.1 (cln_noBl n p hp) c.2 nb]
    · rw [if_neg c]
      obtain ⟨d, d1, d2⟩ := shaped_of hp (by omega)
      obtain ⟨e, e1, e2⟩ := shaped_of hL hn
      obtain ⟨ds, e3, rfl⟩ := toPD_lst e1
      simp only [d1, e3, d2, e2, and_self, if_true]
      congr 1
      have gen : ∀ (l : List PV) (ds : List PyData), noBls l = true → toPDs l = some ds → (ds.any fun z => PyData.eqv z d) = decide (p ∈ l) := by
        intro l
        induction l with
        | nil => intro ds _ h; cases h; simp
        | cons q l ih =>
          intro ds nb h
          simp only [toPDs, Option.bind_eq_some_iff, Option.map_eq_some_iff] at h
          obtain ⟨x, h1, xs, h2, rfl⟩ := h
          simp only [noBls, Bool.and_eq_true] at nb
          rw [List.any_cons, ih xs nb.2 h2, eqv_ok q p x d nb.1 (cln_noBl n p hp) h1 d1, peq_dec]
          by_cases c1 : p = q
          · simp [c1]
          · have c2 : ¬ q = p := fun z => c1 z.symm
            simp [c1, c2]
      exact gen l ds nb e3
  cases p <;> exact main
theorem in_cln (n : Nat) {p : PV} {l : List PV} {neg : Bool} (hn : n + 1 < 63) (hp : cln n p = true) (hl : l.all (cln n) = true) : pyIn neg p (.lst l) = .ok (.bl (if neg then !decide (p ∈ l) else decide (p ∈ l))) := by
  unfold pyIn
  rw [inR_cln n hn hp hl fun _ => .inr trivial]
  rfl
theorem in_flat {p : PV} {l : List PV} {neg : Bool} (hp : flatP p = true) (hb : noBl p = true) (hl : l.all flatP = true) (hlb : noBls l = true) : pyIn neg p (.tup l) = .ok (.bl (if neg then !decide (p ∈ l) else decide (p ∈ l))) := by
  have e : inR p (.tup l) = .ok (decide (p ∈ l)) := by
    have e2 : (if flatP p = true ∧ l.all flatP = true then R.ok (inV (toV p) (l.map toV)) else R.no) = R.ok (decide (p ∈ l)) := by rw [if_pos ⟨hp, hl⟩, inV_flat hp hb hl hlb]
    cases p <;> exact e2
  unfold pyIn
  rw [e]
  rfl
end L3


/-! The plain functions of the defs, as gen.py prints them. -/
namespace K03
open PySem PySem.Spec PyProof.Rows L2 L3
-- class 0: Fault
-- class 1: BadAmount
-- class 2: BadBook
-- class 3: NoPhase
-- class 4: Book
def ok_allowance : Nat → Bool := fun c => c == 4
def ok_kind : Nat → Bool := fun c => c == 4
def ok_overtime : Nat → Bool := fun c => c == 4
def ok_stages : Nat → Bool := fun c => c == 4
def okx_amount : Nat → Bool := fun c => c == 1
def okx_part : Nat → Bool := fun c => c == 2
def okx_phase : Nat → Bool := fun c => c == 3
def mt_BadAmount : Nat → Option Bool := fun c => if c = 0 then some false else if c = 1 then some true else if c = 2 then some false else if c = 3 then some false else none
def mt_BadBook : Nat → Option Bool := fun c => if c = 0 then some false else if c = 1 then some false else if c = 2 then some true else if c = 3 then some false else none
def mt_NoPhase : Nat → Option Bool := fun c => if c = 0 then some false else if c = 1 then some false else if c = 2 then some false else if c = 3 then some true else none
def ib_BadAmount : Nat → Option Bool := fun c => if c = 0 then some false else if c = 1 then some true else if c = 2 then some false else if c = 3 then some false else none
def ib_BadBook : Nat → Option Bool := fun c => if c = 0 then some false else if c = 1 then some false else if c = 2 then some true else if c = 3 then some false else none
def ib_Fault : Nat → Option Bool := fun c => if c = 0 then some true else if c = 1 then some true else if c = 2 then some true else if c = 3 then some true else none
def ib_NoPhase : Nat → Option Bool := fun c => if c = 0 then some false else if c = 1 then some false else if c = 2 then some false else if c = 3 then some true else none
def ic_Book : Nat → Option Bool := fun c => if c = 4 then some true else none
def tb_Book : String → Option Bool := fun s => if s = "tuple" ∨ s = "int" ∨ s = "list" ∨ s = "str" ∨ s = "NoneType" ∨ s = "bool" then some false else none
theorem nrr {α : Sort _} {a b : α} (h : a = b) : a = b := h
@[simp] theorem ok_allowance_4 : ok_allowance 4 = true := nrr rfl
@[simp] theorem ok_kind_4 : ok_kind 4 = true := nrr rfl
@[simp] theorem ok_overtime_4 : ok_overtime 4 = true := nrr rfl
@[simp] theorem ok_stages_4 : ok_stages 4 = true := nrr rfl
@[simp] theorem okx_amount_0 : okx_amount 0 = false := nrr rfl
@[simp] theorem okx_amount_1 : okx_amount 1 = true := nrr rfl
@[simp] theorem okx_amount_2 : okx_amount 2 = false := nrr rfl
@[simp] theorem okx_amount_3 : okx_amount 3 = false := nrr rfl
@[simp] theorem okx_part_0 : okx_part 0 = false := nrr rfl
@[simp] theorem okx_part_1 : okx_part 1 = false := nrr rfl
@[simp] theorem okx_part_2 : okx_part 2 = true := nrr rfl
@[simp] theorem okx_part_3 : okx_part 3 = false := nrr rfl
@[simp] theorem okx_phase_0 : okx_phase 0 = false := nrr rfl
@[simp] theorem okx_phase_1 : okx_phase 1 = false := nrr rfl
@[simp] theorem okx_phase_2 : okx_phase 2 = false := nrr rfl
@[simp] theorem okx_phase_3 : okx_phase 3 = true := nrr rfl
@[simp] theorem mt_BadAmount_0 : mt_BadAmount 0 = some false := nrr rfl
@[simp] theorem mt_BadAmount_1 : mt_BadAmount 1 = some true := nrr rfl
@[simp] theorem mt_BadAmount_2 : mt_BadAmount 2 = some false := nrr rfl
@[simp] theorem mt_BadAmount_3 : mt_BadAmount 3 = some false := nrr rfl
@[simp] theorem mt_BadBook_0 : mt_BadBook 0 = some false := nrr rfl
@[simp] theorem mt_BadBook_1 : mt_BadBook 1 = some false := nrr rfl
@[simp] theorem mt_BadBook_2 : mt_BadBook 2 = some true := nrr rfl
@[simp] theorem mt_BadBook_3 : mt_BadBook 3 = some false := nrr rfl
@[simp] theorem mt_NoPhase_0 : mt_NoPhase 0 = some false := nrr rfl
@[simp] theorem mt_NoPhase_1 : mt_NoPhase 1 = some false := nrr rfl
@[simp] theorem mt_NoPhase_2 : mt_NoPhase 2 = some false := nrr rfl
@[simp] theorem mt_NoPhase_3 : mt_NoPhase 3 = some true := nrr rfl
@[simp] theorem ib_BadAmount_0 : ib_BadAmount 0 = some false := nrr rfl
@[simp] theorem ib_BadAmount_1 : ib_BadAmount 1 = some true := nrr rfl
@[simp] theorem ib_BadAmount_2 : ib_BadAmount 2 = some false := nrr rfl
@[simp] theorem ib_BadAmount_3 : ib_BadAmount 3 = some false := nrr rfl
@[simp] theorem ib_BadBook_0 : ib_BadBook 0 = some false := nrr rfl
@[simp] theorem ib_BadBook_1 : ib_BadBook 1 = some false := nrr rfl
@[simp] theorem ib_BadBook_2 : ib_BadBook 2 = some true := nrr rfl
@[simp] theorem ib_BadBook_3 : ib_BadBook 3 = some false := nrr rfl
@[simp] theorem ib_Fault_0 : ib_Fault 0 = some true := nrr rfl
@[simp] theorem ib_Fault_1 : ib_Fault 1 = some true := nrr rfl
@[simp] theorem ib_Fault_2 : ib_Fault 2 = some true := nrr rfl
@[simp] theorem ib_Fault_3 : ib_Fault 3 = some true := nrr rfl
@[simp] theorem ib_NoPhase_0 : ib_NoPhase 0 = some false := nrr rfl
@[simp] theorem ib_NoPhase_1 : ib_NoPhase 1 = some false := nrr rfl
@[simp] theorem ib_NoPhase_2 : ib_NoPhase 2 = some false := nrr rfl
@[simp] theorem ib_NoPhase_3 : ib_NoPhase 3 = some true := nrr rfl
@[simp] theorem ic_Book_4 : ic_Book 4 = some true := nrr rfl
/-- checked_amount: slots 0 amount -/
def s_checked_amount  : L3.Env → RS := (sSeq (sIf (bOr (eTst (eBin pyLt (eVar 0) (eCst (.int 0)))) (eTst (eBin pyGt (eVar 0) (eCst (.int 1000000000000000000000000000000))))) (sRz 1 "amount" (eVar 0)) sNx) (sRt (mSh (eVar 0))))
def F_checked_amount : List PV → R OV := defF 1 1 s_checked_amount
theorem F_checked_amount_at {a0 : PV} : F_checked_amount [a0] = outS (s_checked_amount [some (.sh a0)]) := rfl
/-- keeps_good: slots 0 table, 1 one, 2 two, 3 time -/
def c_keeps_good_1 : L3.Env → R OV := (fSh (eIdx (eIdx (eVar 0) (eIdx (eVar 1) (eVar 3))) (eIdx (eVar 2) (eVar 3))))
def s_keeps_good  : L3.Env → RS := (sRt (mSh (eB bAll (aCons (eFz (fLc (.nm 3) [3] (iRg rng1R (aCons (eCst (.int 10)) aNil)) tYesB c_keeps_good_1)) aNil))))
def F_keeps_good : List PV → R OV := defF 4 3 s_keeps_good
theorem F_keeps_good_at {a0 a1 a2 : PV} : F_keeps_good [a0, a1, a2] = outS (s_keeps_good [some (.sh a0), some (.sh a1), some (.sh a2), none]) := rfl
/-- stages_fit: slots 0 stages, 1 moves, 2 gain -/
def b_stages_fit_1 : L3.Env → RS := (sIf (bOr (eTst (eBin pyLt (eVar 1) (eCst (.int 1)))) (bOr (eTst (eBin pyGt (eVar 1) (eCst (.int 6)))) (bOr (eTst (eBin pyLt (eVar 2) (eCst (.int 0)))) (eTst (eBin pyGt (eVar 2) (eCst (.int 60))))))) (sRt (mSh (eCst (.bl false)))) sNx)
def s_stages_fit  : L3.Env → RS := (sSeq (sIf (eTst (eBin pyGt (eB bLen (aCons (eVar 0) aNil)) (eCst (.int 3)))) (sRt (mSh (eCst (.bl false)))) sNx) (sSeq (sFor (.tp [1, 2]) [1, 2] (iSeq (eVar 0)) b_stages_fit_1) (sRt (mSh (eCst (.bl true))))))
def F_stages_fit : List PV → R OV := defF 3 1 s_stages_fit
theorem F_stages_fit_at {a0 : PV} : F_stages_fit [a0] = outS (s_stages_fit [some (.sh a0), none, none]) := rfl
/-- Book.charge: slots 0 self, 1 need, 2 drop -/
def s_Book_charge  : L3.Env → RS := (sSeq (sIf (eTst (eBin pyEq (eFld "kind" ok_kind (eVar 0)) (eCst (.str "delay")))) (sRt (mSh (eTup (aCons (eB bMax (aCons (eCst (.int 0)) (aCons (eBin pySub (eVar 1) (eFld "allowance" ok_allowance (eVar 0))) aNil))) (aCons (eB bMax (aCons (eCst (.int 0)) (aCons (eBin pySub (eVar 2) (eFld "allowance" ok_allowance (eVar 0))) aNil))) aNil))))) sNx) (sSeq (sIf (eTst (eBin pyEq (eFld "kind" ok_kind (eVar 0)) (eCst (.str "bonus")))) (sRt (mSh (eTup (aCons (eVar 1) (aCons (eB bMax (aCons (eCst (.int 0)) (aCons (eBin pySub (eVar 2) (eFld "allowance" ok_allowance (eVar 0))) aNil))) aNil))))) sNx) (sRt (mSh (eTup (aCons (eVar 1) (aCons (eVar 2) aNil)))))))
def F_Book_charge : List PV → R OV := defF 3 3 s_Book_charge
theorem F_Book_charge_at {a0 a1 a2 : PV} : F_Book_charge [a0, a1, a2] = outS (s_Book_charge [some (.sh a0), some (.sh a1), some (.sh a2)]) := rfl
/-- Book.stage_phase: slots 0 self, 1 stage -/
def s_Book_stage_phase  : L3.Env → RS := (sSeq (sIf (eTst (eBin pyLt (eVar 1) (eB bLen (aCons (eFld "stages" ok_stages (eVar 0)) aNil)))) (sRt (mSh (eTup (aCons (eVar 1) (aCons (eIdx (eIdx (eFld "stages" ok_stages (eVar 0)) (eVar 1)) (eCst (.int 0))) aNil))))) sNx) (sRt (mSh (eTup (aCons (eVar 1) (aCons (eCst (.int 0)) aNil))))))
def F_Book_stage_phase : List PV → R OV := defF 2 2 s_Book_stage_phase
theorem F_Book_stage_phase_at {a0 a1 : PV} : F_Book_stage_phase [a0, a1] = outS (s_Book_stage_phase [some (.sh a0), some (.sh a1)]) := rfl
/-- Book.phases: slots 0 self, 1 found, 2 stage, 3 done, 4 state -/
def b_Book_phases_1 : L3.Env → RS := (sApp (pVar 1) (mSh (eTup (aCons (eVar 2) (aCons (eBin pySub (eIdx (eIdx (eFld "stages" ok_stages (eVar 0)) (eVar 2)) (eCst (.int 0))) (eVar 3)) aNil)))))
def b_Book_phases_2 : L3.Env → RS := (sFor (.nm 3) [3] (iRg rng1R (aCons (eIdx (eIdx (eFld "stages" ok_stages (eVar 0)) (eVar 2)) (eCst (.int 0))) aNil)) b_Book_phases_1)
def b_Book_phases_3 : L3.Env → RS := (sApp (pVar 1) (mSh (eTup (aCons (eUn pyNeg (eCst (.int 1))) (aCons (eVar 4) aNil)))))
def s_Book_phases  : L3.Env → RS := (sSeq (sSet 1 (mFr (fLst aNil))) (sSeq (sFor (.nm 2) [2, 3] (iRg rng1R (aCons (eB bLen (aCons (eFld "stages" ok_stages (eVar 0)) aNil)) aNil)) b_Book_phases_2) (sSeq (sApp (pVar 1) (mSh (eTup (aCons (eB bLen (aCons (eFld "stages" ok_stages (eVar 0)) aNil)) (aCons (eCst (.int 0)) aNil))))) (sSeq (sFor (.nm 4) [4] (iRg rng1R (aCons (eB bLen (aCons (eFld "overtime" ok_overtime (eVar 0)) aNil)) aNil)) b_Book_phases_3) (sRt (mMv 1))))))
def F_Book_phases : List PV → R OV := defF 5 1 s_Book_phases
theorem F_Book_phases_at {a0 : PV} : F_Book_phases [a0] = outS (s_Book_phases [some (.sh a0), none, none, none, none]) := rfl
/-- Book.__eq__: slots 0 self, 1 other, 2 told -/
def s_Book_eq  : L3.Env → RS := (sSeq (sIf (bNot (eTst (eIsi tb_Book ic_Book (eVar 1)))) (sRt (mSh (eCst (.bl false)))) sNx) (sSeq (sSet 2 (mSh (eTup (aCons (eFld "kind" ok_kind (eVar 0)) (aCons (eFld "allowance" ok_allowance (eVar 0)) (aCons (eFld "stages" ok_stages (eVar 0)) (aCons (eFld "overtime" ok_overtime (eVar 0)) aNil))))))) (sRt (mSh (eBin pyEq (eVar 2) (eTup (aCons (eFld "kind" ok_kind (eVar 1)) (aCons (eFld "allowance" ok_allowance (eVar 1)) (aCons (eFld "stages" ok_stages (eVar 1)) (aCons (eFld "overtime" ok_overtime (eVar 1)) aNil))))))))))
def F_Book_eq : List PV → R OV := defF 3 2 s_Book_eq
theorem F_Book_eq_at {a0 a1 : PV} : F_Book_eq [a0, a1] = outS (s_Book_eq [some (.sh a0), some (.sh a1), none]) := rfl
/-- _law_cell: slots 0 script, 1 k -/
def s_p_law_cell  : L3.Env → RS := (sSeq (sIf (eTst (eBin pyLt (eVar 1) (eB bLen (aCons (eVar 0) aNil)))) (sRt (mSh (eIdx (eVar 0) (eVar 1)))) sNx) (sRt (mSh (eCst (.int 0)))))
def F_p_law_cell : List PV → R OV := defF 2 2 s_p_law_cell
theorem F_p_law_cell_at {a0 a1 : PV} : F_p_law_cell [a0, a1] = outS (s_p_law_cell [some (.sh a0), some (.sh a1)]) := rfl
/-- _law_numbers: slots 0 cell, 1 salt, 2 count, 3 many, 4 numbers, 5 rest, 6 great, 7 k, 8 mixed -/
def b_p_law_numbers_1 : L3.Env → RS := (sIf (bAnd (eTst (eVar 6)) (eTst (eBin pyGt (eVar 5) (eCst (.int 0))))) (sSeq (sApp (pVar 4) (mSh (eBin pyMod (eB bInt (aCons (eVar 5) aNil)) (eVar 3)))) (sSet 5 (mSh (eBin pyFdiv (eVar 5) (eVar 3))))) (sSeq (sSet 8 (mSh (eBin pyMod (eB bInt (aCons (eBin pyAdd (eBin pyAdd (eBin pyAdd (eB bAbs (aCons (eVar 0) aNil)) (eBin pyMul (eVar 1) (eCst (.int 7919)))) (eBin pyMul (eVar 7) (eCst (.int 104729)))) (eCst (.int 17))) aNil)) (eCst (.int 2147483647))))) (sSeq (sSet 8 (mSh (eBin pyMod (eB bInt (aCons (eBin pyAdd (eBin pyMul (eVar 8) (eCst (.int 48271))) (eCst (.int 5))) aNil)) (eCst (.int 2147483647))))) (sSeq (sSet 8 (mSh (eBin pyMod (eB bInt (aCons (eBin pyAdd (eBin pyAdd (eBin pyMul (eVar 8) (eVar 8)) (eBin pyMul (eVar 8) (eCst (.int 69621)))) (eBin pyMul (eVar 7) (eCst (.int 31)))) aNil)) (eCst (.int 2147483629))))) (sApp (pVar 4) (mSh (eBin pyMod (eB bInt (aCons (eBin pyFdiv (eVar 8) (eCst (.int 7))) aNil)) (eVar 3))))))))
def s_p_law_numbers  : L3.Env → RS := (sSeq (sSet 4 (mFr (fLst aNil))) (sSeq (sSet 5 (mSh (eB bAbs (aCons (eVar 0) aNil)))) (sSeq (sSet 6 (mSh (eBin pyGe (eVar 5) (eBin pyPow (eCst (.int 10)) (eCst (.int 18)))))) (sSeq (sFor (.nm 7) [7, 8] (iRg rng1R (aCons (eVar 2) aNil)) b_p_law_numbers_1) (sRt (mMv 4))))))
def F_p_law_numbers : List PV → R OV := defF 9 4 s_p_law_numbers
theorem F_p_law_numbers_at {a0 a1 a2 a3 : PV} : F_p_law_numbers [a0, a1, a2, a3] = outS (s_p_law_numbers [some (.sh a0), some (.sh a1), some (.sh a2), some (.sh a3), none, none, none, none, none]) := rfl
/-- _law_is: slots 0 actual, 1 expected -/
def s_p_law_is  : L3.Env → RS := (sRt (mSh (eAnd (eIsi (tbT "int") ibN (eVar 0)) (eAnd (eNot (eIsi (tbT "bool") ibN (eVar 0))) (eBin pyEq (eVar 0) (eVar 1))))))
def F_p_law_is : List PV → R OV := defF 2 2 s_p_law_is
theorem F_p_law_is_at {a0 a1 : PV} : F_p_law_is [a0, a1] = outS (s_p_law_is [some (.sh a0), some (.sh a1)]) := rfl
/-- _law_honest: slots 0 rows, 1 flag, 2 good, 3 turn, 4 worse, 5 left, 6 right, 7 time, 8 pair, 9 row -/
def c_p_law_honest_1 : L3.Env → R OV := (fSh (eOr (eBin pyLt (eVar 5) (eVar 1)) (eBin pyEq (eVar 6) (eVar 1))))
def c_p_law_honest_2 : L3.Env → R OV := (fLc (.nm 6) [6] (iRg rng1R (aCons (eBin pyAdd (eVar 1) (eCst (.int 1))) aNil)) tYesB c_p_law_honest_1)
def b_p_law_honest_1 : L3.Env → RS := (sIf (bNot (eTst (eIdx (eIdx (eOwn 2) (eIdx (eIdx (eVar 0) (eVar 5)) (eVar 7))) (eIdx (eIdx (eVar 0) (eVar 6)) (eVar 7))))) (sApp (pVar 4) (mSh (eFz (fLst (aCons (eVar 5) (aCons (eVar 6) aNil)))))) sNx)
def b_p_law_honest_2 : L3.Env → RS := (sIf (eTst (eIdx (eIdx (eOwn 2) (eVar 5)) (eVar 6))) (sFor (.nm 7) [7] (iRg rng1R (aCons (eCst (.int 10)) aNil)) b_p_law_honest_1) sNx)
def b_p_law_honest_3 : L3.Env → RS := (sFor (.nm 6) [6, 7] (iRg rng1R (aCons (eVar 1) aNil)) b_p_law_honest_2)
def b_p_law_honest_4 : L3.Env → RS := (sSt (pIx (pVar 2) (eIdx (eVar 8) (eCst (.int 0)))) (eIdx (eVar 8) (eCst (.int 1))) (mSh (eCst (.bl false))))
def b_p_law_honest_5 : L3.Env → RS := (sSeq (sSet 4 (mFr (fLst aNil))) (sSeq (sFor (.nm 5) [5, 6, 7] (iRg rng1R (aCons (eVar 1) aNil)) b_p_law_honest_3) (sSeq (sIf (eTst (eBin pyEq (eB bLen (aCons (eOwn 4) aNil)) (eCst (.int 0)))) sBk sNx) (sFz 4 (sFor (.nm 8) [8] (iSeq (eVar 4)) b_p_law_honest_4)))))
def b_p_law_honest_6 : L3.Env → RS := (sIf (bNot (eTst (eIdx (eIdx (eOwn 2) (eIdx (eVar 9) (eVar 7))) (eIdx (eVar 9) (eBin pyAdd (eVar 7) (eCst (.int 1))))))) (sRt (mSh (eCst (.bl false)))) sNx)
def b_p_law_honest_7 : L3.Env → RS := (sFor (.nm 7) [7] (iRg rng1R (aCons (eCst (.int 9)) aNil)) b_p_law_honest_6)
def s_p_law_honest  : L3.Env → RS := (sSeq (sSet 1 (mSh (eB bLen (aCons (eVar 0) aNil)))) (sSeq (sSet 2 (mFr (fLc (.nm 5) [5] (iRg rng1R (aCons (eBin pyAdd (eVar 1) (eCst (.int 1))) aNil)) tYesB c_p_law_honest_2))) (sSeq (sFor (.nm 3) [3, 4, 5, 6, 7, 8] (iRg rng1R (aCons (eBin pyAdd (eBin pyMul (eBin pyAdd (eVar 1) (eCst (.int 1))) (eBin pyAdd (eVar 1) (eCst (.int 1)))) (eCst (.int 1))) aNil)) b_p_law_honest_5) (sSeq (sFor (.nm 9) [7, 9] (iSeq (eVar 0)) b_p_law_honest_7) (sRt (mSh (eCst (.bl true))))))))
def F_p_law_honest : List PV → R OV := defF 10 1 s_p_law_honest
theorem F_p_law_honest_at {a0 : PV} : F_p_law_honest [a0] = outS (s_p_law_honest [some (.sh a0), none, none, none, none, none, none, none, none, none]) := rfl
/-- _law_charged: slots 0 kind, 1 allowance, 2 need, 3 drop -/
def s_p_law_charged  : L3.Env → RS := (sSeq (sIf (eTst (eBin pyEq (eVar 0) (eCst (.str "plain")))) (sRt (mSh (eFz (fLst (aCons (eVar 2) (aCons (eVar 3) aNil)))))) sNx) (sSeq (sIf (eTst (eBin pyEq (eVar 0) (eCst (.str "bonus")))) (sRt (mSh (eFz (fLst (aCons (eVar 2) (aCons (eB bMax (aCons (eCst (.int 0)) (aCons (eBin pySub (eVar 3) (eVar 1)) aNil))) aNil)))))) sNx) (sRt (mSh (eFz (fLst (aCons (eB bMax (aCons (eCst (.int 0)) (aCons (eBin pySub (eVar 2) (eVar 1)) aNil))) (aCons (eB bMax (aCons (eCst (.int 0)) (aCons (eBin pySub (eVar 3) (eVar 1)) aNil))) aNil))))))))
def F_p_law_charged : List PV → R OV := defF 4 4 s_p_law_charged
theorem F_p_law_charged_at {a0 a1 a2 a3 : PV} : F_p_law_charged [a0, a1, a2, a3] = outS (s_p_law_charged [some (.sh a0), some (.sh a1), some (.sh a2), some (.sh a3)]) := rfl
/-- _law_phases: slots 0 stages, 1 count, 2 phases, 3 stage, 4 done, 5 state -/
def b_p_law_phases_1 : L3.Env → RS := (sApp (pVar 2) (mSh (eTup (aCons (eVar 3) (aCons (eBin pySub (eIdx (eIdx (eVar 0) (eVar 3)) (eCst (.int 0))) (eVar 4)) aNil)))))
def b_p_law_phases_2 : L3.Env → RS := (sFor (.nm 4) [4] (iRg rng1R (aCons (eIdx (eIdx (eVar 0) (eVar 3)) (eCst (.int 0))) aNil)) b_p_law_phases_1)
def c_p_law_phases_1 : L3.Env → R OV := (fSh (eTup (aCons (eUn pyNeg (eCst (.int 1))) (aCons (eVar 5) aNil))))
def s_p_law_phases  : L3.Env → RS := (sSeq (sSet 2 (mFr (fLst aNil))) (sSeq (sFor (.nm 3) [3, 4] (iRg rng1R (aCons (eB bLen (aCons (eVar 0) aNil)) aNil)) b_p_law_phases_2) (sSeq (sApp (pVar 2) (mSh (eTup (aCons (eB bLen (aCons (eVar 0) aNil)) (aCons (eCst (.int 0)) aNil))))) (sFz 2 (sRt (mSh (eBin pyAdd (eVar 2) (eFz (fLc (.nm 5) [5] (iRg rng1R (aCons (eVar 1) aNil)) tYesB c_p_law_phases_1)))))))))
def F_p_law_phases : List PV → R OV := defF 6 2 s_p_law_phases
theorem F_p_law_phases_at {a0 a1 : PV} : F_p_law_phases [a0, a1] = outS (s_p_law_phases [some (.sh a0), some (.sh a1), none, none, none, none]) := rfl
def fuel_good_pairs : L3.Env → Nat := fun _ => 1000
/-- good_pairs: slots 0 rows, 1 flag, 2 table, 3 changed, 4 left, 5 right -/
def c_good_pairs_1 : L3.Env → R OV := (fSh (eOr (eBin pyLt (eVar 4) (eVar 1)) (eBin pyEq (eVar 5) (eVar 1))))
def c_good_pairs_2 : L3.Env → R OV := (fLc (.nm 5) [5] (iRg rng1R (aCons (eBin pyAdd (eVar 1) (eCst (.int 1))) aNil)) tYesB c_good_pairs_1)
def b_good_pairs_1 : L3.Env → RS := (sIf (bAnd (eTst (eIdx (eIdx (eOwn 2) (eVar 4)) (eVar 5))) (bNot (eTst (eFz (fCall false F_keeps_good [] (aCons (eOwn 2) (aCons (eIdx (eVar 0) (eVar 4)) (aCons (eIdx (eVar 0) (eVar 5)) aNil)))))))) (sSeq (sSt (pIx (pVar 2) (eVar 4)) (eVar 5) (mSh (eCst (.bl false)))) (sSet 3 (mSh (eCst (.bl true))))) sNx)
def b_good_pairs_2 : L3.Env → RS := (sFor (.nm 5) [5] (iRg rng1R (aCons (eVar 1) aNil)) b_good_pairs_1)
def b_good_pairs_3 : L3.Env → RS := (sSeq (sSet 3 (mSh (eCst (.bl false)))) (sFor (.nm 4) [4, 5] (iRg rng1R (aCons (eVar 1) aNil)) b_good_pairs_2))
def s_good_pairs  : L3.Env → RS := (sSeq (sSet 1 (mSh (eB bLen (aCons (eVar 0) aNil)))) (sSeq (sSet 2 (mFr (fLc (.nm 4) [4] (iRg rng1R (aCons (eBin pyAdd (eVar 1) (eCst (.int 1))) aNil)) tYesB c_good_pairs_2))) (sSeq (sSet 3 (mSh (eCst (.bl true)))) (sSeq (sWhile fuel_good_pairs [4, 5] (eTst (eVar 3)) b_good_pairs_3) (sRt (mMv 2))))))
def F_good_pairs : List PV → R OV := defF 6 1 s_good_pairs
theorem F_good_pairs_at {a0 : PV} : F_good_pairs [a0] = outS (s_good_pairs [some (.sh a0), none, none, none, none, none]) := rfl
/-- Book.opening: slots 0 self -/
def s_Book_opening  : L3.Env → RS := (sRt (mSh (eFz (fMeth true 4 "stage_phase" F_Book_stage_phase [] (eVar 0) (aCons (eCst (.int 0)) aNil)))))
def F_Book_opening : List PV → R OV := defF 1 1 s_Book_opening
theorem F_Book_opening_at {a0 : PV} : F_Book_opening [a0] = outS (s_Book_opening [some (.sh a0)]) := rfl
/-- Book.moved: slots 0 self, 1 phase, 2 stage, 3 left -/
def s_Book_moved  : L3.Env → RS := (sSeq (sTg (.tp [2, 3]) (eVar 1)) (sSeq (sIf (bOr (eTst (eBin pyLt (eVar 2) (eCst (.int 0)))) (eTst (eBin (pyIn true) (eTup (aCons (eVar 2) (aCons (eVar 3) aNil))) (eFz (fMeth true 4 "phases" F_Book_phases [] (eVar 0) aNil))))) (sRz 3 "phase" (eTup (aCons (eVar 2) (aCons (eVar 3) aNil)))) sNx) (sSeq (sIf (eTst (eBin pyEq (eVar 3) (eCst (.int 0)))) (sRt (mSh (eTup (aCons (eTup (aCons (eVar 2) (aCons (eVar 3) aNil))) (aCons (eCst (.int 0)) aNil))))) sNx) (sSeq (sIf (eTst (eBin pyGt (eVar 3) (eCst (.int 1)))) (sRt (mSh (eTup (aCons (eTup (aCons (eVar 2) (aCons (eBin pySub (eVar 3) (eCst (.int 1))) aNil))) (aCons (eCst (.int 0)) aNil))))) sNx) (sRt (mSh (eTup (aCons (eFz (fMeth true 4 "stage_phase" F_Book_stage_phase [] (eVar 0) (aCons (eBin pyAdd (eVar 2) (eCst (.int 1))) aNil))) (aCons (eIdx (eIdx (eFld "stages" ok_stages (eVar 0)) (eVar 2)) (eCst (.int 1))) aNil)))))))))
def F_Book_moved : List PV → R OV := defF 4 2 s_Book_moved
theorem F_Book_moved_at {a0 a1 : PV} : F_Book_moved [a0, a1] = outS (s_Book_moved [some (.sh a0), some (.sh a1), none, none]) := rfl
/-- Book.overtime_step: slots 0 self, 1 state, 2 time -/
def s_Book_overtime_step  : L3.Env → RS := (sSeq (sIf (bOr (eTst (eBin pyLt (eVar 1) (eCst (.int 0)))) (eTst (eBin pyGe (eVar 1) (eB bLen (aCons (eFld "overtime" ok_overtime (eVar 0)) aNil))))) (sRz 3 "phase" (eTup (aCons (eUn pyNeg (eCst (.int 1))) (aCons (eVar 1) aNil)))) sNx) (sSeq (sDo (fCall true F_checked_amount [] (aCons (eVar 2) aNil))) (sSeq (sIf (bOr (eTst (eBin pyGe (eVar 2) (eCst (.int 10)))) (eTst (eBin pyEq (eIdx (eIdx (eFld "overtime" ok_overtime (eVar 0)) (eVar 1)) (eVar 2)) (eB bLen (aCons (eFld "overtime" ok_overtime (eVar 0)) aNil))))) (sRt (mSh (eCst .non))) sNx) (sRt (mSh (eIdx (eIdx (eFld "overtime" ok_overtime (eVar 0)) (eVar 1)) (eVar 2)))))))
def F_Book_overtime_step : List PV → R OV := defF 3 3 s_Book_overtime_step
theorem F_Book_overtime_step_at {a0 a1 a2 : PV} : F_Book_overtime_step [a0, a1, a2] = outS (s_Book_overtime_step [some (.sh a0), some (.sh a1), some (.sh a2)]) := rfl
/-- _law_pair: slots 0 actual, 1 expected -/
def s_p_law_pair  : L3.Env → RS := (sSeq (sIf (bOr (bNot (eTst (eIsi (tbT "tuple") ibN (eVar 0)))) (eTst (eBin pyNe (eB bLen (aCons (eVar 0) aNil)) (eCst (.int 2))))) (sRt (mSh (eCst (.bl false)))) sNx) (sRt (mSh (eAnd (eFz (fCall true F_p_law_is [] (aCons (eIdx (eVar 0) (eCst (.int 0))) (aCons (eIdx (eVar 1) (eCst (.int 0))) aNil)))) (eFz (fCall true F_p_law_is [] (aCons (eIdx (eVar 0) (eCst (.int 1))) (aCons (eIdx (eVar 1) (eCst (.int 1))) aNil))))))))
def F_p_law_pair : List PV → R OV := defF 2 2 s_p_law_pair
theorem F_p_law_pair_at {a0 a1 : PV} : F_p_law_pair [a0, a1] = outS (s_p_law_pair [some (.sh a0), some (.sh a1)]) := rfl
/-- _law_rows: slots 0 cell, 1 count, 2 way, 3 rows, 4 low, 5 state, 6 ups, 7 row, 8 height, 9 time, 10 spot -/
def b_p_law_rows_1 : L3.Env → RS := (sSeq (sIf (eTst (eBin pyEq (eBin pyMod (eVar 2) (eCst (.int 4))) (eCst (.int 3)))) (sSet 8 (mSh (eBin pyMod (eIdx (eVar 6) (eVar 9)) (eBin pyAdd (eVar 1) (eCst (.int 1)))))) (sSet 8 (mSh (eB bMin (aCons (eVar 1) (aCons (eB bMax (aCons (eBin pyAdd (eVar 8) (eBin pyFdiv (eIdx (eVar 6) (eVar 9)) (eCst (.int 2)))) (aCons (eIdx (eVar 4) (eVar 9)) aNil))) aNil)))))) (sApp (pVar 7) (mSh (eVar 8))))
def b_p_law_rows_2 : L3.Env → RS := (sSeq (sSet 6 (mSh (eFz (fCall true F_p_law_numbers [] (aCons (eVar 0) (aCons (eBin pyAdd (eCst (.int 60)) (eVar 5)) (aCons (eCst (.int 10)) (aCons (eIf (eTst (eBin pyEq (eBin pyMod (eVar 2) (eCst (.int 2))) (eCst (.int 0)))) (eCst (.int 3)) (eBin pyAdd (eVar 1) (eCst (.int 1)))) aNil)))))))) (sSeq (sSet 7 (mFr (fLst aNil))) (sSeq (sSet 8 (mSh (eCst (.int 0)))) (sSeq (sFor (.nm 9) [9] (iRg rng1R (aCons (eCst (.int 10)) aNil)) b_p_law_rows_1) (sAppList (pVar 3) 7 4 (sFz 4 sNx))))))
def s_p_law_rows  : L3.Env → RS := (sSeq (sSet 3 (mFr (fLst aNil))) (sSeq (sSet 4 (mSh (eBin pyMul (eFz (fLst (aCons (eCst (.int 0)) aNil))) (eCst (.int 10))))) (sSeq (sFor (.nm 5) [5, 6, 7, 8, 9] (iRg rng1R (aCons (eVar 1) aNil)) b_p_law_rows_2) (sSeq (sIf (bAnd (eTst (eBin pyEq (eBin pyMod (eVar 2) (eCst (.int 4))) (eCst (.int 1)))) (eTst (eBin pyGt (eVar 1) (eCst (.int 0))))) (sSeq (sSet 10 (mSh (eFz (fCall true F_p_law_numbers [] (aCons (eVar 0) (aCons (eCst (.int 90)) (aCons (eCst (.int 3)) (aCons (eCst (.int 1000)) aNil)))))))) (sSt (pIx (pVar 3) (eBin pyMod (eIdx (eVar 10) (eCst (.int 0))) (eVar 1))) (eBin pyMod (eIdx (eVar 10) (eCst (.int 1))) (eCst (.int 10))) (mSh (eBin pyMod (eIdx (eVar 10) (eCst (.int 2))) (eBin pyAdd (eVar 1) (eCst (.int 1))))))) sNx) (sRt (mMv 3))))))
def F_p_law_rows : List PV → R OV := defF 11 3 s_p_law_rows
theorem F_p_law_rows_at {a0 a1 a2 : PV} : F_p_law_rows [a0, a1, a2] = outS (s_p_law_rows [some (.sh a0), some (.sh a1), some (.sh a2), none, none, none, none, none, none, none, none]) := rfl
/-- is_honest: slots 0 rows, 1 table, 2 row, 3 time -/
def b_is_honest_1 : L3.Env → RS := (sIf (bNot (eTst (eIdx (eIdx (eVar 1) (eIdx (eVar 2) (eVar 3))) (eIdx (eVar 2) (eBin pyAdd (eVar 3) (eCst (.int 1))))))) (sRt (mSh (eCst (.bl false)))) sNx)
def b_is_honest_2 : L3.Env → RS := (sFor (.nm 3) [3] (iRg rng1R (aCons (eBin pySub (eCst (.int 10)) (eCst (.int 1))) aNil)) b_is_honest_1)
def s_is_honest  : L3.Env → RS := (sSeq (sSet 1 (mSh (eFz (fCall true F_good_pairs [] (aCons (eVar 0) aNil))))) (sSeq (sFor (.nm 2) [2, 3] (iSeq (eVar 0)) b_is_honest_2) (sRt (mSh (eCst (.bl true))))))
def F_is_honest : List PV → R OV := defF 4 1 s_is_honest
theorem F_is_honest_at {a0 : PV} : F_is_honest [a0] = outS (s_is_honest [some (.sh a0), none, none, none]) := rfl
/-- _law_no_phase: slots 0 book, 1 phase, 2 e -/
def s_p_law_no_phase  : L3.Env → RS := (sSeq (sTry (sDo (fMeth true 4 "moved" F_Book_moved [] (eVar 0) (aCons (eVar 1) aNil))) (⟨mt_NoPhase, some 2, fun x => (sRt (mSh (eAnd (eBin pyEq (eXf okx_phase x "phase") (eVar 1)) (eAnd (eXi ib_Fault x) (eNot (eXi ib_BadBook x))))))⟩ :: [])) (sRt (mSh (eCst (.bl false)))))
def F_p_law_no_phase : List PV → R OV := defF 3 2 s_p_law_no_phase
theorem F_p_law_no_phase_at {a0 a1 : PV} : F_p_law_no_phase [a0, a1] = outS (s_p_law_no_phase [some (.sh a0), some (.sh a1), none]) := rfl
/-- _law_no_state: slots 0 book, 1 state, 2 e -/
def s_p_law_no_state  : L3.Env → RS := (sSeq (sTry (sDo (fMeth true 4 "overtime_step" F_Book_overtime_step [] (eVar 0) (aCons (eVar 1) (aCons (eUn pyNeg (eCst (.int 1))) aNil)))) (⟨mt_NoPhase, some 2, fun x => (sRt (mSh (eAnd (eBin pyEq (eXf okx_phase x "phase") (eTup (aCons (eUn pyNeg (eCst (.int 1))) (aCons (eVar 1) aNil)))) (eAnd (eXi ib_Fault x) (eNot (eXi ib_BadAmount x))))))⟩ :: [])) (sRt (mSh (eCst (.bl false)))))
def F_p_law_no_state : List PV → R OV := defF 3 2 s_p_law_no_state
theorem F_p_law_no_state_at {a0 a1 : PV} : F_p_law_no_state [a0, a1] = outS (s_p_law_no_state [some (.sh a0), some (.sh a1), none]) := rfl
/-- overtime_fits: slots 0 rows, 1 row -/
def b_overtime_fits_1 : L3.Env → RS := (sIf (bOr (eTst (eBin pyNe (eB bLen (aCons (eVar 1) aNil)) (eCst (.int 10)))) (bOr (eTst (eBin pyLt (eB bMin (aCons (eVar 1) aNil)) (eCst (.int 0)))) (eTst (eBin pyGt (eB bMax (aCons (eVar 1) aNil)) (eB bLen (aCons (eVar 0) aNil)))))) (sRt (mSh (eCst (.bl false)))) sNx)
def s_overtime_fits  : L3.Env → RS := (sSeq (sIf (eTst (eBin pyGt (eB bLen (aCons (eVar 0) aNil)) (eCst (.int 12)))) (sRt (mSh (eCst (.bl false)))) sNx) (sSeq (sFor (.nm 1) [1] (iSeq (eVar 0)) b_overtime_fits_1) (sRt (mSh (eFz (fCall true F_is_honest [] (aCons (eVar 0) aNil)))))))
def F_overtime_fits : List PV → R OV := defF 2 1 s_overtime_fits
theorem F_overtime_fits_at {a0 : PV} : F_overtime_fits [a0] = outS (s_overtime_fits [some (.sh a0), none]) := rfl
/-- _law_moves: slots 0 book, 1 stages, 2 count, 3 phases, 4 told, 5 k, 6 stage, 7 due, 8 gain, 9 moved -/
def b_p_law_moves_1 : L3.Env → RS := (sSeq (sIf (bNot (eTst (eFz (fCall false F_p_law_pair [] (aCons (eIdx (eOwn 4) (eVar 5)) (aCons (eIdx (eVar 3) (eVar 5)) aNil)))))) (sRt (mSh (eCst (.bl false)))) sNx) (sSeq (sSet 6 (mSh (eIdx (eIdx (eVar 3) (eVar 5)) (eCst (.int 0))))) (sIf (eTst (eBin pyLt (eVar 6) (eCst (.int 0)))) (sIf (bNot (eTst (eFz (fCall true F_p_law_no_phase [] (aCons (eVar 0) (aCons (eIdx (eVar 3) (eVar 5)) aNil)))))) (sRt (mSh (eCst (.bl false)))) sNx) (sSeq (sSet 7 (mSh (eIf (eTst (eBin pyLt (eVar 6) (eB bLen (aCons (eVar 1) aNil)))) (eIdx (eVar 3) (eBin pyAdd (eVar 5) (eCst (.int 1)))) (eIdx (eVar 3) (eVar 5))))) (sSeq (sSet 8 (mSh (eIf (bAnd (eTst (eBin pyLt (eVar 6) (eB bLen (aCons (eVar 1) aNil)))) (eTst (eBin pyEq (eIdx (eIdx (eVar 3) (eVar 5)) (eCst (.int 1))) (eCst (.int 1))))) (eIdx (eIdx (eVar 1) (eVar 6)) (eCst (.int 1))) (eCst (.int 0))))) (sSeq (sSet 9 (mSh (eFz (fMeth true 4 "moved" F_Book_moved [] (eVar 0) (aCons (eIdx (eVar 3) (eVar 5)) aNil))))) (sSeq (sIf (bOr (bNot (eTst (eIsi (tbT "tuple") ibN (eVar 9)))) (eTst (eBin pyNe (eB bLen (aCons (eVar 9) aNil)) (eCst (.int 2))))) (sRt (mSh (eCst (.bl false)))) sNx) (sIf (bOr (bNot (eTst (eFz (fCall true F_p_law_pair [] (aCons (eIdx (eVar 9) (eCst (.int 0))) (aCons (eVar 7) aNil)))))) (bNot (eTst (eFz (fCall true F_p_law_is [] (aCons (eIdx (eVar 9) (eCst (.int 1))) (aCons (eVar 8) aNil))))))) (sRt (mSh (eCst (.bl false)))) sNx))))))))
def s_p_law_moves  : L3.Env → RS := (sSeq (sSet 3 (mSh (eFz (fCall true F_p_law_phases [] (aCons (eVar 1) (aCons (eVar 2) aNil)))))) (sSeq (sSet 4 (mFr (fMeth true 4 "phases" F_Book_phases [] (eVar 0) aNil))) (sSeq (sIf (bOr (bNot (eTst (eIsi (tbT "list") ibN (eOwn 4)))) (bOr (eTst (eBin pyNe (eB bLen (aCons (eOwn 4) aNil)) (eB bLen (aCons (eVar 3) aNil)))) (bNot (eTst (eFz (fCall true F_p_law_pair [] (aCons (eFz (fMeth true 4 "opening" F_Book_opening [] (eVar 0) aNil)) (aCons (eIdx (eVar 3) (eCst (.int 0))) aNil)))))))) (sRt (mSh (eCst (.bl false)))) sNx) (sSeq (sFor (.nm 5) [5, 6, 7, 8, 9] (iRg rng1R (aCons (eB bLen (aCons (eVar 3) aNil)) aNil)) b_p_law_moves_1) (sSeq (sApp (pVar 4) (mSh (eTup (aCons (eCst (.int 7)) (aCons (eCst (.int 7)) aNil))))) (sSeq (sIf (bOr (eTst (eBin pyNe (eB bLen (aCons (eFz (fMeth true 4 "phases" F_Book_phases [] (eVar 0) aNil)) aNil)) (eB bLen (aCons (eVar 3) aNil)))) (bNot (eTst (eFz (fCall true F_p_law_no_phase [] (aCons (eVar 0) (aCons (eTup (aCons (eB bLen (aCons (eVar 1) aNil)) (aCons (eCst (.int 1)) aNil))) aNil))))))) (sRt (mSh (eCst (.bl false)))) sNx) (sRt (mSh (eAnd (eFz (fCall true F_p_law_no_phase [] (aCons (eVar 0) (aCons (eTup (aCons (eBin pyAdd (eB bLen (aCons (eVar 1) aNil)) (eCst (.int 1))) (aCons (eCst (.int 0)) aNil))) aNil)))) (eAnd (eFz (fCall true F_p_law_no_phase [] (aCons (eVar 0) (aCons (eTup (aCons (eCst (.int 0)) (aCons (eCst (.int 7)) aNil))) aNil)))) (eFz (fCall true F_p_law_no_phase [] (aCons (eVar 0) (aCons (eTup (aCons (eUn pyNeg (eCst (.int 2))) (aCons (eCst (.int 0)) aNil))) aNil))))))))))))))
def F_p_law_moves : List PV → R OV := defF 10 3 s_p_law_moves
theorem F_p_law_moves_at {a0 a1 a2 : PV} : F_p_law_moves [a0, a1, a2] = outS (s_p_law_moves [some (.sh a0), some (.sh a1), some (.sh a2), none, none, none, none, none, none, none]) := rfl
/-- _law_steps: slots 0 book, 1 rows, 2 great, 3 state, 4 time, 5 due, 6 told, 7 e -/
def b_p_law_steps_1 : L3.Env → RS := (sSeq (sSet 5 (mSh (eIf (eTst (eBin pyLt (eVar 4) (eCst (.int 10)))) (eIdx (eIdx (eVar 1) (eVar 3)) (eVar 4)) (eB bLen (aCons (eVar 1) aNil))))) (sSeq (sSet 6 (mSh (eFz (fMeth true 4 "overtime_step" F_Book_overtime_step [] (eVar 0) (aCons (eVar 3) (aCons (eVar 4) aNil)))))) (sSeq (sIf (bAnd (eTst (eBin pyEq (eVar 5) (eB bLen (aCons (eVar 1) aNil)))) (eTst (eNotN (eVar 6)))) (sRt (mSh (eCst (.bl false)))) sNx) (sIf (bAnd (eTst (eBin pyLt (eVar 5) (eB bLen (aCons (eVar 1) aNil)))) (bNot (eTst (eFz (fCall true F_p_law_is [] (aCons (eVar 6) (aCons (eVar 5) aNil))))))) (sRt (mSh (eCst (.bl false)))) sNx))))
def b_p_law_steps_2 : L3.Env → RS := (sSeq (sFor (.nm 4) [4, 5, 6] (iSeq (eBin pyAdd (eFz (fB bLstR (aCons (eCst (.int 13)) aNil))) (eFz (fLst (aCons (eVar 2) aNil))))) b_p_law_steps_1) (sTry (sSeq (sDo (fMeth true 4 "overtime_step" F_Book_overtime_step [] (eVar 0) (aCons (eVar 3) (aCons (eBin pyAdd (eBin pyAdd (eBin pyPow (eCst (.int 10)) (eCst (.int 30))) (eCst (.int 1))) (eVar 3)) aNil)))) (sRt (mSh (eCst (.bl false))))) (⟨mt_BadAmount, some 7, fun x => (sIf (bNot (eTst (eFz (fCall true F_p_law_is [] (aCons (eXf okx_amount x "amount") (aCons (eBin pyAdd (eBin pyAdd (eBin pyPow (eCst (.int 10)) (eCst (.int 30))) (eCst (.int 1))) (eVar 3)) aNil)))))) (sRt (mSh (eCst (.bl false)))) sNx)⟩ :: [])))
def s_p_law_steps  : L3.Env → RS := (sSeq (sFor (.nm 3) [3, 4, 5, 6, 7] (iRg rng1R (aCons (eB bLen (aCons (eVar 1) aNil)) aNil)) b_p_law_steps_2) (sRt (mSh (eAnd (eFz (fCall true F_p_law_no_state [] (aCons (eVar 0) (aCons (eB bLen (aCons (eVar 1) aNil)) aNil)))) (eFz (fCall true F_p_law_no_state [] (aCons (eVar 0) (aCons (eUn pyNeg (eCst (.int 1))) aNil))))))))
def F_p_law_steps : List PV → R OV := defF 8 3 s_p_law_steps
theorem F_p_law_steps_at {a0 a1 a2 : PV} : F_p_law_steps [a0, a1, a2] = outS (s_p_law_steps [some (.sh a0), some (.sh a1), some (.sh a2), none, none, none, none, none]) := rfl
/-- Book.__init__: slots 0 self, 1 kind, 2 allowance, 3 stages, 4 overtime, 5 stage, 6 row -/
def c_Book_init_1 : L3.Env → R OV := (fSh (eB bTuple (aCons (eVar 5) aNil)))
def c_Book_init_2 : L3.Env → R OV := (fSh (eB bTuple (aCons (eVar 6) aNil)))
def s_Book_init  : L3.Env → RS := (sSeq (sIf (eTst (eBin (pyIn true) (eVar 1) (eCst (.tup [(.str "plain"), (.str "delay"), (.str "bonus")])))) (sRz 2 "part" (eCst (.str "kind"))) sNx) (sSeq (sIf (bOr (eTst (eBin pyLt (eVar 2) (eCst (.int 0)))) (bOr (eTst (eBin pyGt (eVar 2) (eCst (.int 9)))) (bAnd (eTst (eBin pyEq (eVar 1) (eCst (.str "plain")))) (eTst (eBin pyGt (eVar 2) (eCst (.int 0))))))) (sRz 2 "part" (eCst (.str "allowance"))) sNx) (sSeq (sIf (bNot (eTst (eFz (fCall true F_stages_fit [] (aCons (eVar 3) aNil))))) (sRz 2 "part" (eCst (.str "stages"))) sNx) (sSeq (sIf (bNot (eTst (eFz (fCall true F_overtime_fits [] (aCons (eVar 4) aNil))))) (sRz 2 "part" (eCst (.str "overtime"))) sNx) (sSeq (sFl (pVar 0) ok_kind "kind" (mSh (eVar 1))) (sSeq (sFl (pVar 0) ok_allowance "allowance" (mSh (eVar 2))) (sSeq (sFl (pVar 0) ok_stages "stages" (mSh (eB bTuple (aCons (eFz (fLc (.nm 5) [5] (iSeq (eVar 3)) tYesB c_Book_init_1)) aNil)))) (sFl (pVar 0) ok_overtime "overtime" (mSh (eB bTuple (aCons (eFz (fLc (.nm 6) [6] (iSeq (eVar 4)) tYesB c_Book_init_2)) aNil)))))))))))
def F_Book_init : List PV → R (List (Str × OV)) := initF 7 5 4 s_Book_init
theorem F_Book_init_at {a0 a1 a2 a3 : PV} : F_Book_init [a0, a1, a2, a3] = outI 4 (s_Book_init [some (.obj 4 []), some (.sh a0), some (.sh a1), some (.sh a2), some (.sh a3), none, none]) := rfl
/-- _law_refused: slots 0 kind, 1 allowance, 2 stages, 3 rows, 4 part, 5 e -/
def s_p_law_refused  : L3.Env → RS := (sSeq (sTry (sDo (fMake true 4 F_Book_init [] (aCons (eVar 0) (aCons (eVar 1) (aCons (eVar 2) (aCons (eVar 3) aNil)))))) (⟨mt_BadBook, some 5, fun x => (sRt (mSh (eAnd (eBin pyEq (eXf okx_part x "part") (eVar 4)) (eAnd (eXi ib_Fault x) (eNot (eXi ib_NoPhase x))))))⟩ :: [])) (sRt (mSh (eCst (.bl false)))))
def F_p_law_refused : List PV → R OV := defF 6 5 s_p_law_refused
theorem F_p_law_refused_at {a0 a1 a2 a3 a4 : PV} : F_p_law_refused [a0, a1, a2, a3, a4] = outS (s_p_law_refused [some (.sh a0), some (.sh a1), some (.sh a2), some (.sh a3), some (.sh a4), none]) := rfl
/-- _law_bounds: slots 0 kind, 1 allowance, 2 stages, 3 rows, 4 n, 5 wrong, 6 pair, 7 at, 8 low, 9 row, 10 k -/
def b_p_law_bounds_1 : L3.Env → RS := (sSeq (sSet 7 (mSh (eBin pyMod (eIdx (eVar 4) (eCst (.int 1))) (eBin pyAdd (eB bLen (aCons (eVar 2) aNil)) (eCst (.int 1)))))) (sIf (bAnd (bNot (eTst (eFz (fCall true F_p_law_refused [] (aCons (eVar 0) (aCons (eVar 1) (aCons (eSl (eBin pyAdd (eBin pyAdd (eSl (eVar 2) oNone (oSome (eVar 7))) (eFz (fLst (aCons (eVar 6) aNil)))) (eSl (eVar 2) (oSome (eVar 7)) oNone)) oNone (oSome (eCst (.int 3)))) (aCons (eVar 5) (aCons (eCst (.str "stages")) aNil))))))))) (eTst (eBin pyLt (eVar 7) (eCst (.int 3))))) (sRt (mSh (eCst (.bl false)))) sNx))
def c_p_law_bounds_1 : L3.Env → R OV := (fOp mulL (eFz (fLst (aCons (eCst (.int 0)) aNil))) (eCst (.int 10)))
def c_p_law_bounds_2 : L3.Env → R OV := (fSh (eBin pyMul (eFz (fLst (aCons (eCst (.int 0)) aNil))) (eCst (.int 10))))
def b_p_law_bounds_2 : L3.Env → RS := (sIf (bNot (eTst (eFz (fCall true F_p_law_refused [] (aCons (eVar 0) (aCons (eVar 1) (aCons (eVar 2) (aCons (eFz (fLst (aCons (eVar 9) aNil))) (aCons (eCst (.str "overtime")) aNil))))))))) (sRt (mSh (eCst (.bl false)))) sNx)
def s_p_law_bounds  : L3.Env → RS := (sSeq (sSet 5 (mSh (eFz (fLst (aCons (eBin pyMul (eFz (fLst (aCons (eCst (.int 20)) aNil))) (eCst (.int 10))) aNil))))) (sSeq (sIf (bNot (eTst (eFz (fCall true F_p_law_refused [] (aCons (eBin pyAdd (eCst (.str "plai")) (eBin pyMul (eCst (.str "n")) (eBin pyMul (eBin pyMod (eIdx (eVar 4) (eCst (.int 0))) (eCst (.int 2))) (eCst (.int 2))))) (aCons (eCst (.int 10)) (aCons (eFz (fLst (aCons (eTup (aCons (eCst (.int 0)) (aCons (eCst (.int 0)) aNil))) aNil))) (aCons (eVar 5) (aCons (eCst (.str "kind")) aNil))))))))) (sRt (mSh (eCst (.bl false)))) sNx) (sSeq (sIf (bOr (bNot (eTst (eFz (fCall true F_p_law_refused [] (aCons (eVar 0) (aCons (eCst (.int 10)) (aCons (eFz (fLst (aCons (eTup (aCons (eCst (.int 7)) (aCons (eCst (.int 1)) aNil))) aNil))) (aCons (eVar 5) (aCons (eCst (.str "allowance")) aNil))))))))) (bNot (eTst (eFz (fCall true F_p_law_refused [] (aCons (eCst (.str "plain")) (aCons (eCst (.int 1)) (aCons (eFz (fLst aNil)) (aCons (eFz (fLst aNil)) (aCons (eCst (.str "allowance")) aNil)))))))))) (sRt (mSh (eCst (.bl false)))) sNx) (sSeq (sIf (bNot (eTst (eFz (fCall true F_p_law_refused [] (aCons (eVar 0) (aCons (eUn pyNeg (eCst (.int 1))) (aCons (eVar 2) (aCons (eVar 3) (aCons (eCst (.str "allowance")) aNil))))))))) (sRt (mSh (eCst (.bl false)))) sNx) (sSeq (sFor (.nm 6) [6, 7] (iSeq (eFz (fLst (aCons (eTup (aCons (eCst (.int 0)) (aCons (eCst (.int 1)) aNil))) (aCons (eTup (aCons (eCst (.int 7)) (aCons (eCst (.int 1)) aNil))) (aCons (eTup (aCons (eCst (.int 1)) (aCons (eUn pyNeg (eCst (.int 1))) aNil))) (aCons (eTup (aCons (eCst (.int 1)) (aCons (eCst (.int 61)) aNil))) aNil))))))) b_p_law_bounds_1) (sSeq (sIf (bNot (eTst (eFz (fCall true F_p_law_refused [] (aCons (eVar 0) (aCons (eVar 1) (aCons (eBin pyMul (eFz (fLst (aCons (eTup (aCons (eCst (.int 1)) (aCons (eCst (.int 1)) aNil))) aNil))) (eCst (.int 4))) (aCons (eVar 5) (aCons (eCst (.str "stages")) aNil))))))))) (sRt (mSh (eCst (.bl false)))) sNx) (sSeq (sSet 8 (mFr (fLc (.nm 10) [10] (iRg rng1R (aCons (eCst (.int 12)) aNil)) tYesB c_p_law_bounds_1))) (sSeq (sSt (pIx (pVar 8) (eBin pyMod (eIdx (eVar 4) (eCst (.int 2))) (eCst (.int 12)))) (eBin pyMod (eIdx (eVar 4) (eCst (.int 3))) (eCst (.int 10))) (mSh (eIf (eTst (eBin pyEq (eBin pyMod (eIdx (eVar 4) (eCst (.int 3))) (eCst (.int 10))) (eCst (.int 9)))) (eCst (.int 12)) (eCst (.int 0))))) (sSeq (sIf (eTst (eBin pyNe (eB bLen (aCons (eFld "overtime" ok_overtime (eFz (fMake false 4 F_Book_init [] (aCons (eCst (.str "delay")) (aCons (eCst (.int 9)) (aCons (eFz (fLst (aCons (eTup (aCons (eCst (.int 6)) (aCons (eCst (.int 60)) aNil))) (aCons (eTup (aCons (eCst (.int 1)) (aCons (eCst (.int 0)) aNil))) (aCons (eTup (aCons (eCst (.int 6)) (aCons (eCst (.int 0)) aNil))) aNil))))) (aCons (eOwn 8) aNil))))))) aNil)) (eCst (.int 12)))) (sRt (mSh (eCst (.bl false)))) sNx) (sSeq (sIf (bNot (eTst (eFz (fCall true F_p_law_refused [] (aCons (eVar 0) (aCons (eVar 1) (aCons (eVar 2) (aCons (eFz (fLc (.nm 10) [10] (iRg rng1R (aCons (eCst (.int 13)) aNil)) tYesB c_p_law_bounds_2)) (aCons (eCst (.str "overtime")) aNil))))))))) (sRt (mSh (eCst (.bl false)))) sNx) (sSeq (sFor (.nm 9) [9] (iSeq (eFz (fLst (aCons (eBin pyMul (eFz (fLst (aCons (eCst (.int 0)) aNil))) (eCst (.int 9))) (aCons (eBin pyMul (eFz (fLst (aCons (eCst (.int 0)) aNil))) (eCst (.int 11))) (aCons (eBin pyAdd (eBin pyMul (eFz (fLst (aCons (eCst (.int 0)) aNil))) (eCst (.int 9))) (eFz (fLst (aCons (eCst (.int 2)) aNil)))) (aCons (eBin pyAdd (eFz (fLst (aCons (eUn pyNeg (eCst (.int 1))) aNil))) (eBin pyMul (eFz (fLst (aCons (eCst (.int 0)) aNil))) (eCst (.int 9)))) aNil))))))) b_p_law_bounds_2) (sRt (mSh (eCst (.bl true)))))))))))))))
def F_p_law_bounds : List PV → R OV := defF 11 5 s_p_law_bounds
theorem F_p_law_bounds_at {a0 a1 a2 a3 a4 : PV} : F_p_law_bounds [a0, a1, a2, a3, a4] = outS (s_p_law_bounds [some (.sh a0), some (.sh a1), some (.sh a2), some (.sh a3), some (.sh a4), none, none, none, none, none, none]) := rfl
/-- law: slots 0 script, 1 n, 2 kind, 3 allowance, 4 sizes, 5 stages, 6 rows, 7 given, 8 book, 9 need, 10 drop, 11 other, 12 k, 13 row -/
def c_law_1 : L3.Env → R OV := (fSh (eTup (aCons (eBin pyAdd (eCst (.int 1)) (eBin pyMod (eIdx (eVar 4) (eVar 12)) (eCst (.int 6)))) (aCons (eBin pyMod (eBin pyFdiv (eIdx (eVar 4) (eVar 12)) (eCst (.int 6))) (eCst (.int 61))) aNil))))
def c_law_2 : L3.Env → R OV := (fB bList (aCons (eVar 13) aNil))
def c_law_3 : L3.Env → R OV := (fSh (eB bTuple (aCons (eVar 13) aNil)))
def b_law_1 : L3.Env → RS := (sSeq (sSet 10 (mSh (eBin pyMod (eB bInt (aCons (eB bAbs (aCons (eFz (fCall true F_p_law_cell [] (aCons (eVar 0) (aCons (eCst (.int 4)) aNil)))) aNil)) aNil)) (eBin pyAdd (eVar 9) (eCst (.int 1)))))) (sIf (bNot (eTst (eFz (fCall true F_p_law_pair [] (aCons (eFz (fMeth true 4 "charge" F_Book_charge [] (eVar 8) (aCons (eVar 9) (aCons (eVar 10) aNil)))) (aCons (eFz (fCall true F_p_law_charged [] (aCons (eVar 2) (aCons (eVar 3) (aCons (eVar 9) (aCons (eVar 10) aNil)))))) aNil)))))) (sRt (mSh (eCst (.bl false)))) sNx))
def s_law  : L3.Env → RS := (sSeq (sSet 1 (mSh (eFz (fCall true F_p_law_numbers [] (aCons (eFz (fCall true F_p_law_cell [] (aCons (eVar 0) (aCons (eCst (.int 0)) aNil)))) (aCons (eCst (.int 0)) (aCons (eCst (.int 10)) (aCons (eCst (.int 1000)) aNil)))))))) (sSeq (sSet 2 (mSh (eIdx (eFz (fLst (aCons (eCst (.str "plain")) (aCons (eCst (.str "delay")) (aCons (eCst (.str "bonus")) aNil))))) (eBin pyMod (eIdx (eVar 1) (eCst (.int 0))) (eCst (.int 3)))))) (sSeq (sSet 3 (mSh (eIf (eTst (eBin pyEq (eVar 2) (eCst (.str "plain")))) (eCst (.int 0)) (eBin pyMod (eIdx (eVar 1) (eCst (.int 1))) (eCst (.int 10)))))) (sSeq (sSet 4 (mSh (eFz (fCall true F_p_law_numbers [] (aCons (eFz (fCall true F_p_law_cell [] (aCons (eVar 0) (aCons (eCst (.int 1)) aNil)))) (aCons (eCst (.int 1)) (aCons (eCst (.int 6)) (aCons (eCst (.int 366)) aNil)))))))) (sSeq (sSet 5 (mFr (fLc (.nm 12) [12] (iRg rng1R (aCons (eBin pyMod (eIdx (eVar 1) (eCst (.int 2))) (eCst (.int 4))) aNil)) tYesB c_law_1))) (sFz 5 (sSeq (sSet 6 (mSh (eFz (fCall true F_p_law_rows [] (aCons (eFz (fCall true F_p_law_cell [] (aCons (eVar 0) (aCons (eCst (.int 2)) aNil)))) (aCons (eIf (eTst (eBin pyEq (eBin pyMod (eIdx (eVar 1) (eCst (.int 3))) (eCst (.int 8))) (eCst (.int 1)))) (eCst (.int 12)) (eBin pyMod (eIdx (eVar 1) (eCst (.int 4))) (eCst (.int 5)))) (aCons (eIdx (eVar 1) (eCst (.int 5))) aNil))))))) (sSeq (sIf (bNot (eTst (eFz (fCall true F_p_law_honest [] (aCons (eVar 6) aNil))))) (sSeq (sIf (bNot (eTst (eFz (fCall true F_p_law_refused [] (aCons (eVar 2) (aCons (eVar 3) (aCons (eVar 5) (aCons (eVar 6) (aCons (eCst (.str "overtime")) aNil))))))))) (sRt (mSh (eCst (.bl false)))) sNx) (sSet 6 (mSh (eFz (fCall true F_p_law_rows [] (aCons (eFz (fCall true F_p_law_cell [] (aCons (eVar 0) (aCons (eCst (.int 2)) aNil)))) (aCons (eBin pyMod (eIdx (eVar 1) (eCst (.int 4))) (eCst (.int 5))) (aCons (eCst (.int 2)) aNil)))))))) sNx) (sSeq (sSet 7 (mFr (fLc (.nm 13) [13] (iSeq (eVar 6)) tYesB c_law_2))) (sSeq (sSet 8 (mSh (eFz (fMake false 4 F_Book_init [] (aCons (eVar 2) (aCons (eVar 3) (aCons (eVar 5) (aCons (eOwn 7) aNil)))))))) (sSeq (sIf (eTst (eBin pyNe (eOwn 7) (eVar 6))) (sRt (mSh (eCst (.bl false)))) sNx) (sSeq (sIf (eTst (eBin pyGt (eB bLen (aCons (eOwn 7) aNil)) (eCst (.int 0)))) (sSt (pIx (pVar 7) (eCst (.int 0))) (eCst (.int 0)) (mSh (eCst (.int 99)))) sNx) (sSeq (sIf (bOr (eTst (eBin pyNe (eFld "kind" ok_kind (eVar 8)) (eVar 2))) (bOr (bNot (eTst (eFz (fCall true F_p_law_is [] (aCons (eFld "allowance" ok_allowance (eVar 8)) (aCons (eVar 3) aNil)))))) (eTst (eBin pyNe (eFld "stages" ok_stages (eVar 8)) (eB bTuple (aCons (eVar 5) aNil)))))) (sRt (mSh (eCst (.bl false)))) sNx) (sSeq (sIf (eTst (eBin pyNe (eFld "overtime" ok_overtime (eVar 8)) (eB bTuple (aCons (eFz (fLc (.nm 13) [13] (iSeq (eVar 6)) tYesB c_law_3)) aNil)))) (sRt (mSh (eCst (.bl false)))) sNx) (sSeq (sFor (.nm 9) [9, 10] (iSeq (eFz (fLst (aCons (eBin pyMod (eIdx (eVar 1) (eCst (.int 6))) (eCst (.int 12))) (aCons (eBin pyMod (eB bInt (aCons (eB bAbs (aCons (eFz (fCall true F_p_law_cell [] (aCons (eVar 0) (aCons (eCst (.int 3)) aNil)))) aNil)) aNil)) (eBin pyPow (eCst (.int 10)) (eCst (.int 20)))) aNil))))) b_law_1) (sSeq (sIf (bOr (bNot (eTst (eFz (fCall true F_p_law_moves [] (aCons (eVar 8) (aCons (eVar 5) (aCons (eB bLen (aCons (eVar 6) aNil)) aNil))))))) (bNot (eTst (eFz (fCall true F_p_law_steps [] (aCons (eVar 8) (aCons (eVar 6) (aCons (eBin pyAdd (eBin pyMod (eB bInt (aCons (eB bAbs (aCons (eFz (fCall true F_p_law_cell [] (aCons (eVar 0) (aCons (eCst (.int 5)) aNil)))) aNil)) aNil)) (eBin pySub (eBin pyPow (eCst (.int 10)) (eCst (.int 30))) (eCst (.int 9)))) (eCst (.int 10))) aNil)))))))) (sRt (mSh (eCst (.bl false)))) sNx) (sSeq (sSet 11 (mSh (eFz (fMake true 4 F_Book_init [] (aCons (eIf (eTst (eBin pyEq (eVar 2) (eCst (.str "delay")))) (eCst (.str "bonus")) (eCst (.str "delay"))) (aCons (eVar 3) (aCons (eVar 5) (aCons (eVar 6) aNil)))))))) (sSeq (sIf (bOr (eTst (eEqO false 4 F_Book_eq (eVar 8) (eVar 11))) (bOr (bNot (eTst (eEqO false 4 F_Book_eq (eVar 8) (eFz (fMake true 4 F_Book_init [] (aCons (eVar 2) (aCons (eVar 3) (aCons (eB bTuple (aCons (eVar 5) aNil)) (aCons (eVar 6) aNil))))))))) (eTst (eEqO true 4 F_Book_eq (eVar 8) (eFz (fMake true 4 F_Book_init [] (aCons (eVar 2) (aCons (eVar 3) (aCons (eVar 5) (aCons (eVar 6) aNil)))))))))) (sRt (mSh (eCst (.bl false)))) sNx) (sSeq (sIf (eTst (eEqO false 4 F_Book_eq (eVar 8) (eFz (fMake true 4 F_Book_init [] (aCons (eVar 2) (aCons (eVar 3) (aCons (eIf (eTst (eBin pyLt (eB bLen (aCons (eVar 5) aNil)) (eCst (.int 3)))) (eBin pyAdd (eVar 5) (eFz (fLst (aCons (eTup (aCons (eCst (.int 1)) (aCons (eCst (.int 0)) aNil))) aNil)))) (eSl (eVar 5) (oSome (eCst (.int 1))) oNone)) (aCons (eVar 6) aNil)))))))) (sRt (mSh (eCst (.bl false)))) sNx) (sSeq (sIf (bOr (eTst (eBin pyNe (eEqO false 4 F_Book_eq (eVar 8) (eFz (fMake true 4 F_Book_init [] (aCons (eVar 2) (aCons (eVar 3) (aCons (eVar 5) (aCons (eFz (fLst aNil)) aNil))))))) (eBin pyEq (eB bLen (aCons (eVar 6) aNil)) (eCst (.int 0))))) (eTst (eEqO false 4 F_Book_eq (eVar 8) (eTup (aCons (eVar 2) (aCons (eVar 3) aNil)))))) (sRt (mSh (eCst (.bl false)))) sNx) (sRt (mSh (eFz (fCall true F_p_law_bounds [] (aCons (eVar 2) (aCons (eVar 3) (aCons (eVar 5) (aCons (eVar 6) (aCons (eVar 1) aNil)))))))))))))))))))))))))))))
def F_law : List PV → R OV := defF 14 1 s_law
theorem F_law_at {a0 : PV} : F_law [a0] = outS (s_law [some (.sh a0), none, none, none, none, none, none, none, none, none, none, none, none, none]) := rfl
end K03


/-! The derivations, as gen.py prints them. -/
namespace K03
open PySem PySem.Spec PyProof.Rows L2 L3
def top (i : Nat) : Stmt := PySem.Challenge.pw_flagfalls_k03_books.main.body.getD i (.Pass ⟨0, 0, 0, 0⟩)
def cbody (s : Stmt) : List Stmt := match s with
  | .ClassDef (body := b) .. => b
  | _ => []
def mth (i j : Nat) : Stmt := (cbody (top i)).getD j (.Pass ⟨0, 0, 0, 0⟩)
theorem S_checked_amount : FnScope ["amount"] ["amount"] (defScope (top 7)) := ⟨rfl, rfl, rfl, by decide +kernel, rfl, by decide +kernel, by decide +kernel⟩
theorem S_keeps_good : FnScope ["table", "one", "two", "time"] ["table", "one", "two"] (defScope (top 16)) := ⟨rfl, rfl, rfl, by decide +kernel, rfl, by decide +kernel, by decide +kernel⟩
theorem S_good_pairs : FnScope ["rows", "flag", "table", "changed", "left", "right"] ["rows"] (defScope (top 17)) := ⟨rfl, rfl, rfl, by decide +kernel, rfl, by decide +kernel, by decide +kernel⟩
theorem S_is_honest : FnScope ["rows", "table", "row", "time"] ["rows"] (defScope (top 18)) := ⟨rfl, rfl, rfl, by decide +kernel, rfl, by decide +kernel, by decide +kernel⟩
theorem S_stages_fit : FnScope ["stages", "moves", "gain"] ["stages"] (defScope (top 19)) := ⟨rfl, rfl, rfl, by decide +kernel, rfl, by decide +kernel, by decide +kernel⟩
theorem S_overtime_fits : FnScope ["rows", "row"] ["rows"] (defScope (top 20)) := ⟨rfl, rfl, rfl, by decide +kernel, rfl, by decide +kernel, by decide +kernel⟩
theorem S_Book_init : FnScope ["self", "kind", "allowance", "stages", "overtime", "stage", "row"] ["self", "kind", "allowance", "stages", "overtime"] (defScope (mth 21 0)) := ⟨rfl, rfl, rfl, by decide +kernel, rfl, by decide +kernel, by decide +kernel⟩
theorem S_Book_charge : FnScope ["self", "need", "drop"] ["self", "need", "drop"] (defScope (mth 21 1)) := ⟨rfl, rfl, rfl, by decide +kernel, rfl, by decide +kernel, by decide +kernel⟩
theorem S_Book_stage_phase : FnScope ["self", "stage"] ["self", "stage"] (defScope (mth 21 2)) := ⟨rfl, rfl, rfl, by decide +kernel, rfl, by decide +kernel, by decide +kernel⟩
theorem S_Book_opening : FnScope ["self"] ["self"] (defScope (mth 21 3)) := ⟨rfl, rfl, rfl, by decide +kernel, rfl, by decide +kernel, by decide +kernel⟩
theorem S_Book_phases : FnScope ["self", "found", "stage", "done", "state"] ["self"] (defScope (mth 21 4)) := ⟨rfl, rfl, rfl, by decide +kernel, rfl, by decide +kernel, by decide +kernel⟩
theorem S_Book_moved : FnScope ["self", "phase", "stage", "left"] ["self", "phase"] (defScope (mth 21 5)) := ⟨rfl, rfl, rfl, by decide +kernel, rfl, by decide +kernel, by decide +kernel⟩
theorem S_Book_overtime_step : FnScope ["self", "state", "time"] ["self", "state", "time"] (defScope (mth 21 6)) := ⟨rfl, rfl, rfl, by decide +kernel, rfl, by decide +kernel, by decide +kernel⟩
theorem S_Book_eq : FnScope ["self", "other", "told"] ["self", "other"] (defScope (mth 21 7)) := ⟨rfl, rfl, rfl, by decide +kernel, rfl, by decide +kernel, by decide +kernel⟩
theorem S_p_law_cell : FnScope ["script", "k"] ["script", "k"] (defScope (top 23)) := ⟨rfl, rfl, rfl, by decide +kernel, rfl, by decide +kernel, by decide +kernel⟩
theorem S_p_law_numbers : FnScope ["cell", "salt", "count", "many", "numbers", "rest", "great", "k", "mixed"] ["cell", "salt", "count", "many"] (defScope (top 24)) := ⟨rfl, rfl, rfl, by decide +kernel, rfl, by decide +kernel, by decide +kernel⟩
theorem S_p_law_is : FnScope ["actual", "expected"] ["actual", "expected"] (defScope (top 25)) := ⟨rfl, rfl, rfl, by decide +kernel, rfl, by decide +kernel, by decide +kernel⟩
theorem S_p_law_pair : FnScope ["actual", "expected"] ["actual", "expected"] (defScope (top 26)) := ⟨rfl, rfl, rfl, by decide +kernel, rfl, by decide +kernel, by decide +kernel⟩
theorem S_p_law_rows : FnScope ["cell", "count", "way", "rows", "low", "state", "ups", "row", "height", "time", "spot"] ["cell", "count", "way"] (defScope (top 27)) := ⟨rfl, rfl, rfl, by decide +kernel, rfl, by decide +kernel, by decide +kernel⟩
theorem S_p_law_honest : FnScope ["rows", "flag", "good", "turn", "worse", "left", "right", "time", "pair", "row"] ["rows"] (defScope (top 28)) := ⟨rfl, rfl, rfl, by decide +kernel, rfl, by decide +kernel, by decide +kernel⟩
theorem S_p_law_charged : FnScope ["kind", "allowance", "need", "drop"] ["kind", "allowance", "need", "drop"] (defScope (top 29)) := ⟨rfl, rfl, rfl, by decide +kernel, rfl, by decide +kernel, by decide +kernel⟩
theorem S_p_law_phases : FnScope ["stages", "count", "phases", "stage", "done", "state"] ["stages", "count"] (defScope (top 30)) := ⟨rfl, rfl, rfl, by decide +kernel, rfl, by decide +kernel, by decide +kernel⟩
theorem S_p_law_no_phase : FnScope ["book", "phase", "e"] ["book", "phase"] (defScope (top 31)) := ⟨rfl, rfl, rfl, by decide +kernel, rfl, by decide +kernel, by decide +kernel⟩
theorem S_p_law_moves : FnScope ["book", "stages", "count", "phases", "told", "k", "stage", "due", "gain", "moved"] ["book", "stages", "count"] (defScope (top 32)) := ⟨rfl, rfl, rfl, by decide +kernel, rfl, by decide +kernel, by decide +kernel⟩
theorem S_p_law_no_state : FnScope ["book", "state", "e"] ["book", "state"] (defScope (top 33)) := ⟨rfl, rfl, rfl, by decide +kernel, rfl, by decide +kernel, by decide +kernel⟩
theorem S_p_law_steps : FnScope ["book", "rows", "great", "state", "time", "due", "told", "e"] ["book", "rows", "great"] (defScope (top 34)) := ⟨rfl, rfl, rfl, by decide +kernel, rfl, by decide +kernel, by decide +kernel⟩
theorem S_p_law_refused : FnScope ["kind", "allowance", "stages", "rows", "part", "e"] ["kind", "allowance", "stages", "rows", "part"] (defScope (top 35)) := ⟨rfl, rfl, rfl, by decide +kernel, rfl, by decide +kernel, by decide +kernel⟩
theorem S_p_law_bounds : FnScope ["kind", "allowance", "stages", "rows", "n", "wrong", "pair", "at", "low", "row", "k"] ["kind", "allowance", "stages", "rows", "n"] (defScope (top 36)) := ⟨rfl, rfl, rfl, by decide +kernel, rfl, by decide +kernel, by decide +kernel⟩
theorem S_law : FnScope ["script", "n", "kind", "allowance", "sizes", "stages", "rows", "given", "book", "need", "drop", "other", "k", "row"] ["script"] (defScope (top 37)) := ⟨rfl, rfl, rfl, by decide +kernel, rfl, by decide +kernel, by decide +kernel⟩
/-- what is known of the head; ad, fd: the functions; cv, cu: the constants -/
structure Fx (P : Program) (Γ : Gc) (mg : Str → Option Value) (ad : Nat → Addr) (fd : Nat → FuncData) (dv : Nat → List V) (cv : Nat → V) (cu : Nat → Value) (fI : Nat → Addr) : Prop where
  gl_len : mg "len" = none
  gl_abs : mg "abs" = none
  gl_int : mg "int" = none
  gl_max : mg "max" = none
  gl_min : mg "min" = none
  gl_sum : mg "sum" = none
  gl_all : mg "all" = none
  gl_any : mg "any" = none
  gl_tuple : mg "tuple" = none
  gl_list : mg "list" = none
  gl_range : mg "range" = none
  gl_isinstance : mg "isinstance" = none
  gl_str : mg "str" = none
  gl_bool : mg "bool" = none
  gl_sorted : mg "sorted" = none
  F_checked_amount : FunD Γ.K "checked_amount" "checked_amount" (defArgs (top 7)) (defBody (top 7)) (defScope (top 7)) (dv 0) [] (ad 0) (fd 0)
  B0_checked_amount : Vals [] [] ∧ Binds Γ.K (fd 0) ["amount"] []
  G_checked_amount : mg "checked_amount" = some (.ref (ad 0))
  F_keeps_good : FunD Γ.K "keeps_good" "keeps_good" (defArgs (top 16)) (defBody (top 16)) (defScope (top 16)) (dv 1) [] (ad 1) (fd 1)
  B0_keeps_good : Vals [] [] ∧ Binds Γ.K (fd 1) ["table", "one", "two"] []
  G_keeps_good : mg "keeps_good" = some (.ref (ad 1))
  F_good_pairs : FunD Γ.K "good_pairs" "good_pairs" (defArgs (top 17)) (defBody (top 17)) (defScope (top 17)) (dv 2) [] (ad 2) (fd 2)
  B0_good_pairs : Vals [] [] ∧ Binds Γ.K (fd 2) ["rows"] []
  G_good_pairs : mg "good_pairs" = some (.ref (ad 2))
  F_is_honest : FunD Γ.K "is_honest" "is_honest" (defArgs (top 18)) (defBody (top 18)) (defScope (top 18)) (dv 3) [] (ad 3) (fd 3)
  B0_is_honest : Vals [] [] ∧ Binds Γ.K (fd 3) ["rows"] []
  G_is_honest : mg "is_honest" = some (.ref (ad 3))
  F_stages_fit : FunD Γ.K "stages_fit" "stages_fit" (defArgs (top 19)) (defBody (top 19)) (defScope (top 19)) (dv 4) [] (ad 4) (fd 4)
  B0_stages_fit : Vals [] [] ∧ Binds Γ.K (fd 4) ["stages"] []
  G_stages_fit : mg "stages_fit" = some (.ref (ad 4))
  F_overtime_fits : FunD Γ.K "overtime_fits" "overtime_fits" (defArgs (top 20)) (defBody (top 20)) (defScope (top 20)) (dv 5) [] (ad 5) (fd 5)
  B0_overtime_fits : Vals [] [] ∧ Binds Γ.K (fd 5) ["rows"] []
  G_overtime_fits : mg "overtime_fits" = some (.ref (ad 5))
  F_Book_init : FunD Γ.K "__init__" "Book.__init__" (defArgs (mth 21 0)) (defBody (mth 21 0)) (defScope (mth 21 0)) (dv 6) [] (ad 6) (fd 6)
  B0_Book_init : Vals [] [] ∧ Binds Γ.K (fd 6) ["self", "kind", "allowance", "stages", "overtime"] []
  F_Book_charge : FunD Γ.K "charge" "Book.charge" (defArgs (mth 21 1)) (defBody (mth 21 1)) (defScope (mth 21 1)) (dv 7) [] (ad 7) (fd 7)
  B0_Book_charge : Vals [] [] ∧ Binds Γ.K (fd 7) ["self", "need", "drop"] []
  MT_Book_charge : Meth Γ.K (Γ.CA 4) "charge" (ad 7)
  F_Book_stage_phase : FunD Γ.K "stage_phase" "Book.stage_phase" (defArgs (mth 21 2)) (defBody (mth 21 2)) (defScope (mth 21 2)) (dv 8) [] (ad 8) (fd 8)
  B0_Book_stage_phase : Vals [] [] ∧ Binds Γ.K (fd 8) ["self", "stage"] []
  MT_Book_stage_phase : Meth Γ.K (Γ.CA 4) "stage_phase" (ad 8)
  F_Book_opening : FunD Γ.K "opening" "Book.opening" (defArgs (mth 21 3)) (defBody (mth 21 3)) (defScope (mth 21 3)) (dv 9) [] (ad 9) (fd 9)
  B0_Book_opening : Vals [] [] ∧ Binds Γ.K (fd 9) ["self"] []
  MT_Book_opening : Meth Γ.K (Γ.CA 4) "opening" (ad 9)
  F_Book_phases : FunD Γ.K "phases" "Book.phases" (defArgs (mth 21 4)) (defBody (mth 21 4)) (defScope (mth 21 4)) (dv 10) [] (ad 10) (fd 10)
  B0_Book_phases : Vals [] [] ∧ Binds Γ.K (fd 10) ["self"] []
  MT_Book_phases : Meth Γ.K (Γ.CA 4) "phases" (ad 10)
  F_Book_moved : FunD Γ.K "moved" "Book.moved" (defArgs (mth 21 5)) (defBody (mth 21 5)) (defScope (mth 21 5)) (dv 11) [] (ad 11) (fd 11)
  B0_Book_moved : Vals [] [] ∧ Binds Γ.K (fd 11) ["self", "phase"] []
  MT_Book_moved : Meth Γ.K (Γ.CA 4) "moved" (ad 11)
  F_Book_overtime_step : FunD Γ.K "overtime_step" "Book.overtime_step" (defArgs (mth 21 6)) (defBody (mth 21 6)) (defScope (mth 21 6)) (dv 12) [] (ad 12) (fd 12)
  B0_Book_overtime_step : Vals [] [] ∧ Binds Γ.K (fd 12) ["self", "state", "time"] []
  MT_Book_overtime_step : Meth Γ.K (Γ.CA 4) "overtime_step" (ad 12)
  F_Book_eq : FunD Γ.K "__eq__" "Book.__eq__" (defArgs (mth 21 7)) (defBody (mth 21 7)) (defScope (mth 21 7)) (dv 13) [] (ad 13) (fd 13)
  B0_Book_eq : Vals [] [] ∧ Binds Γ.K (fd 13) ["self", "other"] []
  MT_Book_eq : Meth Γ.K (Γ.CA 4) "__eq__" (ad 13)
  F_p_law_cell : FunD Γ.K "_law_cell" "_law_cell" (defArgs (top 23)) (defBody (top 23)) (defScope (top 23)) (dv 14) [] (ad 14) (fd 14)
  B0_p_law_cell : Vals [] [] ∧ Binds Γ.K (fd 14) ["script", "k"] []
  G_p_law_cell : mg "_law_cell" = some (.ref (ad 14))
  F_p_law_numbers : FunD Γ.K "_law_numbers" "_law_numbers" (defArgs (top 24)) (defBody (top 24)) (defScope (top 24)) (dv 15) [] (ad 15) (fd 15)
  B0_p_law_numbers : Vals [] [] ∧ Binds Γ.K (fd 15) ["cell", "salt", "count", "many"] []
  G_p_law_numbers : mg "_law_numbers" = some (.ref (ad 15))
  F_p_law_is : FunD Γ.K "_law_is" "_law_is" (defArgs (top 25)) (defBody (top 25)) (defScope (top 25)) (dv 16) [] (ad 16) (fd 16)
  B0_p_law_is : Vals [] [] ∧ Binds Γ.K (fd 16) ["actual", "expected"] []
  G_p_law_is : mg "_law_is" = some (.ref (ad 16))
  F_p_law_pair : FunD Γ.K "_law_pair" "_law_pair" (defArgs (top 26)) (defBody (top 26)) (defScope (top 26)) (dv 17) [] (ad 17) (fd 17)
  B0_p_law_pair : Vals [] [] ∧ Binds Γ.K (fd 17) ["actual", "expected"] []
  G_p_law_pair : mg "_law_pair" = some (.ref (ad 17))
  F_p_law_rows : FunD Γ.K "_law_rows" "_law_rows" (defArgs (top 27)) (defBody (top 27)) (defScope (top 27)) (dv 18) [] (ad 18) (fd 18)
  B0_p_law_rows : Vals [] [] ∧ Binds Γ.K (fd 18) ["cell", "count", "way"] []
  G_p_law_rows : mg "_law_rows" = some (.ref (ad 18))
  F_p_law_honest : FunD Γ.K "_law_honest" "_law_honest" (defArgs (top 28)) (defBody (top 28)) (defScope (top 28)) (dv 19) [] (ad 19) (fd 19)
  B0_p_law_honest : Vals [] [] ∧ Binds Γ.K (fd 19) ["rows"] []
  G_p_law_honest : mg "_law_honest" = some (.ref (ad 19))
  F_p_law_charged : FunD Γ.K "_law_charged" "_law_charged" (defArgs (top 29)) (defBody (top 29)) (defScope (top 29)) (dv 20) [] (ad 20) (fd 20)
  B0_p_law_charged : Vals [] [] ∧ Binds Γ.K (fd 20) ["kind", "allowance", "need", "drop"] []
  G_p_law_charged : mg "_law_charged" = some (.ref (ad 20))
  F_p_law_phases : FunD Γ.K "_law_phases" "_law_phases" (defArgs (top 30)) (defBody (top 30)) (defScope (top 30)) (dv 21) [] (ad 21) (fd 21)
  B0_p_law_phases : Vals [] [] ∧ Binds Γ.K (fd 21) ["stages", "count"] []
  G_p_law_phases : mg "_law_phases" = some (.ref (ad 21))
  F_p_law_no_phase : FunD Γ.K "_law_no_phase" "_law_no_phase" (defArgs (top 31)) (defBody (top 31)) (defScope (top 31)) (dv 22) [] (ad 22) (fd 22)
  B0_p_law_no_phase : Vals [] [] ∧ Binds Γ.K (fd 22) ["book", "phase"] []
  G_p_law_no_phase : mg "_law_no_phase" = some (.ref (ad 22))
  F_p_law_moves : FunD Γ.K "_law_moves" "_law_moves" (defArgs (top 32)) (defBody (top 32)) (defScope (top 32)) (dv 23) [] (ad 23) (fd 23)
  B0_p_law_moves : Vals [] [] ∧ Binds Γ.K (fd 23) ["book", "stages", "count"] []
  G_p_law_moves : mg "_law_moves" = some (.ref (ad 23))
  F_p_law_no_state : FunD Γ.K "_law_no_state" "_law_no_state" (defArgs (top 33)) (defBody (top 33)) (defScope (top 33)) (dv 24) [] (ad 24) (fd 24)
  B0_p_law_no_state : Vals [] [] ∧ Binds Γ.K (fd 24) ["book", "state"] []
  G_p_law_no_state : mg "_law_no_state" = some (.ref (ad 24))
  F_p_law_steps : FunD Γ.K "_law_steps" "_law_steps" (defArgs (top 34)) (defBody (top 34)) (defScope (top 34)) (dv 25) [] (ad 25) (fd 25)
  B0_p_law_steps : Vals [] [] ∧ Binds Γ.K (fd 25) ["book", "rows", "great"] []
  G_p_law_steps : mg "_law_steps" = some (.ref (ad 25))
  F_p_law_refused : FunD Γ.K "_law_refused" "_law_refused" (defArgs (top 35)) (defBody (top 35)) (defScope (top 35)) (dv 26) [] (ad 26) (fd 26)
  B0_p_law_refused : Vals [] [] ∧ Binds Γ.K (fd 26) ["kind", "allowance", "stages", "rows", "part"] []
  G_p_law_refused : mg "_law_refused" = some (.ref (ad 26))
  F_p_law_bounds : FunD Γ.K "_law_bounds" "_law_bounds" (defArgs (top 36)) (defBody (top 36)) (defScope (top 36)) (dv 27) [] (ad 27) (fd 27)
  B0_p_law_bounds : Vals [] [] ∧ Binds Γ.K (fd 27) ["kind", "allowance", "stages", "rows", "n"] []
  G_p_law_bounds : mg "_law_bounds" = some (.ref (ad 27))
  F_law : FunD Γ.K "law" "law" (defArgs (top 37)) (defBody (top 37)) (defScope (top 37)) (dv 28) [] (ad 28) (fd 28)
  B0_law : Vals [] [] ∧ Binds Γ.K (fd 28) ["script"] []
  G_law : mg "law" = some (.ref (ad 28))
  G_Fault : mg "Fault" = some (.ref (Γ.CA 0))
  G_BadAmount : mg "BadAmount" = some (.ref (Γ.CA 1))
  SU_BadAmount : X3.SupC P Γ.K (Γ.CA 1) (fI 1) "amount"
  KP_BadAmount : PySem.W.keepIn Γ.K (.ref (Γ.CA 1)) = true
  RS_BadAmount : ∀ X : Cx, X.K = Γ.K → Raises X (.ref (Γ.CA 1))
  G_BadBook : mg "BadBook" = some (.ref (Γ.CA 2))
  SU_BadBook : X3.SupC P Γ.K (Γ.CA 2) (fI 2) "part"
  KP_BadBook : PySem.W.keepIn Γ.K (.ref (Γ.CA 2)) = true
  RS_BadBook : ∀ X : Cx, X.K = Γ.K → Raises X (.ref (Γ.CA 2))
  G_NoPhase : mg "NoPhase" = some (.ref (Γ.CA 3))
  SU_NoPhase : X3.SupC P Γ.K (Γ.CA 3) (fI 3) "phase"
  KP_NoPhase : PySem.W.keepIn Γ.K (.ref (Γ.CA 3)) = true
  RS_NoPhase : ∀ X : Cx, X.K = Γ.K → Raises X (.ref (Γ.CA 3))
  G_Book : mg "Book" = some (.ref (Γ.CA 4))
  C_Book : Cls Γ.K (Γ.CA 4)
  M_Book : Mk Γ.K (Γ.CA 4) (ad 6)
  EO_Book : EqC Γ.K (Γ.CA 4) (ad 13)
  FL_allowance : ∀ c, ok_allowance c = true → Cls Γ.K (Γ.CA c) ∧ NoAttr Γ.K (Γ.CA c) "allowance"
  FL_kind : ∀ c, ok_kind c = true → Cls Γ.K (Γ.CA c) ∧ NoAttr Γ.K (Γ.CA c) "kind"
  FL_overtime : ∀ c, ok_overtime c = true → Cls Γ.K (Γ.CA c) ∧ NoAttr Γ.K (Γ.CA c) "overtime"
  FL_stages : ∀ c, ok_stages c = true → Cls Γ.K (Γ.CA c) ∧ NoAttr Γ.K (Γ.CA c) "stages"
  XF_amount : ∀ c, okx_amount c = true → XfC Γ.K (Γ.CA c) ∧ PySem.W.findIn Γ.K (.ref (Γ.CA c)) "amount" = some none
  XF_part : ∀ c, okx_part c = true → XfC Γ.K (Γ.CA c) ∧ PySem.W.findIn Γ.K (.ref (Γ.CA c)) "part" = some none
  XF_phase : ∀ c, okx_phase c = true → XfC Γ.K (Γ.CA c) ∧ PySem.W.findIn Γ.K (.ref (Γ.CA c)) "phase" = some none
  MTX_BadAmount : ∀ c b, mt_BadAmount c = some b → PySem.W.exmOne Γ.K (.ref (Γ.CA c)) (.ref (Γ.CA 1)) = some b
  MTX_BadBook : ∀ c b, mt_BadBook c = some b → PySem.W.exmOne Γ.K (.ref (Γ.CA c)) (.ref (Γ.CA 2)) = some b
  MTX_NoPhase : ∀ c b, mt_NoPhase c = some b → PySem.W.exmOne Γ.K (.ref (Γ.CA c)) (.ref (Γ.CA 3)) = some b
  XI_BadAmount : ∀ c b, ib_BadAmount c = some b → X3.ExI Γ.K (Γ.CA c) ∧ PySem.W.kitOne Γ.K (.ref (Γ.CA c)) (.ref (Γ.CA 1)) = some b
  XI_BadBook : ∀ c b, ib_BadBook c = some b → X3.ExI Γ.K (Γ.CA c) ∧ PySem.W.kitOne Γ.K (.ref (Γ.CA c)) (.ref (Γ.CA 2)) = some b
  XI_Fault : ∀ c b, ib_Fault c = some b → X3.ExI Γ.K (Γ.CA c) ∧ PySem.W.kitOne Γ.K (.ref (Γ.CA c)) (.ref (Γ.CA 0)) = some b
  XI_NoPhase : ∀ c b, ib_NoPhase c = some b → X3.ExI Γ.K (Γ.CA c) ∧ PySem.W.kitOne Γ.K (.ref (Γ.CA c)) (.ref (Γ.CA 3)) = some b
  IC_Book : ∀ c b, ic_Book c = some b → IsC Γ.K (Γ.CA c) ∧ PySem.W.kitOne Γ.K (.ref (Γ.CA c)) (.ref (Γ.CA 4)) = some b
  IT_Book : ∀ s b, tb_Book s = some b → PySem.W.kitOne Γ.K (.type s) (.ref (Γ.CA 4)) = some b
  G_MOST : mg "MOST" = some (cu 0) ∧ RelV (cv 0) (cu 0)
  R_MOST : ∀ H, Rep Γ H (.int 1000000000000000000000000000000) (cv 0)
  G_BOOK_KINDS : mg "BOOK_KINDS" = some (cu 1) ∧ RelV (cv 1) (cu 1)
  R_BOOK_KINDS : ∀ H, Rep Γ H (.tup [(.str "plain"), (.str "delay"), (.str "bonus")]) (cv 1)
  G_MOST_ALLOWANCE : mg "MOST_ALLOWANCE" = some (cu 2) ∧ RelV (cv 2) (cu 2)
  R_MOST_ALLOWANCE : ∀ H, Rep Γ H (.int 9) (cv 2)
  G_MOST_STAGES : mg "MOST_STAGES" = some (cu 3) ∧ RelV (cv 3) (cu 3)
  R_MOST_STAGES : ∀ H, Rep Γ H (.int 3) (cv 3)
  G_MOST_STAGE_MOVES : mg "MOST_STAGE_MOVES" = some (cu 4) ∧ RelV (cv 4) (cu 4)
  R_MOST_STAGE_MOVES : ∀ H, Rep Γ H (.int 6) (cv 4)
  G_MOST_GAIN : mg "MOST_GAIN" = some (cu 5) ∧ RelV (cv 5) (cu 5)
  R_MOST_GAIN : ∀ H, Rep Γ H (.int 60) (cv 5)
  G_MOST_STATES : mg "MOST_STATES" = some (cu 6) ∧ RelV (cv 6) (cu 6)
  R_MOST_STATES : ∀ H, Rep Γ H (.int 12) (cv 6)
  G_TIMES : mg "TIMES" = some (cu 7) ∧ RelV (cv 7) (cu 7)
  R_TIMES : ∀ H, Rep Γ H (.int 10) (cv 7)
section
variable {P : Program} {w : World} {Γ : Gc} {mg : Str → Option Value} {base : Heap} {ad : Nat → Addr} {fd : Nat → FuncData} {dv : Nat → List V} {cv : Nat → V} {cu : Nat → Value} {fI : Nat → Addr}
theorem ok_checked_amount (fx : Fx P Γ mg ad fd dv cv cu fI) : FnOk P w Γ.K mg base (L2N.CX P w) 1 (ad 0) (fd 0) ["amount"] (spP Γ F_checked_amount) := by
  refine qDef fx.F_checked_amount S_checked_amount rfl rfl fun cdv A outer s H E C hG hfx hr tk hp => ?_
  obtain ⟨G, He, Hz, fx0, Hx⟩ := C
  dsimp only at hG hfx
  subst hG hfx
  have hu := L3.hu_of hr
  have hrH := L2H.roomH_of hr
  have hdep := L3.dep_of hr
  unfold s_checked_amount
  exact qCons (qIfS (qt_w (qw_or (tLt (m := true)  (qVar 0) (qInt)) (qw_or1 (tGt (m := true)  (qVar 0) (qGlob fx.G_MOST.1 fx.G_MOST.2 fx.R_MOST))))) (qLast (qRz (c := 1) rfl tk fx.SU_BadAmount fx.G_BadAmount fx.KP_BadAmount (fx.RS_BadAmount _ rfl) hdep (qVar 0))) (qNil)) (qLast (qRt (qmSh (qVar 0))))
theorem ok_keeps_good (fx : Fx P Γ mg ad fd dv cv cu fI) : FnOk P w Γ.K mg base (L2N.CX P w) 1 (ad 1) (fd 1) ["table", "one", "two"] (spP Γ F_keeps_good) := by
  refine qDef fx.F_keeps_good S_keeps_good rfl rfl fun cdv A outer s H E C hG hfx hr tk hp => ?_
  obtain ⟨G, He, Hz, fx0, Hx⟩ := C
  dsimp only at hG hfx
  subst hG hfx
  have hu := L3.hu_of hr
  have hrH := L2H.roomH_of hr
  have hdep := L3.dep_of hr
  unfold s_keeps_good
  exact qLast (qRt (qmSh (qAll rfl rfl fx.gl_all (qaCons (qFz ((qLc (T := .nm 3) rfl S_keeps_good.nd (qiRng1 fx.gl_range (qaCons (qGlob fx.G_TIMES.1 fx.G_TIMES.2 fx.R_TIMES) qaNil)) (own := [("time", 3)]) (blkOk_by rfl) (by decide) fxs_none (lcName (i := 3) fxo_none S_keeps_good.nd rfl (fun _ _ => rfl)) (fun _ _ _ _ _ => qtsNil) (fun _ _ _ _ _ => qSh (qIdx rfl (qIdx rfl (qVar 0) (qIdx rfl (qVar 1) (qVar 3))) (qIdx rfl (qVar 2) (qVar 3))))))) qaNil))))
theorem ok_stages_fit (fx : Fx P Γ mg ad fd dv cv cu fI) : FnOk P w Γ.K mg base (L2N.CX P w) 1 (ad 4) (fd 4) ["stages"] (spP Γ F_stages_fit) := by
  refine qDef fx.F_stages_fit S_stages_fit rfl rfl fun cdv A outer s H E C hG hfx hr tk hp => ?_
  obtain ⟨G, He, Hz, fx0, Hx⟩ := C
  dsimp only at hG hfx
  subst hG hfx
  have hu := L3.hu_of hr
  have hrH := L2H.roomH_of hr
  have hdep := L3.dep_of hr
  unfold s_stages_fit
  exact qCons (qIfS (tGt (m := true)  (qLen rfl fx.gl_len (qaCons (qVar 0) qaNil)) (qGlob fx.G_MOST_STAGES.1 fx.G_MOST_STAGES.2 fx.R_MOST_STAGES)) (qLast (qRt (qmSh (qBl)))) (qNil)) (qCons (qFor (T := (.tp [1, 2])) [1, 2] hp rfl (qiSeq rfl (qVar 0)) (fun _ => qgTup rfl rfl (qgsCons (i := 1) fxo_none S_stages_fit.nd (qgsCons (i := 2) fxo_none S_stages_fit.nd qgsNil))) (fun _ => qLast (qIfS (qt_w (qw_or (tLt (m := true)  (qVar 1) (qInt)) (qw_or (tGt (m := true)  (qVar 1) (qGlob fx.G_MOST_STAGE_MOVES.1 fx.G_MOST_STAGE_MOVES.2 fx.R_MOST_STAGE_MOVES)) (qw_or (tLt (m := true)  (qVar 2) (qInt)) (qw_or1 (tGt (m := true)  (qVar 2) (qGlob fx.G_MOST_GAIN.1 fx.G_MOST_GAIN.2 fx.R_MOST_GAIN))))))) (qLast (qRt (qmSh (qBl)))) (qNil)))) (qLast (qRt (qmSh (qBl)))))
theorem ok_Book_charge (fx : Fx P Γ mg ad fd dv cv cu fI) : FnOk P w Γ.K mg base (L2N.CX P w) 1 (ad 7) (fd 7) ["self", "need", "drop"] (spP Γ F_Book_charge) := by
  refine qDef fx.F_Book_charge S_Book_charge rfl rfl fun cdv A outer s H E C hG hfx hr tk hp => ?_
  obtain ⟨G, He, Hz, fx0, Hx⟩ := C
  dsimp only at hG hfx
  subst hG hfx
  have hu := L3.hu_of hr
  have hrH := L2H.roomH_of hr
  have hdep := L3.dep_of hr
  unfold s_Book_charge
  exact qCons (qIfS (tEq (m := true) rfl hu (qFld (ok := ok_kind) rfl fx.FL_kind (qVar 0)) (qStr)) (qLast (qRt (qmSh (qTup (qaCons (qMax rfl rfl fx.gl_max (qaCons (qInt) (qaCons (qSub (qVar 1) (qFld (ok := ok_allowance) rfl fx.FL_allowance (qVar 0))) qaNil))) (qaCons (qMax rfl rfl fx.gl_max (qaCons (qInt) (qaCons (qSub (qVar 2) (qFld (ok := ok_allowance) rfl fx.FL_allowance (qVar 0))) qaNil))) qaNil)))))) (qNil)) (qCons (qIfS (tEq (m := true) rfl hu (qFld (ok := ok_kind) rfl fx.FL_kind (qVar 0)) (qStr)) (qLast (qRt (qmSh (qTup (qaCons (qVar 1) (qaCons (qMax rfl rfl fx.gl_max (qaCons (qInt) (qaCons (qSub (qVar 2) (qFld (ok := ok_allowance) rfl fx.FL_allowance (qVar 0))) qaNil))) qaNil)))))) (qNil)) (qLast (qRt (qmSh (qTup (qaCons (qVar 1) (qaCons (qVar 2) qaNil)))))))
theorem ok_Book_stage_phase (fx : Fx P Γ mg ad fd dv cv cu fI) : FnOk P w Γ.K mg base (L2N.CX P w) 1 (ad 8) (fd 8) ["self", "stage"] (spP Γ F_Book_stage_phase) := by
  refine qDef fx.F_Book_stage_phase S_Book_stage_phase rfl rfl fun cdv A outer s H E C hG hfx hr tk hp => ?_
  obtain ⟨G, He, Hz, fx0, Hx⟩ := C
  dsimp only at hG hfx
  subst hG hfx
  have hu := L3.hu_of hr
  have hrH := L2H.roomH_of hr
  have hdep := L3.dep_of hr
  unfold s_Book_stage_phase
  exact qCons (qIfS (tLt (m := true)  (qVar 1) (qLen rfl fx.gl_len (qaCons (qFld (ok := ok_stages) rfl fx.FL_stages (qVar 0)) qaNil))) (qLast (qRt (qmSh (qTup (qaCons (qVar 1) (qaCons (qIdx rfl (qIdx rfl (qFld (ok := ok_stages) rfl fx.FL_stages (qVar 0)) (qVar 1)) (qInt)) qaNil)))))) (qNil)) (qLast (qRt (qmSh (qTup (qaCons (qVar 1) (qaCons (qInt) qaNil))))))
theorem ok_Book_phases (fx : Fx P Γ mg ad fd dv cv cu fI) : FnOk P w Γ.K mg base (L2N.CX P w) 1 (ad 10) (fd 10) ["self"] (spP Γ F_Book_phases) := by
  refine qDef fx.F_Book_phases S_Book_phases rfl rfl fun cdv A outer s H E C hG hfx hr tk hp => ?_
  obtain ⟨G, He, Hz, fx0, Hx⟩ := C
  dsimp only at hG hfx
  subst hG hfx
  have hu := L3.hu_of hr
  have hrH := L2H.roomH_of hr
  have hdep := L3.dep_of hr
  unfold s_Book_phases
  exact qCons (qSet (i := 1) fxo_none S_Book_phases.nd (qmFr (qLst qaNil))) (qCons (qFor (T := (.nm 2)) [2, 3] hp rfl (qiRng1 fx.gl_range (qaCons (qLen rfl fx.gl_len (qaCons (qFld (ok := ok_stages) rfl fx.FL_stages (qVar 0)) qaNil)) qaNil)) (fun _ => qgName (i := 2) fxo_none S_Book_phases.nd) (fun _ => qLast (qFor (T := (.nm 3)) [3] hp rfl (qiRng1 fx.gl_range (qaCons (qIdx rfl (qIdx rfl (qFld (ok := ok_stages) rfl fx.FL_stages (qVar 0)) (qVar 2)) (qInt)) qaNil)) (fun _ => qgName (i := 3) fxo_none S_Book_phases.nd) (fun _ => qLast (qApp (qpVar 1) (qmSh (qTup (qaCons (qVar 2) (qaCons (qSub (qIdx rfl (qIdx rfl (qFld (ok := ok_stages) rfl fx.FL_stages (qVar 0)) (qVar 2)) (qInt)) (qVar 3)) qaNil))))))))) (qCons (qApp (qpVar 1) (qmSh (qTup (qaCons (qLen rfl fx.gl_len (qaCons (qFld (ok := ok_stages) rfl fx.FL_stages (qVar 0)) qaNil)) (qaCons (qInt) qaNil))))) (qCons (qFor (T := (.nm 4)) [4] hp rfl (qiRng1 fx.gl_range (qaCons (qLen rfl fx.gl_len (qaCons (qFld (ok := ok_overtime) rfl fx.FL_overtime (qVar 0)) qaNil)) qaNil)) (fun _ => qgName (i := 4) fxo_none S_Book_phases.nd) (fun _ => qLast (qApp (qpVar 1) (qmSh (qTup (qaCons (qNeg (qInt)) (qaCons (qVar 4) qaNil))))))) (qLast (qRt (qmMv 1))))))
theorem ok_Book_eq (fx : Fx P Γ mg ad fd dv cv cu fI) : FnOk P w Γ.K mg base (L2N.CX P w) 1 (ad 13) (fd 13) ["self", "other"] (spP Γ F_Book_eq) := by
  refine qDef fx.F_Book_eq S_Book_eq rfl rfl fun cdv A outer s H E C hG hfx hr tk hp => ?_
  obtain ⟨G, He, Hz, fx0, Hx⟩ := C
  dsimp only at hG hfx
  subst hG hfx
  have hu := L3.hu_of hr
  have hrH := L2H.roomH_of hr
  have hdep := L3.dep_of hr
  unfold s_Book_eq
  exact qCons (qIfS (qt_not (qtVal (m := true) (qIsiC (tb := tb_Book) (ib := ic_Book) rfl fx.gl_isinstance fx.G_Book fx.IT_Book fx.IC_Book (qVar 1)))) (qLast (qRt (qmSh (qBl)))) (qNil)) (qCons (qSet (i := 2) fxo_none S_Book_eq.nd (qmSh (qTup (qaCons (qFld (ok := ok_kind) rfl fx.FL_kind (qVar 0)) (qaCons (qFld (ok := ok_allowance) rfl fx.FL_allowance (qVar 0)) (qaCons (qFld (ok := ok_stages) rfl fx.FL_stages (qVar 0)) (qaCons (qFld (ok := ok_overtime) rfl fx.FL_overtime (qVar 0)) qaNil))))))) (qLast (qRt (qmSh (qEq rfl hu (qVar 2) (qTup (qaCons (qFld (ok := ok_kind) rfl fx.FL_kind (qVar 1)) (qaCons (qFld (ok := ok_allowance) rfl fx.FL_allowance (qVar 1)) (qaCons (qFld (ok := ok_stages) rfl fx.FL_stages (qVar 1)) (qaCons (qFld (ok := ok_overtime) rfl fx.FL_overtime (qVar 1)) qaNil))))))))))
theorem ok_p_law_cell (fx : Fx P Γ mg ad fd dv cv cu fI) : FnOk P w Γ.K mg base (L2N.CX P w) 1 (ad 14) (fd 14) ["script", "k"] (spP Γ F_p_law_cell) := by
  refine qDef fx.F_p_law_cell S_p_law_cell rfl rfl fun cdv A outer s H E C hG hfx hr tk hp => ?_
  obtain ⟨G, He, Hz, fx0, Hx⟩ := C
  dsimp only at hG hfx
  subst hG hfx
  have hu := L3.hu_of hr
  have hrH := L2H.roomH_of hr
  have hdep := L3.dep_of hr
  unfold s_p_law_cell
  exact qCons (qIfS (tLt (m := true)  (qVar 1) (qLen rfl fx.gl_len (qaCons (qVar 0) qaNil))) (qLast (qRt (qmSh (qIdx rfl (qVar 0) (qVar 1))))) (qNil)) (qLast (qRt (qmSh (qInt))))
theorem ok_p_law_numbers (fx : Fx P Γ mg ad fd dv cv cu fI) : FnOk P w Γ.K mg base (L2N.CX P w) 1 (ad 15) (fd 15) ["cell", "salt", "count", "many"] (spP Γ F_p_law_numbers) := by
  refine qDef fx.F_p_law_numbers S_p_law_numbers rfl rfl fun cdv A outer s H E C hG hfx hr tk hp => ?_
  obtain ⟨G, He, Hz, fx0, Hx⟩ := C
  dsimp only at hG hfx
  subst hG hfx
  have hu := L3.hu_of hr
  have hrH := L2H.roomH_of hr
  have hdep := L3.dep_of hr
  unfold s_p_law_numbers
  exact qCons (qSet (i := 4) fxo_none S_p_law_numbers.nd (qmFr (qLst qaNil))) (qCons (qSet (i := 5) fxo_none S_p_law_numbers.nd (qmSh (qAbs fx.gl_abs (qaCons (qVar 0) qaNil)))) (qCons (qSet (i := 6) fxo_none S_p_law_numbers.nd (qmSh (qGe  (qVar 5) (qPow (qInt) (qInt))))) (qCons (qFor (T := (.nm 7)) [7, 8] hp rfl (qiRng1 fx.gl_range (qaCons (qVar 2) qaNil)) (fun _ => qgName (i := 7) fxo_none S_p_law_numbers.nd) (fun _ => qLast (qIfS (qt_w (qw_and (qtVal (m := true) (qVar 6)) (qw_and1 (tGt (m := true)  (qVar 5) (qInt))))) (qCons (qApp (qpVar 4) (qmSh (qMod (qIntB fx.gl_int (qaCons (qVar 5) qaNil)) (qVar 3)))) (qLast (qSet (i := 5) fxo_none S_p_law_numbers.nd (qmSh (qFdiv (qVar 5) (qVar 3)))))) (qCons (qSet (i := 8) fxo_none S_p_law_numbers.nd (qmSh (qMod (qIntB fx.gl_int (qaCons (qAdd rfl (qAdd rfl (qAdd rfl (qAbs fx.gl_abs (qaCons (qVar 0) qaNil)) (qMul (qVar 1) (qInt))) (qMul (qVar 7) (qInt))) (qInt)) qaNil)) (qInt)))) (qCons (qSet (i := 8) fxo_none S_p_law_numbers.nd (qmSh (qMod (qIntB fx.gl_int (qaCons (qAdd rfl (qMul (qVar 8) (qInt)) (qInt)) qaNil)) (qInt)))) (qCons (qSet (i := 8) fxo_none S_p_law_numbers.nd (qmSh (qMod (qIntB fx.gl_int (qaCons (qAdd rfl (qAdd rfl (qMul (qVar 8) (qVar 8)) (qMul (qVar 8) (qInt))) (qMul (qVar 7) (qInt))) qaNil)) (qInt)))) (qLast (qApp (qpVar 4) (qmSh (qMod (qIntB fx.gl_int (qaCons (qFdiv (qVar 8) (qInt)) qaNil)) (qVar 3))))))))))) (qLast (qRt (qmMv 4))))))
theorem ok_p_law_is (fx : Fx P Γ mg ad fd dv cv cu fI) : FnOk P w Γ.K mg base (L2N.CX P w) 1 (ad 16) (fd 16) ["actual", "expected"] (spP Γ F_p_law_is) := by
  refine qDef fx.F_p_law_is S_p_law_is rfl rfl fun cdv A outer s H E C hG hfx hr tk hp => ?_
  obtain ⟨G, He, Hz, fx0, Hx⟩ := C
  dsimp only at hG hfx
  subst hG hfx
  have hu := L3.hu_of hr
  have hrH := L2H.roomH_of hr
  have hdep := L3.dep_of hr
  unfold s_p_law_is
  exact qLast (qRt (qmSh (qAnd (qIsiT (tb := tbT "int") (ib := ibN) rfl fx.gl_isinstance fx.gl_int bt_int tbT_ok ibN_ok (qVar 0)) (qAnd (qNot (qIsiT (tb := tbT "bool") (ib := ibN) rfl fx.gl_isinstance fx.gl_bool bt_bool tbT_ok ibN_ok (qVar 0))) (qOne (qEq rfl hu (qVar 0) (qVar 1)))))))
theorem okH_p_law_is (fx : Fx P Γ mg ad fd dv cv cu fI) : L2H.FnH P w Γ.K mg base (L2N.CX P w) 1 (ad 16) (fd 16) ["actual", "expected"] (spP Γ F_p_law_is) := by
  refine qDefH fx.F_p_law_is S_p_law_is rfl rfl fun cdv A outer s H E q0 C hG hfx hot hrH tk => ?_
  obtain ⟨G, He, Hz, fx0, Hx⟩ := C
  dsimp only at hG hfx
  subst hG hfx
  have hu := L3.huH_of hrH
  unfold s_p_law_is
  exact qLast (qRt (qmSh (qAnd (qIsiT (tb := tbT "int") (ib := ibN) rfl fx.gl_isinstance fx.gl_int bt_int tbT_ok ibN_ok (qVar 0)) (qAnd (qNot (qIsiT (tb := tbT "bool") (ib := ibN) rfl fx.gl_isinstance fx.gl_bool bt_bool tbT_ok ibN_ok (qVar 0))) (qOne (qEq rfl hu (qVar 0) (qVar 1)))))))
theorem ok_p_law_honest (fx : Fx P Γ mg ad fd dv cv cu fI) : FnOk P w Γ.K mg base (L2N.CX P w) 1 (ad 19) (fd 19) ["rows"] (spP Γ F_p_law_honest) := by
  refine qDef fx.F_p_law_honest S_p_law_honest rfl rfl fun cdv A outer s H E C hG hfx hr tk hp => ?_
  obtain ⟨G, He, Hz, fx0, Hx⟩ := C
  dsimp only at hG hfx
  subst hG hfx
  have hu := L3.hu_of hr
  have hrH := L2H.roomH_of hr
  have hdep := L3.dep_of hr
  unfold s_p_law_honest
  exact qCons (qSet (i := 1) fxo_none S_p_law_honest.nd (qmSh (qLen rfl fx.gl_len (qaCons (qVar 0) qaNil)))) (qCons (qSetLc (T := .nm 5) fxo_none rfl S_p_law_honest.nd (qiRng1 fx.gl_range (qaCons (qAdd rfl (qVar 1) (qInt)) qaNil)) (own := [("left", 5)]) (blkOk_by rfl) (by decide) fxs_none (lcNameC (i := 5) fxo_none S_p_law_honest.nd rfl (fun _ _ => rfl) rfl) (fun _ _ _ _ _ => qtsNil) (fun _ _ _ _ _ => (qLc (T := .nm 6) rfl S_p_law_honest.nd (qiRng1 fx.gl_range (qaCons (qAdd rfl (qVar 1) (qInt)) qaNil)) (own := [("right", 6)]) (blkOk_by rfl) (by decide) fxs_none (lcName (i := 6) fxo_none S_p_law_honest.nd rfl (fun _ _ => rfl)) (fun _ _ _ _ _ => qtsNil) (fun _ _ _ _ _ => qSh (qOr (qLt  (qVar 5) (qVar 1)) (qOne (qEq rfl hu (qVar 6) (qVar 1))))))) (sw_true rfl rfl rfl rfl)) (qCons (qFor (T := (.nm 3)) [3, 4, 5, 6, 7, 8] hp rfl (qiRng1 fx.gl_range (qaCons (qAdd rfl (qMul (qAdd rfl (qVar 1) (qInt)) (qAdd rfl (qVar 1) (qInt))) (qInt)) qaNil)) (fun _ => qgName (i := 3) fxo_none S_p_law_honest.nd) (fun _ => qCons (qSet (i := 4) fxo_none S_p_law_honest.nd (qmFr (qLst qaNil))) (qCons (qFor (T := (.nm 5)) [5, 6, 7] hp rfl (qiRng1 fx.gl_range (qaCons (qVar 1) qaNil)) (fun _ => qgName (i := 5) fxo_none S_p_law_honest.nd) (fun _ => qLast (qFor (T := (.nm 6)) [6, 7] hp rfl (qiRng1 fx.gl_range (qaCons (qVar 1) qaNil)) (fun _ => qgName (i := 6) fxo_none S_p_law_honest.nd) (fun _ => qLast (qIfS (qtVal (m := false) (qIdx rfl (qIdx rfl (qOwn 2) (qVar 5)) (qVar 6))) (qLast (qFor (T := (.nm 7)) [7] hp rfl (qiRng1 fx.gl_range (qaCons (qInt) qaNil)) (fun _ => qgName (i := 7) fxo_none S_p_law_honest.nd) (fun _ => qLast (qIfS (qt_not (qtVal (m := false) (qIdx rfl (qIdx rfl (qOwn 2) (qIdx rfl (qIdx rfl (qVar 0) (qVar 5)) (qVar 7))) (qIdx rfl (qIdx rfl (qVar 0) (qVar 6)) (qVar 7))))) (qLast (qApp (qpVar 4) (qmSh (qFz (qLst (qaCons (qVar 5) (qaCons (qVar 6) qaNil))))))) (qNil))))) (qNil)))))) (qCons (qIfS (tEq (m := false) rfl hu (qLen rfl fx.gl_len (qaCons (qOwn 4) qaNil)) (qInt)) (qLast (qBreak)) (qNil)) (qFzS 4 (qLast (qFor (T := (.nm 8)) [8] hp rfl (qiSeq rfl (qVar 4)) (fun _ => qgName (i := 8) fxo_none S_p_law_honest.nd) (fun _ => qLast (qSt (m := true) (qmSh (qBl)) (qpIx (m := true) (qpVar 2) (qIdx rfl (qVar 8) (qInt))) (qIdx rfl (qVar 8) (qInt))))))))))) (qCons (qFor (T := (.nm 9)) [7, 9] hp rfl (qiSeq rfl (qVar 0)) (fun _ => qgName (i := 9) fxo_none S_p_law_honest.nd) (fun _ => qLast (qFor (T := (.nm 7)) [7] hp rfl (qiRng1 fx.gl_range (qaCons (qInt) qaNil)) (fun _ => qgName (i := 7) fxo_none S_p_law_honest.nd) (fun _ => qLast (qIfS (qt_not (qtVal (m := false) (qIdx rfl (qIdx rfl (qOwn 2) (qIdx rfl (qVar 9) (qVar 7))) (qIdx rfl (qVar 9) (qAdd rfl (qVar 7) (qInt)))))) (qLast (qRt (qmSh (qBl)))) (qNil)))))) (qLast (qRt (qmSh (qBl)))))))
theorem ok_p_law_charged (fx : Fx P Γ mg ad fd dv cv cu fI) : FnOk P w Γ.K mg base (L2N.CX P w) 1 (ad 20) (fd 20) ["kind", "allowance", "need", "drop"] (spP Γ F_p_law_charged) := by
  refine qDef fx.F_p_law_charged S_p_law_charged rfl rfl fun cdv A outer s H E C hG hfx hr tk hp => ?_
  obtain ⟨G, He, Hz, fx0, Hx⟩ := C
  dsimp only at hG hfx
  subst hG hfx
  have hu := L3.hu_of hr
  have hrH := L2H.roomH_of hr
  have hdep := L3.dep_of hr
  unfold s_p_law_charged
  exact qCons (qIfS (tEq (m := true) rfl hu (qVar 0) (qStr)) (qLast (qRt (qmSh (qFz (qLst (qaCons (qVar 2) (qaCons (qVar 3) qaNil))))))) (qNil)) (qCons (qIfS (tEq (m := true) rfl hu (qVar 0) (qStr)) (qLast (qRt (qmSh (qFz (qLst (qaCons (qVar 2) (qaCons (qMax rfl rfl fx.gl_max (qaCons (qInt) (qaCons (qSub (qVar 3) (qVar 1)) qaNil))) qaNil))))))) (qNil)) (qLast (qRt (qmSh (qFz (qLst (qaCons (qMax rfl rfl fx.gl_max (qaCons (qInt) (qaCons (qSub (qVar 2) (qVar 1)) qaNil))) (qaCons (qMax rfl rfl fx.gl_max (qaCons (qInt) (qaCons (qSub (qVar 3) (qVar 1)) qaNil))) qaNil))))))))
theorem ok_p_law_phases (fx : Fx P Γ mg ad fd dv cv cu fI) : FnOk P w Γ.K mg base (L2N.CX P w) 1 (ad 21) (fd 21) ["stages", "count"] (spP Γ F_p_law_phases) := by
  refine qDef fx.F_p_law_phases S_p_law_phases rfl rfl fun cdv A outer s H E C hG hfx hr tk hp => ?_
  obtain ⟨G, He, Hz, fx0, Hx⟩ := C
  dsimp only at hG hfx
  subst hG hfx
  have hu := L3.hu_of hr
  have hrH := L2H.roomH_of hr
  have hdep := L3.dep_of hr
  unfold s_p_law_phases
  exact qCons (qSet (i := 2) fxo_none S_p_law_phases.nd (qmFr (qLst qaNil))) (qCons (qFor (T := (.nm 3)) [3, 4] hp rfl (qiRng1 fx.gl_range (qaCons (qLen rfl fx.gl_len (qaCons (qVar 0) qaNil)) qaNil)) (fun _ => qgName (i := 3) fxo_none S_p_law_phases.nd) (fun _ => qLast (qFor (T := (.nm 4)) [4] hp rfl (qiRng1 fx.gl_range (qaCons (qIdx rfl (qIdx rfl (qVar 0) (qVar 3)) (qInt)) qaNil)) (fun _ => qgName (i := 4) fxo_none S_p_law_phases.nd) (fun _ => qLast (qApp (qpVar 2) (qmSh (qTup (qaCons (qVar 3) (qaCons (qSub (qIdx rfl (qIdx rfl (qVar 0) (qVar 3)) (qInt)) (qVar 4)) qaNil))))))))) (qCons (qApp (qpVar 2) (qmSh (qTup (qaCons (qLen rfl fx.gl_len (qaCons (qVar 0) qaNil)) (qaCons (qInt) qaNil))))) (qFzS 2 (qLast (qRt (qmSh (qAdd rfl (qVar 2) (qFz ((qLc (T := .nm 5) rfl S_p_law_phases.nd (qiRng1 fx.gl_range (qaCons (qVar 1) qaNil)) (own := [("state", 5)]) (blkOk_by rfl) (by decide) fxs_none (lcName (i := 5) fxo_none S_p_law_phases.nd rfl (fun _ _ => rfl)) (fun _ _ _ _ _ => qtsNil) (fun _ _ _ _ _ => qSh (qTup (qaCons (qNeg (qInt)) (qaCons (qVar 5) qaNil))))))))))))))
theorem ok_good_pairs (fx : Fx P Γ mg ad fd dv cv cu fI) (k_keeps_good : FnOk P w Γ.K mg base (L2N.CX P w) 1 (ad 1) (fd 1) ["table", "one", "two"] (spP Γ F_keeps_good)) : FnOk P w Γ.K mg base (L2N.CX P w) 2 (ad 2) (fd 2) ["rows"] (spP Γ F_good_pairs) := by
  refine qDef fx.F_good_pairs S_good_pairs rfl rfl fun cdv A outer s H E C hG hfx hr tk hp => ?_
  obtain ⟨G, He, Hz, fx0, Hx⟩ := C
  dsimp only at hG hfx
  subst hG hfx
  have hu := L3.hu_of hr
  have hrH := L2H.roomH_of hr
  have hdep := L3.dep_of hr
  unfold s_good_pairs
  exact qCons (qSet (i := 1) fxo_none S_good_pairs.nd (qmSh (qLen rfl fx.gl_len (qaCons (qVar 0) qaNil)))) (qCons (qSetLc (T := .nm 4) fxo_none rfl S_good_pairs.nd (qiRng1 fx.gl_range (qaCons (qAdd rfl (qVar 1) (qInt)) qaNil)) (own := [("left", 4)]) (blkOk_by rfl) (by decide) fxs_none (lcNameC (i := 4) fxo_none S_good_pairs.nd rfl (fun _ _ => rfl) rfl) (fun _ _ _ _ _ => qtsNil) (fun _ _ _ _ _ => (qLc (T := .nm 5) rfl S_good_pairs.nd (qiRng1 fx.gl_range (qaCons (qAdd rfl (qVar 1) (qInt)) qaNil)) (own := [("right", 5)]) (blkOk_by rfl) (by decide) fxs_none (lcName (i := 5) fxo_none S_good_pairs.nd rfl (fun _ _ => rfl)) (fun _ _ _ _ _ => qtsNil) (fun _ _ _ _ _ => qSh (qOr (qLt  (qVar 4) (qVar 1)) (qOne (qEq rfl hu (qVar 5) (qVar 1))))))) (sw_true rfl rfl rfl rfl)) (qCons (qSet (i := 3) fxo_none S_good_pairs.nd (qmSh (qBl))) (qCons (qWhile fuel_good_pairs [4, 5] hp (qtVal (m := true) (qVar 3)) (qCons (qSet (i := 3) fxo_none S_good_pairs.nd (qmSh (qBl))) (qLast (qFor (T := (.nm 4)) [4, 5] hp rfl (qiRng1 fx.gl_range (qaCons (qVar 1) qaNil)) (fun _ => qgName (i := 4) fxo_none S_good_pairs.nd) (fun _ => qLast (qFor (T := (.nm 5)) [5] hp rfl (qiRng1 fx.gl_range (qaCons (qVar 1) qaNil)) (fun _ => qgName (i := 5) fxo_none S_good_pairs.nd) (fun _ => qLast (qIfS (qt_w (qw_and (qtVal (m := false) (qIdx rfl (qIdx rfl (qOwn 2) (qVar 4)) (qVar 5))) (qw_and1 (qt_not (qtVal (m := true) (qFz ((qCall k_keeps_good (hr.mono (by decide)) tk fx.G_keeps_good fx.F_keeps_good.kp fx.B0_keeps_good.2 fx.B0_keeps_good.1 (fun _ => Reps.nil) (qaCons (qOwn 2) (qaCons (qIdx rfl (qVar 0) (qVar 4)) (qaCons (qIdx rfl (qVar 0) (qVar 5)) qaNil))))))))))) (qCons (qSt (m := true) (qmSh (qBl)) (qpIx (m := true) (qpVar 2) (qVar 4)) (qVar 5)) (qLast (qSet (i := 3) fxo_none S_good_pairs.nd (qmSh (qBl))))) (qNil))))))))) (qLast (qRt (qmMv 2))))))
theorem ok_Book_opening (fx : Fx P Γ mg ad fd dv cv cu fI) (k_Book_stage_phase : FnOk P w Γ.K mg base (L2N.CX P w) 1 (ad 8) (fd 8) ["self", "stage"] (spP Γ F_Book_stage_phase)) : FnOk P w Γ.K mg base (L2N.CX P w) 2 (ad 9) (fd 9) ["self"] (spP Γ F_Book_opening) := by
  refine qDef fx.F_Book_opening S_Book_opening rfl rfl fun cdv A outer s H E C hG hfx hr tk hp => ?_
  obtain ⟨G, He, Hz, fx0, Hx⟩ := C
  dsimp only at hG hfx
  subst hG hfx
  have hu := L3.hu_of hr
  have hrH := L2H.roomH_of hr
  have hdep := L3.dep_of hr
  unfold s_Book_opening
  exact qLast (qRt (qmSh (qFz ((qMeth (c := 4) k_Book_stage_phase fx.C_Book fx.MT_Book_stage_phase (hr.mono (by decide)) tk fx.B0_Book_stage_phase.2 fx.B0_Book_stage_phase.1 (fun _ => Reps.nil) (qVar 0) (qaCons (qInt) qaNil))))))
theorem ok_Book_moved (fx : Fx P Γ mg ad fd dv cv cu fI) (k_Book_phases : FnOk P w Γ.K mg base (L2N.CX P w) 1 (ad 10) (fd 10) ["self"] (spP Γ F_Book_phases)) (k_Book_stage_phase : FnOk P w Γ.K mg base (L2N.CX P w) 1 (ad 8) (fd 8) ["self", "stage"] (spP Γ F_Book_stage_phase)) : FnOk P w Γ.K mg base (L2N.CX P w) 2 (ad 11) (fd 11) ["self", "phase"] (spP Γ F_Book_moved) := by
  refine qDef fx.F_Book_moved S_Book_moved rfl rfl fun cdv A outer s H E C hG hfx hr tk hp => ?_
  obtain ⟨G, He, Hz, fx0, Hx⟩ := C
  dsimp only at hG hfx
  subst hG hfx
  have hu := L3.hu_of hr
  have hrH := L2H.roomH_of hr
  have hdep := L3.dep_of hr
  unfold s_Book_moved
  exact qCons (qTg (qVar 1) (qgTup rfl rfl (qgsCons (i := 2) fxo_none S_Book_moved.nd (qgsCons (i := 3) fxo_none S_Book_moved.nd qgsNil)))) (qCons (qIfS (qt_w (qw_or (tLt (m := true)  (qVar 2) (qInt)) (qw_or1 (tNotIn (m := true) rfl hu (qTup (qaCons (qVar 2) (qaCons (qVar 3) qaNil))) (qFz ((qMeth0 (c := 4) (m := true) k_Book_phases fx.C_Book fx.MT_Book_phases (hr.mono (by decide)) tk fx.B0_Book_phases.2 fx.B0_Book_phases.1 (fun _ => Reps.nil) (qVar 0)))))))) (qLast (qRz (c := 3) rfl tk fx.SU_NoPhase fx.G_NoPhase fx.KP_NoPhase (fx.RS_NoPhase _ rfl) hdep (qTup (qaCons (qVar 2) (qaCons (qVar 3) qaNil))))) (qNil)) (qCons (qIfS (tEq (m := true) rfl hu (qVar 3) (qInt)) (qLast (qRt (qmSh (qTup (qaCons (qTup (qaCons (qVar 2) (qaCons (qVar 3) qaNil))) (qaCons (qInt) qaNil)))))) (qNil)) (qCons (qIfS (tGt (m := true)  (qVar 3) (qInt)) (qLast (qRt (qmSh (qTup (qaCons (qTup (qaCons (qVar 2) (qaCons (qSub (qVar 3) (qInt)) qaNil))) (qaCons (qInt) qaNil)))))) (qNil)) (qLast (qRt (qmSh (qTup (qaCons (qFz ((qMeth (c := 4) k_Book_stage_phase fx.C_Book fx.MT_Book_stage_phase (hr.mono (by decide)) tk fx.B0_Book_stage_phase.2 fx.B0_Book_stage_phase.1 (fun _ => Reps.nil) (qVar 0) (qaCons (qAdd rfl (qVar 2) (qInt)) qaNil)))) (qaCons (qIdx rfl (qIdx rfl (qFld (ok := ok_stages) rfl fx.FL_stages (qVar 0)) (qVar 2)) (qInt)) qaNil)))))))))
theorem ok_Book_overtime_step (fx : Fx P Γ mg ad fd dv cv cu fI) (k_checked_amount : FnOk P w Γ.K mg base (L2N.CX P w) 1 (ad 0) (fd 0) ["amount"] (spP Γ F_checked_amount)) : FnOk P w Γ.K mg base (L2N.CX P w) 2 (ad 12) (fd 12) ["self", "state", "time"] (spP Γ F_Book_overtime_step) := by
  refine qDef fx.F_Book_overtime_step S_Book_overtime_step rfl rfl fun cdv A outer s H E C hG hfx hr tk hp => ?_
  obtain ⟨G, He, Hz, fx0, Hx⟩ := C
  dsimp only at hG hfx
  subst hG hfx
  have hu := L3.hu_of hr
  have hrH := L2H.roomH_of hr
  have hdep := L3.dep_of hr
  unfold s_Book_overtime_step
  exact qCons (qIfS (qt_w (qw_or (tLt (m := true)  (qVar 1) (qInt)) (qw_or1 (tGe (m := true)  (qVar 1) (qLen rfl fx.gl_len (qaCons (qFld (ok := ok_overtime) rfl fx.FL_overtime (qVar 0)) qaNil)))))) (qLast (qRz (c := 3) rfl tk fx.SU_NoPhase fx.G_NoPhase fx.KP_NoPhase (fx.RS_NoPhase _ rfl) hdep (qTup (qaCons (qNeg (qInt)) (qaCons (qVar 1) qaNil))))) (qNil)) (qCons (qDoF ((qCall k_checked_amount (hr.mono (by decide)) tk fx.G_checked_amount fx.F_checked_amount.kp fx.B0_checked_amount.2 fx.B0_checked_amount.1 (fun _ => Reps.nil) (qaCons (qVar 2) qaNil)))) (qCons (qIfS (qt_w (qw_or (tGe (m := true)  (qVar 2) (qGlob fx.G_TIMES.1 fx.G_TIMES.2 fx.R_TIMES)) (qw_or1 (tEq (m := true) rfl hu (qIdx rfl (qIdx rfl (qFld (ok := ok_overtime) rfl fx.FL_overtime (qVar 0)) (qVar 1)) (qVar 2)) (qLen rfl fx.gl_len (qaCons (qFld (ok := ok_overtime) rfl fx.FL_overtime (qVar 0)) qaNil)))))) (qLast (qRt (qmSh (qNon)))) (qNil)) (qLast (qRt (qmSh (qIdx rfl (qIdx rfl (qFld (ok := ok_overtime) rfl fx.FL_overtime (qVar 0)) (qVar 1)) (qVar 2)))))))
theorem ok_p_law_pair (fx : Fx P Γ mg ad fd dv cv cu fI) (k_p_law_is : FnOk P w Γ.K mg base (L2N.CX P w) 1 (ad 16) (fd 16) ["actual", "expected"] (spP Γ F_p_law_is)) : FnOk P w Γ.K mg base (L2N.CX P w) 2 (ad 17) (fd 17) ["actual", "expected"] (spP Γ F_p_law_pair) := by
  refine qDef fx.F_p_law_pair S_p_law_pair rfl rfl fun cdv A outer s H E C hG hfx hr tk hp => ?_
  obtain ⟨G, He, Hz, fx0, Hx⟩ := C
  dsimp only at hG hfx
  subst hG hfx
  have hu := L3.hu_of hr
  have hrH := L2H.roomH_of hr
  have hdep := L3.dep_of hr
  unfold s_p_law_pair
  exact qCons (qIfS (qt_w (qw_or (qt_not (qtVal (m := true) (qIsiT (tb := tbT "tuple") (ib := ibN) rfl fx.gl_isinstance fx.gl_tuple bt_tuple tbT_ok ibN_ok (qVar 0)))) (qw_or1 (tNe (m := true) rfl hu (qLen rfl fx.gl_len (qaCons (qVar 0) qaNil)) (qInt))))) (qLast (qRt (qmSh (qBl)))) (qNil)) (qLast (qRt (qmSh (qAnd (qFz ((qCall k_p_law_is (hr.mono (by decide)) tk fx.G_p_law_is fx.F_p_law_is.kp fx.B0_p_law_is.2 fx.B0_p_law_is.1 (fun _ => Reps.nil) (qaCons (qIdx rfl (qVar 0) (qInt)) (qaCons (qIdx rfl (qVar 1) (qInt)) qaNil))))) (qOne (qFz ((qCall k_p_law_is (hr.mono (by decide)) tk fx.G_p_law_is fx.F_p_law_is.kp fx.B0_p_law_is.2 fx.B0_p_law_is.1 (fun _ => Reps.nil) (qaCons (qIdx rfl (qVar 0) (qInt)) (qaCons (qIdx rfl (qVar 1) (qInt)) qaNil))))))))))
theorem ok_p_law_rows (fx : Fx P Γ mg ad fd dv cv cu fI) (k_p_law_numbers : FnOk P w Γ.K mg base (L2N.CX P w) 1 (ad 15) (fd 15) ["cell", "salt", "count", "many"] (spP Γ F_p_law_numbers)) : FnOk P w Γ.K mg base (L2N.CX P w) 2 (ad 18) (fd 18) ["cell", "count", "way"] (spP Γ F_p_law_rows) := by
  refine qDef fx.F_p_law_rows S_p_law_rows rfl rfl fun cdv A outer s H E C hG hfx hr tk hp => ?_
  obtain ⟨G, He, Hz, fx0, Hx⟩ := C
  dsimp only at hG hfx
  subst hG hfx
  have hu := L3.hu_of hr
  have hrH := L2H.roomH_of hr
  have hdep := L3.dep_of hr
  unfold s_p_law_rows
  exact qCons (qSet (i := 3) fxo_none S_p_law_rows.nd (qmFr (qLst qaNil))) (qCons (qSet (i := 4) fxo_none S_p_law_rows.nd (qmSh (qMul (qFz (qLst (qaCons (qInt) qaNil))) (qInt)))) (qCons (qFor (T := (.nm 5)) [5, 6, 7, 8, 9] hp rfl (qiRng1 fx.gl_range (qaCons (qVar 1) qaNil)) (fun _ => qgName (i := 5) fxo_none S_p_law_rows.nd) (fun _ => qCons (qSet (i := 6) fxo_none S_p_law_rows.nd (qmSh (qFz ((qCall k_p_law_numbers (hr.mono (by decide)) tk fx.G_p_law_numbers fx.F_p_law_numbers.kp fx.B0_p_law_numbers.2 fx.B0_p_law_numbers.1 (fun _ => Reps.nil) (qaCons (qVar 0) (qaCons (qAdd rfl (qInt) (qVar 5)) (qaCons (qInt) (qaCons (qIf (tEq (m := true) rfl hu (qMod (qVar 2) (qInt)) (qInt)) (qInt) (qAdd rfl (qVar 1) (qInt))) qaNil))))))))) (qCons (qSet (i := 7) fxo_none S_p_law_rows.nd (qmFr (qLst qaNil))) (qCons (qSet (i := 8) fxo_none S_p_law_rows.nd (qmSh (qInt))) (qCons (qFor (T := (.nm 9)) [9] hp rfl (qiRng1 fx.gl_range (qaCons (qInt) qaNil)) (fun _ => qgName (i := 9) fxo_none S_p_law_rows.nd) (fun _ => qCons (qIfS (tEq (m := true) rfl hu (qMod (qVar 2) (qInt)) (qInt)) (qLast (qSet (i := 8) fxo_none S_p_law_rows.nd (qmSh (qMod (qIdx rfl (qVar 6) (qVar 9)) (qAdd rfl (qVar 1) (qInt)))))) (qLast (qSet (i := 8) fxo_none S_p_law_rows.nd (qmSh (qMin rfl rfl fx.gl_min (qaCons (qVar 1) (qaCons (qMax rfl rfl fx.gl_max (qaCons (qAdd rfl (qVar 8) (qFdiv (qIdx rfl (qVar 6) (qVar 9)) (qInt))) (qaCons (qIdx rfl (qVar 4) (qVar 9)) qaNil))) qaNil))))))) (qLast (qApp (qpVar 7) (qmSh (qVar 8)))))) (qAppList (j := 7) (i := 4) rfl fxo_none S_p_law_rows.nd fx.gl_list (qpVar 3) (qFzS 4 (qNil)))))))) (qCons (qIfS (qt_w (qw_and (tEq (m := true) rfl hu (qMod (qVar 2) (qInt)) (qInt)) (qw_and1 (tGt (m := true)  (qVar 1) (qInt))))) (qCons (qSet (i := 10) fxo_none S_p_law_rows.nd (qmSh (qFz ((qCall k_p_law_numbers (hr.mono (by decide)) tk fx.G_p_law_numbers fx.F_p_law_numbers.kp fx.B0_p_law_numbers.2 fx.B0_p_law_numbers.1 (fun _ => Reps.nil) (qaCons (qVar 0) (qaCons (qInt) (qaCons (qInt) (qaCons (qInt) qaNil))))))))) (qLast (qSt (m := true) (qmSh (qMod (qIdx rfl (qVar 10) (qInt)) (qAdd rfl (qVar 1) (qInt)))) (qpIx (m := true) (qpVar 3) (qMod (qIdx rfl (qVar 10) (qInt)) (qVar 1))) (qMod (qIdx rfl (qVar 10) (qInt)) (qInt))))) (qNil)) (qLast (qRt (qmMv 3))))))
theorem ok_is_honest (fx : Fx P Γ mg ad fd dv cv cu fI) (k_good_pairs : FnOk P w Γ.K mg base (L2N.CX P w) 2 (ad 2) (fd 2) ["rows"] (spP Γ F_good_pairs)) : FnOk P w Γ.K mg base (L2N.CX P w) 3 (ad 3) (fd 3) ["rows"] (spP Γ F_is_honest) := by
  refine qDef fx.F_is_honest S_is_honest rfl rfl fun cdv A outer s H E C hG hfx hr tk hp => ?_
  obtain ⟨G, He, Hz, fx0, Hx⟩ := C
  dsimp only at hG hfx
  subst hG hfx
  have hu := L3.hu_of hr
  have hrH := L2H.roomH_of hr
  have hdep := L3.dep_of hr
  unfold s_is_honest
  exact qCons (qSet (i := 1) fxo_none S_is_honest.nd (qmSh (qFz ((qCall k_good_pairs (hr.mono (by decide)) tk fx.G_good_pairs fx.F_good_pairs.kp fx.B0_good_pairs.2 fx.B0_good_pairs.1 (fun _ => Reps.nil) (qaCons (qVar 0) qaNil)))))) (qCons (qFor (T := (.nm 2)) [2, 3] hp rfl (qiSeq rfl (qVar 0)) (fun _ => qgName (i := 2) fxo_none S_is_honest.nd) (fun _ => qLast (qFor (T := (.nm 3)) [3] hp rfl (qiRng1 fx.gl_range (qaCons (qSub (qGlob fx.G_TIMES.1 fx.G_TIMES.2 fx.R_TIMES) (qInt)) qaNil)) (fun _ => qgName (i := 3) fxo_none S_is_honest.nd) (fun _ => qLast (qIfS (qt_not (qtVal (m := true) (qIdx rfl (qIdx rfl (qVar 1) (qIdx rfl (qVar 2) (qVar 3))) (qIdx rfl (qVar 2) (qAdd rfl (qVar 3) (qInt)))))) (qLast (qRt (qmSh (qBl)))) (qNil)))))) (qLast (qRt (qmSh (qBl)))))
theorem ok_p_law_no_phase (fx : Fx P Γ mg ad fd dv cv cu fI) (k_Book_moved : FnOk P w Γ.K mg base (L2N.CX P w) 2 (ad 11) (fd 11) ["self", "phase"] (spP Γ F_Book_moved)) : FnOk P w Γ.K mg base (L2N.CX P w) 3 (ad 22) (fd 22) ["book", "phase"] (spP Γ F_p_law_no_phase) := by
  refine qDef fx.F_p_law_no_phase S_p_law_no_phase rfl rfl fun cdv A outer s H E C hG hfx hr tk hp => ?_
  obtain ⟨G, He, Hz, fx0, Hx⟩ := C
  dsimp only at hG hfx
  subst hG hfx
  have hu := L3.hu_of hr
  have hrH := L2H.roomH_of hr
  have hdep := L3.dep_of hr
  unfold s_p_law_no_phase
  exact qCons (qTry rfl rfl rfl tk (fun W pl xe tk hp => qLast (qDoF ((qMeth (c := 4) k_Book_moved fx.C_Book fx.MT_Book_moved (hr.mono (by decide)) tk fx.B0_Book_moved.2 fx.B0_Book_moved.1 (fun _ => Reps.nil) (qVar 0) (qaCons (qVar 1) qaNil))))) (.named (i := 2) (mt := mt_NoPhase) S_p_law_no_phase.nd ⟨rfl, by decide, .inl fx.G_NoPhase⟩ fx.MTX_NoPhase (fun a ob cls d pl x Hx hz hf rx => qLast (qRt (qmSh (qAnd (qEq rfl hu (qXf (ok := okx_phase) fx.XF_phase hz hf rx) (qVar 1)) (qAnd (qXi (ib := ib_Fault) fx.gl_isinstance fx.G_Fault fx.XI_Fault hz hf rx) (qOne (qNot (qXi (ib := ib_BadBook) fx.gl_isinstance fx.G_BadBook fx.XI_BadBook hz hf rx)))))))) .nil)) (qLast (qRt (qmSh (qBl))))
theorem ok_p_law_no_state (fx : Fx P Γ mg ad fd dv cv cu fI) (k_Book_overtime_step : FnOk P w Γ.K mg base (L2N.CX P w) 2 (ad 12) (fd 12) ["self", "state", "time"] (spP Γ F_Book_overtime_step)) : FnOk P w Γ.K mg base (L2N.CX P w) 3 (ad 24) (fd 24) ["book", "state"] (spP Γ F_p_law_no_state) := by
  refine qDef fx.F_p_law_no_state S_p_law_no_state rfl rfl fun cdv A outer s H E C hG hfx hr tk hp => ?_
  obtain ⟨G, He, Hz, fx0, Hx⟩ := C
  dsimp only at hG hfx
  subst hG hfx
  have hu := L3.hu_of hr
  have hrH := L2H.roomH_of hr
  have hdep := L3.dep_of hr
  unfold s_p_law_no_state
  exact qCons (qTry rfl rfl rfl tk (fun W pl xe tk hp => qLast (qDoF ((qMeth (c := 4) k_Book_overtime_step fx.C_Book fx.MT_Book_overtime_step (hr.mono (by decide)) tk fx.B0_Book_overtime_step.2 fx.B0_Book_overtime_step.1 (fun _ => Reps.nil) (qVar 0) (qaCons (qVar 1) (qaCons (qNeg (qInt)) qaNil)))))) (.named (i := 2) (mt := mt_NoPhase) S_p_law_no_state.nd ⟨rfl, by decide, .inl fx.G_NoPhase⟩ fx.MTX_NoPhase (fun a ob cls d pl x Hx hz hf rx => qLast (qRt (qmSh (qAnd (qEq rfl hu (qXf (ok := okx_phase) fx.XF_phase hz hf rx) (qTup (qaCons (qNeg (qInt)) (qaCons (qVar 1) qaNil)))) (qAnd (qXi (ib := ib_Fault) fx.gl_isinstance fx.G_Fault fx.XI_Fault hz hf rx) (qOne (qNot (qXi (ib := ib_BadAmount) fx.gl_isinstance fx.G_BadAmount fx.XI_BadAmount hz hf rx)))))))) .nil)) (qLast (qRt (qmSh (qBl))))
theorem ok_overtime_fits (fx : Fx P Γ mg ad fd dv cv cu fI) (k_is_honest : FnOk P w Γ.K mg base (L2N.CX P w) 3 (ad 3) (fd 3) ["rows"] (spP Γ F_is_honest)) : FnOk P w Γ.K mg base (L2N.CX P w) 4 (ad 5) (fd 5) ["rows"] (spP Γ F_overtime_fits) := by
  refine qDef fx.F_overtime_fits S_overtime_fits rfl rfl fun cdv A outer s H E C hG hfx hr tk hp => ?_
  obtain ⟨G, He, Hz, fx0, Hx⟩ := C
  dsimp only at hG hfx
  subst hG hfx
  have hu := L3.hu_of hr
  have hrH := L2H.roomH_of hr
  have hdep := L3.dep_of hr
  unfold s_overtime_fits
  exact qCons (qIfS (tGt (m := true)  (qLen rfl fx.gl_len (qaCons (qVar 0) qaNil)) (qGlob fx.G_MOST_STATES.1 fx.G_MOST_STATES.2 fx.R_MOST_STATES)) (qLast (qRt (qmSh (qBl)))) (qNil)) (qCons (qFor (T := (.nm 1)) [1] hp rfl (qiSeq rfl (qVar 0)) (fun _ => qgName (i := 1) fxo_none S_overtime_fits.nd) (fun _ => qLast (qIfS (qt_w (qw_or (tNe (m := true) rfl hu (qLen rfl fx.gl_len (qaCons (qVar 1) qaNil)) (qGlob fx.G_TIMES.1 fx.G_TIMES.2 fx.R_TIMES)) (qw_or (tLt (m := true)  (qMin rfl rfl fx.gl_min (qaCons (qVar 1) qaNil)) (qInt)) (qw_or1 (tGt (m := true)  (qMax rfl rfl fx.gl_max (qaCons (qVar 1) qaNil)) (qLen rfl fx.gl_len (qaCons (qVar 0) qaNil))))))) (qLast (qRt (qmSh (qBl)))) (qNil)))) (qLast (qRt (qmSh (qFz ((qCall k_is_honest (hr.mono (by decide)) tk fx.G_is_honest fx.F_is_honest.kp fx.B0_is_honest.2 fx.B0_is_honest.1 (fun _ => Reps.nil) (qaCons (qVar 0) qaNil))))))))
theorem ok_p_law_moves (fx : Fx P Γ mg ad fd dv cv cu fI) (k_Book_moved : FnOk P w Γ.K mg base (L2N.CX P w) 2 (ad 11) (fd 11) ["self", "phase"] (spP Γ F_Book_moved)) (k_Book_opening : FnOk P w Γ.K mg base (L2N.CX P w) 2 (ad 9) (fd 9) ["self"] (spP Γ F_Book_opening)) (k_Book_phases : FnOk P w Γ.K mg base (L2N.CX P w) 1 (ad 10) (fd 10) ["self"] (spP Γ F_Book_phases)) (k_p_law_is : FnOk P w Γ.K mg base (L2N.CX P w) 1 (ad 16) (fd 16) ["actual", "expected"] (spP Γ F_p_law_is)) (k_p_law_no_phase : FnOk P w Γ.K mg base (L2N.CX P w) 3 (ad 22) (fd 22) ["book", "phase"] (spP Γ F_p_law_no_phase)) (k_p_law_pair : FnOk P w Γ.K mg base (L2N.CX P w) 2 (ad 17) (fd 17) ["actual", "expected"] (spP Γ F_p_law_pair)) (k_p_law_phases : FnOk P w Γ.K mg base (L2N.CX P w) 1 (ad 21) (fd 21) ["stages", "count"] (spP Γ F_p_law_phases)) : FnOk P w Γ.K mg base (L2N.CX P w) 4 (ad 23) (fd 23) ["book", "stages", "count"] (spP Γ F_p_law_moves) := by
  refine qDef fx.F_p_law_moves S_p_law_moves rfl rfl fun cdv A outer s H E C hG hfx hr tk hp => ?_
  obtain ⟨G, He, Hz, fx0, Hx⟩ := C
  dsimp only at hG hfx
  subst hG hfx
  have hu := L3.hu_of hr
  have hrH := L2H.roomH_of hr
  have hdep := L3.dep_of hr
  unfold s_p_law_moves
  exact qCons (qSet (i := 3) fxo_none S_p_law_moves.nd (qmSh (qFz ((qCall k_p_law_phases (hr.mono (by decide)) tk fx.G_p_law_phases fx.F_p_law_phases.kp fx.B0_p_law_phases.2 fx.B0_p_law_phases.1 (fun _ => Reps.nil) (qaCons (qVar 1) (qaCons (qVar 2) qaNil))))))) (qCons (qSet (i := 4) fxo_none S_p_law_moves.nd (qmFr ((qMeth0 (c := 4) (m := true) k_Book_phases fx.C_Book fx.MT_Book_phases (hr.mono (by decide)) tk fx.B0_Book_phases.2 fx.B0_Book_phases.1 (fun _ => Reps.nil) (qVar 0))))) (qCons (qIfS (qt_w (qw_or (qt_not (qtVal (m := false) (qIsiT (tb := tbT "list") (ib := ibN) rfl fx.gl_isinstance fx.gl_list bt_list tbT_ok ibN_ok (qOwn 4)))) (qw_or (tNe (m := false) rfl hu (qLen rfl fx.gl_len (qaCons (qOwn 4) qaNil)) (qLen rfl fx.gl_len (qaCons (qVar 3) qaNil))) (qw_or1 (qt_not (qtVal (m := true) (qFz ((qCall k_p_law_pair (hr.mono (by decide)) tk fx.G_p_law_pair fx.F_p_law_pair.kp fx.B0_p_law_pair.2 fx.B0_p_law_pair.1 (fun _ => Reps.nil) (qaCons (qFz ((qMeth0 (c := 4) (m := true) k_Book_opening fx.C_Book fx.MT_Book_opening (hr.mono (by decide)) tk fx.B0_Book_opening.2 fx.B0_Book_opening.1 (fun _ => Reps.nil) (qVar 0)))) (qaCons (qIdx rfl (qVar 3) (qInt)) qaNil))))))))))) (qLast (qRt (qmSh (qBl)))) (qNil)) (qCons (qFor (T := (.nm 5)) [5, 6, 7, 8, 9] hp rfl (qiRng1 fx.gl_range (qaCons (qLen rfl fx.gl_len (qaCons (qVar 3) qaNil)) qaNil)) (fun _ => qgName (i := 5) fxo_none S_p_law_moves.nd) (fun _ => qCons (qIfS (qt_not (qtVal (m := true) (qFz ((qCall k_p_law_pair (hr.mono (by decide)) tk fx.G_p_law_pair fx.F_p_law_pair.kp fx.B0_p_law_pair.2 fx.B0_p_law_pair.1 (fun _ => Reps.nil) (qaCons (qIdx rfl (qOwn 4) (qVar 5)) (qaCons (qIdx rfl (qVar 3) (qVar 5)) qaNil))))))) (qLast (qRt (qmSh (qBl)))) (qNil)) (qCons (qSet (i := 6) fxo_none S_p_law_moves.nd (qmSh (qIdx rfl (qIdx rfl (qVar 3) (qVar 5)) (qInt)))) (qLast (qIfS (tLt (m := true)  (qVar 6) (qInt)) (qLast (qIfS (qt_not (qtVal (m := true) (qFz ((qCall k_p_law_no_phase (hr.mono (by decide)) tk fx.G_p_law_no_phase fx.F_p_law_no_phase.kp fx.B0_p_law_no_phase.2 fx.B0_p_law_no_phase.1 (fun _ => Reps.nil) (qaCons (qVar 0) (qaCons (qIdx rfl (qVar 3) (qVar 5)) qaNil))))))) (qLast (qRt (qmSh (qBl)))) (qNil))) (qCons (qSet (i := 7) fxo_none S_p_law_moves.nd (qmSh (qIf (tLt (m := true)  (qVar 6) (qLen rfl fx.gl_len (qaCons (qVar 1) qaNil))) (qIdx rfl (qVar 3) (qAdd rfl (qVar 5) (qInt))) (qIdx rfl (qVar 3) (qVar 5))))) (qCons (qSet (i := 8) fxo_none S_p_law_moves.nd (qmSh (qIf (qt_w (qw_and (tLt (m := true)  (qVar 6) (qLen rfl fx.gl_len (qaCons (qVar 1) qaNil))) (qw_and1 (tEq (m := true) rfl hu (qIdx rfl (qIdx rfl (qVar 3) (qVar 5)) (qInt)) (qInt))))) (qIdx rfl (qIdx rfl (qVar 1) (qVar 6)) (qInt)) (qInt)))) (qCons (qSet (i := 9) fxo_none S_p_law_moves.nd (qmSh (qFz ((qMeth (c := 4) k_Book_moved fx.C_Book fx.MT_Book_moved (hr.mono (by decide)) tk fx.B0_Book_moved.2 fx.B0_Book_moved.1 (fun _ => Reps.nil) (qVar 0) (qaCons (qIdx rfl (qVar 3) (qVar 5)) qaNil)))))) (qCons (qIfS (qt_w (qw_or (qt_not (qtVal (m := true) (qIsiT (tb := tbT "tuple") (ib := ibN) rfl fx.gl_isinstance fx.gl_tuple bt_tuple tbT_ok ibN_ok (qVar 9)))) (qw_or1 (tNe (m := true) rfl hu (qLen rfl fx.gl_len (qaCons (qVar 9) qaNil)) (qInt))))) (qLast (qRt (qmSh (qBl)))) (qNil)) (qLast (qIfS (qt_w (qw_or (qt_not (qtVal (m := true) (qFz ((qCall k_p_law_pair (hr.mono (by decide)) tk fx.G_p_law_pair fx.F_p_law_pair.kp fx.B0_p_law_pair.2 fx.B0_p_law_pair.1 (fun _ => Reps.nil) (qaCons (qIdx rfl (qVar 9) (qInt)) (qaCons (qVar 7) qaNil))))))) (qw_or1 (qt_not (qtVal (m := true) (qFz ((qCall k_p_law_is (hr.mono (by decide)) tk fx.G_p_law_is fx.F_p_law_is.kp fx.B0_p_law_is.2 fx.B0_p_law_is.1 (fun _ => Reps.nil) (qaCons (qIdx rfl (qVar 9) (qInt)) (qaCons (qVar 8) qaNil)))))))))) (qLast (qRt (qmSh (qBl)))) (qNil)))))))))))) (qCons (qApp (qpVar 4) (qmSh (qTup (qaCons (qInt) (qaCons (qInt) qaNil))))) (qCons (qIfS (qt_w (qw_or (tNe (m := true) rfl hu (qLen rfl fx.gl_len (qaCons (qFz ((qMeth0 (c := 4) (m := true) k_Book_phases fx.C_Book fx.MT_Book_phases (hr.mono (by decide)) tk fx.B0_Book_phases.2 fx.B0_Book_phases.1 (fun _ => Reps.nil) (qVar 0)))) qaNil)) (qLen rfl fx.gl_len (qaCons (qVar 3) qaNil))) (qw_or1 (qt_not (qtVal (m := true) (qFz ((qCall k_p_law_no_phase (hr.mono (by decide)) tk fx.G_p_law_no_phase fx.F_p_law_no_phase.kp fx.B0_p_law_no_phase.2 fx.B0_p_law_no_phase.1 (fun _ => Reps.nil) (qaCons (qVar 0) (qaCons (qTup (qaCons (qLen rfl fx.gl_len (qaCons (qVar 1) qaNil)) (qaCons (qInt) qaNil))) qaNil)))))))))) (qLast (qRt (qmSh (qBl)))) (qNil)) (qLast (qRt (qmSh (qAnd (qFz ((qCall k_p_law_no_phase (hr.mono (by decide)) tk fx.G_p_law_no_phase fx.F_p_law_no_phase.kp fx.B0_p_law_no_phase.2 fx.B0_p_law_no_phase.1 (fun _ => Reps.nil) (qaCons (qVar 0) (qaCons (qTup (qaCons (qAdd rfl (qLen rfl fx.gl_len (qaCons (qVar 1) qaNil)) (qInt)) (qaCons (qInt) qaNil))) qaNil))))) (qAnd (qFz ((qCall k_p_law_no_phase (hr.mono (by decide)) tk fx.G_p_law_no_phase fx.F_p_law_no_phase.kp fx.B0_p_law_no_phase.2 fx.B0_p_law_no_phase.1 (fun _ => Reps.nil) (qaCons (qVar 0) (qaCons (qTup (qaCons (qInt) (qaCons (qInt) qaNil))) qaNil))))) (qOne (qFz ((qCall k_p_law_no_phase (hr.mono (by decide)) tk fx.G_p_law_no_phase fx.F_p_law_no_phase.kp fx.B0_p_law_no_phase.2 fx.B0_p_law_no_phase.1 (fun _ => Reps.nil) (qaCons (qVar 0) (qaCons (qTup (qaCons (qNeg (qInt)) (qaCons (qInt) qaNil))) qaNil))))))))))))))))
theorem ok_p_law_steps (fx : Fx P Γ mg ad fd dv cv cu fI) (k_Book_overtime_step : FnOk P w Γ.K mg base (L2N.CX P w) 2 (ad 12) (fd 12) ["self", "state", "time"] (spP Γ F_Book_overtime_step)) (k_p_law_is : FnOk P w Γ.K mg base (L2N.CX P w) 1 (ad 16) (fd 16) ["actual", "expected"] (spP Γ F_p_law_is)) (h_p_law_is : L2H.FnH P w Γ.K mg base (L2N.CX P w) 1 (ad 16) (fd 16) ["actual", "expected"] (spP Γ F_p_law_is)) (k_p_law_no_state : FnOk P w Γ.K mg base (L2N.CX P w) 3 (ad 24) (fd 24) ["book", "state"] (spP Γ F_p_law_no_state)) : FnOk P w Γ.K mg base (L2N.CX P w) 4 (ad 25) (fd 25) ["book", "rows", "great"] (spP Γ F_p_law_steps) := by
  refine qDef fx.F_p_law_steps S_p_law_steps rfl rfl fun cdv A outer s H E C hG hfx hr tk hp => ?_
  obtain ⟨G, He, Hz, fx0, Hx⟩ := C
  dsimp only at hG hfx
  subst hG hfx
  have hu := L3.hu_of hr
  have hrH := L2H.roomH_of hr
  have hdep := L3.dep_of hr
  unfold s_p_law_steps
  exact qCons (qFor (T := (.nm 3)) [3, 4, 5, 6, 7] hp rfl (qiRng1 fx.gl_range (qaCons (qLen rfl fx.gl_len (qaCons (qVar 1) qaNil)) qaNil)) (fun _ => qgName (i := 3) fxo_none S_p_law_steps.nd) (fun _ => qCons (qFor (T := (.nm 4)) [4, 5, 6] hp rfl (qiSeq rfl (qAdd rfl (qFz (qListR rfl fx.gl_list fx.gl_range (qInt))) (qFz (qLst (qaCons (qVar 2) qaNil))))) (fun _ => qgName (i := 4) fxo_none S_p_law_steps.nd) (fun _ => qCons (qSet (i := 5) fxo_none S_p_law_steps.nd (qmSh (qIf (tLt (m := true)  (qVar 4) (qInt)) (qIdx rfl (qIdx rfl (qVar 1) (qVar 3)) (qVar 4)) (qLen rfl fx.gl_len (qaCons (qVar 1) qaNil))))) (qCons (qSet (i := 6) fxo_none S_p_law_steps.nd (qmSh (qFz ((qMeth (c := 4) k_Book_overtime_step fx.C_Book fx.MT_Book_overtime_step (hr.mono (by decide)) tk fx.B0_Book_overtime_step.2 fx.B0_Book_overtime_step.1 (fun _ => Reps.nil) (qVar 0) (qaCons (qVar 3) (qaCons (qVar 4) qaNil))))))) (qCons (qIfS (qt_w (qw_and (tEq (m := true) rfl hu (qVar 5) (qLen rfl fx.gl_len (qaCons (qVar 1) qaNil))) (qw_and1 (tNotN (m := true) (qVar 6))))) (qLast (qRt (qmSh (qBl)))) (qNil)) (qLast (qIfS (qt_w (qw_and (tLt (m := true)  (qVar 5) (qLen rfl fx.gl_len (qaCons (qVar 1) qaNil))) (qw_and1 (qt_not (qtVal (m := true) (qFz ((qCall k_p_law_is (hr.mono (by decide)) tk fx.G_p_law_is fx.F_p_law_is.kp fx.B0_p_law_is.2 fx.B0_p_law_is.1 (fun _ => Reps.nil) (qaCons (qVar 6) (qaCons (qVar 5) qaNil)))))))))) (qLast (qRt (qmSh (qBl)))) (qNil))))))) (qLast (qTry rfl rfl rfl tk (fun W pl xe tk hp => qCons (qDoF ((qMeth (c := 4) k_Book_overtime_step fx.C_Book fx.MT_Book_overtime_step (hr.mono (by decide)) tk fx.B0_Book_overtime_step.2 fx.B0_Book_overtime_step.1 (fun _ => Reps.nil) (qVar 0) (qaCons (qVar 3) (qaCons (qAdd rfl (qAdd rfl (qPow (qInt) (qInt)) (qInt)) (qVar 3)) qaNil))))) (qLast (qRt (qmSh (qBl))))) (.named (i := 7) (mt := mt_BadAmount) S_p_law_steps.nd ⟨rfl, by decide, .inl fx.G_BadAmount⟩ fx.MTX_BadAmount (fun a ob cls d pl x Hx hz hf rx => qLast (qIfS (qt_not (qtVal (m := true) (qFz ((qCallH h_p_law_is (room_mark (L2H.RoomH.mono (j := 1) hrH (by decide))) (hotc hz hf) takes0 fx.G_p_law_is fx.F_p_law_is.kp fx.B0_p_law_is.2 (qaCons (qXf (ok := okx_amount) fx.XF_amount hz hf rx) (qaCons (qAdd rfl (qAdd rfl (qPow (qInt) (qInt)) (qInt)) (qVar 3)) qaNil))))))) (qLast (qRt (qmSh (qBl)))) (qNil))) .nil))))) (qLast (qRt (qmSh (qAnd (qFz ((qCall k_p_law_no_state (hr.mono (by decide)) tk fx.G_p_law_no_state fx.F_p_law_no_state.kp fx.B0_p_law_no_state.2 fx.B0_p_law_no_state.1 (fun _ => Reps.nil) (qaCons (qVar 0) (qaCons (qLen rfl fx.gl_len (qaCons (qVar 1) qaNil)) qaNil))))) (qOne (qFz ((qCall k_p_law_no_state (hr.mono (by decide)) tk fx.G_p_law_no_state fx.F_p_law_no_state.kp fx.B0_p_law_no_state.2 fx.B0_p_law_no_state.1 (fun _ => Reps.nil) (qaCons (qVar 0) (qaCons (qNeg (qInt)) qaNil))))))))))
theorem ok_Book_init (fx : Fx P Γ mg ad fd dv cv cu fI) (k_overtime_fits : FnOk P w Γ.K mg base (L2N.CX P w) 4 (ad 5) (fd 5) ["rows"] (spP Γ F_overtime_fits)) (k_stages_fit : FnOk P w Γ.K mg base (L2N.CX P w) 1 (ad 4) (fd 4) ["stages"] (spP Γ F_stages_fit)) : FnOk P w Γ.K mg base (L2N.CX P w) 5 (ad 6) (fd 6) ["self", "kind", "allowance", "stages", "overtime"] (spI Γ 4 F_Book_init) := by
  refine qInit fx.F_Book_init S_Book_init rfl rfl fun cdv A outer s H E self C hG hfx hr tk hp => ?_
  obtain ⟨G, He, Hz, fx0, Hx⟩ := C
  dsimp only at hG hfx
  subst hG hfx
  have hu := L3.hu_of hr
  have hrH := L2H.roomH_of hr
  have hdep := L3.dep_of hr
  unfold s_Book_init
  exact qCons (qIfS (tNotIn (m := true) rfl hu (qVar 1) (qGlob fx.G_BOOK_KINDS.1 fx.G_BOOK_KINDS.2 fx.R_BOOK_KINDS)) (qLast (qRz (c := 2) rfl tk fx.SU_BadBook fx.G_BadBook fx.KP_BadBook (fx.RS_BadBook _ rfl) hdep (qStr))) (qNil)) (qCons (qIfS (qt_w (qw_or (tLt (m := true)  (qVar 2) (qInt)) (qw_or (tGt (m := true)  (qVar 2) (qGlob fx.G_MOST_ALLOWANCE.1 fx.G_MOST_ALLOWANCE.2 fx.R_MOST_ALLOWANCE)) (qw_or1 (qt_w (qw_and (tEq (m := true) rfl hu (qVar 1) (qStr)) (qw_and1 (tGt (m := true)  (qVar 2) (qInt))))))))) (qLast (qRz (c := 2) rfl tk fx.SU_BadBook fx.G_BadBook fx.KP_BadBook (fx.RS_BadBook _ rfl) hdep (qStr))) (qNil)) (qCons (qIfS (qt_not (qtVal (m := true) (qFz ((qCall k_stages_fit (hr.mono (by decide)) tk fx.G_stages_fit fx.F_stages_fit.kp fx.B0_stages_fit.2 fx.B0_stages_fit.1 (fun _ => Reps.nil) (qaCons (qVar 3) qaNil)))))) (qLast (qRz (c := 2) rfl tk fx.SU_BadBook fx.G_BadBook fx.KP_BadBook (fx.RS_BadBook _ rfl) hdep (qStr))) (qNil)) (qCons (qIfS (qt_not (qtVal (m := true) (qFz ((qCall k_overtime_fits (hr.mono (by decide)) tk fx.G_overtime_fits fx.F_overtime_fits.kp fx.B0_overtime_fits.2 fx.B0_overtime_fits.1 (fun _ => Reps.nil) (qaCons (qVar 4) qaNil)))))) (qLast (qRz (c := 2) rfl tk fx.SU_BadBook fx.G_BadBook fx.KP_BadBook (fx.RS_BadBook _ rfl) hdep (qStr))) (qNil)) (qCons (qFl (ok := ok_kind) rfl fx.FL_kind (qmSh (qVar 1)) (qpVar 0)) (qCons (qFl (ok := ok_allowance) rfl fx.FL_allowance (qmSh (qVar 2)) (qpVar 0)) (qCons (qFl (ok := ok_stages) rfl fx.FL_stages (qmSh (qTuple rfl fx.gl_tuple (qaCons (qFz ((qLc (T := .nm 5) rfl S_Book_init.nd (qiSeq rfl (qVar 3)) (own := [("stage", 5)]) (blkOk_by rfl) (by decide) (fxs_some (by decide)) (lcName (i := 5) (fxo_some (by decide)) S_Book_init.nd rfl (fun _ _ => rfl)) (fun _ _ _ _ _ => qtsNil) (fun _ _ _ _ _ => qSh (qTuple rfl fx.gl_tuple (qaCons (qVar 5) qaNil)))))) qaNil))) (qpVar 0)) (qLast (qFl (ok := ok_overtime) rfl fx.FL_overtime (qmSh (qTuple rfl fx.gl_tuple (qaCons (qFz ((qLc (T := .nm 6) rfl S_Book_init.nd (qiSeq rfl (qVar 4)) (own := [("row", 6)]) (blkOk_by rfl) (by decide) (fxs_some (by decide)) (lcName (i := 6) (fxo_some (by decide)) S_Book_init.nd rfl (fun _ _ => rfl)) (fun _ _ _ _ _ => qtsNil) (fun _ _ _ _ _ => qSh (qTuple rfl fx.gl_tuple (qaCons (qVar 6) qaNil)))))) qaNil))) (qpVar 0)))))))))
theorem ok_p_law_refused (fx : Fx P Γ mg ad fd dv cv cu fI) (k_Book_init : FnOk P w Γ.K mg base (L2N.CX P w) 5 (ad 6) (fd 6) ["self", "kind", "allowance", "stages", "overtime"] (spI Γ 4 F_Book_init)) : FnOk P w Γ.K mg base (L2N.CX P w) 7 (ad 26) (fd 26) ["kind", "allowance", "stages", "rows", "part"] (spP Γ F_p_law_refused) := by
  refine qDef fx.F_p_law_refused S_p_law_refused rfl rfl fun cdv A outer s H E C hG hfx hr tk hp => ?_
  obtain ⟨G, He, Hz, fx0, Hx⟩ := C
  dsimp only at hG hfx
  subst hG hfx
  have hu := L3.hu_of hr
  have hrH := L2H.roomH_of hr
  have hdep := L3.dep_of hr
  unfold s_p_law_refused
  exact qCons (qTry rfl rfl rfl tk (fun W pl xe tk hp => qLast (qDoF ((qMake (c := 4) k_Book_init fx.M_Book (hr.mono (by decide)) tk fx.G_Book fx.B0_Book_init.2 fx.B0_Book_init.1 (fun _ => Reps.nil) (qaCons (qVar 0) (qaCons (qVar 1) (qaCons (qVar 2) (qaCons (qVar 3) qaNil)))))))) (.named (i := 5) (mt := mt_BadBook) S_p_law_refused.nd ⟨rfl, by decide, .inl fx.G_BadBook⟩ fx.MTX_BadBook (fun a ob cls d pl x Hx hz hf rx => qLast (qRt (qmSh (qAnd (qEq rfl hu (qXf (ok := okx_part) fx.XF_part hz hf rx) (qVar 4)) (qAnd (qXi (ib := ib_Fault) fx.gl_isinstance fx.G_Fault fx.XI_Fault hz hf rx) (qOne (qNot (qXi (ib := ib_NoPhase) fx.gl_isinstance fx.G_NoPhase fx.XI_NoPhase hz hf rx)))))))) .nil)) (qLast (qRt (qmSh (qBl))))
theorem ok_p_law_bounds (fx : Fx P Γ mg ad fd dv cv cu fI) (k_Book_init : FnOk P w Γ.K mg base (L2N.CX P w) 5 (ad 6) (fd 6) ["self", "kind", "allowance", "stages", "overtime"] (spI Γ 4 F_Book_init)) (k_p_law_refused : FnOk P w Γ.K mg base (L2N.CX P w) 7 (ad 26) (fd 26) ["kind", "allowance", "stages", "rows", "part"] (spP Γ F_p_law_refused)) : FnOk P w Γ.K mg base (L2N.CX P w) 8 (ad 27) (fd 27) ["kind", "allowance", "stages", "rows", "n"] (spP Γ F_p_law_bounds) := by
  refine qDef fx.F_p_law_bounds S_p_law_bounds rfl rfl fun cdv A outer s H E C hG hfx hr tk hp => ?_
  obtain ⟨G, He, Hz, fx0, Hx⟩ := C
  dsimp only at hG hfx
  subst hG hfx
  have hu := L3.hu_of hr
  have hrH := L2H.roomH_of hr
  have hdep := L3.dep_of hr
  unfold s_p_law_bounds
  exact qCons (qSet (i := 5) fxo_none S_p_law_bounds.nd (qmSh (qFz (qLst (qaCons (qMul (qFz (qLst (qaCons (qInt) qaNil))) (qInt)) qaNil))))) (qCons (qIfS (qt_not (qtVal (m := true) (qFz ((qCall k_p_law_refused (hr.mono (by decide)) tk fx.G_p_law_refused fx.F_p_law_refused.kp fx.B0_p_law_refused.2 fx.B0_p_law_refused.1 (fun _ => Reps.nil) (qaCons (qAdd rfl (qStr) (qMul (qStr) (qMul (qMod (qIdx rfl (qVar 4) (qInt)) (qInt)) (qInt)))) (qaCons (qInt) (qaCons (qFz (qLst (qaCons (qTup (qaCons (qInt) (qaCons (qInt) qaNil))) qaNil))) (qaCons (qVar 5) (qaCons (qStr) qaNil)))))))))) (qLast (qRt (qmSh (qBl)))) (qNil)) (qCons (qIfS (qt_w (qw_or (qt_not (qtVal (m := true) (qFz ((qCall k_p_law_refused (hr.mono (by decide)) tk fx.G_p_law_refused fx.F_p_law_refused.kp fx.B0_p_law_refused.2 fx.B0_p_law_refused.1 (fun _ => Reps.nil) (qaCons (qVar 0) (qaCons (qInt) (qaCons (qFz (qLst (qaCons (qTup (qaCons (qInt) (qaCons (qInt) qaNil))) qaNil))) (qaCons (qVar 5) (qaCons (qStr) qaNil)))))))))) (qw_or1 (qt_not (qtVal (m := true) (qFz ((qCall k_p_law_refused (hr.mono (by decide)) tk fx.G_p_law_refused fx.F_p_law_refused.kp fx.B0_p_law_refused.2 fx.B0_p_law_refused.1 (fun _ => Reps.nil) (qaCons (qStr) (qaCons (qInt) (qaCons (qFz (qLst qaNil)) (qaCons (qFz (qLst qaNil)) (qaCons (qStr) qaNil))))))))))))) (qLast (qRt (qmSh (qBl)))) (qNil)) (qCons (qIfS (qt_not (qtVal (m := true) (qFz ((qCall k_p_law_refused (hr.mono (by decide)) tk fx.G_p_law_refused fx.F_p_law_refused.kp fx.B0_p_law_refused.2 fx.B0_p_law_refused.1 (fun _ => Reps.nil) (qaCons (qVar 0) (qaCons (qNeg (qInt)) (qaCons (qVar 2) (qaCons (qVar 3) (qaCons (qStr) qaNil)))))))))) (qLast (qRt (qmSh (qBl)))) (qNil)) (qCons (qFor (T := (.nm 6)) [6, 7] hp rfl (qiSeq rfl (qFz (qLst (qaCons (qTup (qaCons (qInt) (qaCons (qInt) qaNil))) (qaCons (qTup (qaCons (qInt) (qaCons (qInt) qaNil))) (qaCons (qTup (qaCons (qInt) (qaCons (qNeg (qInt)) qaNil))) (qaCons (qTup (qaCons (qInt) (qaCons (qInt) qaNil))) qaNil))))))) (fun _ => qgName (i := 6) fxo_none S_p_law_bounds.nd) (fun _ => qCons (qSet (i := 7) fxo_none S_p_law_bounds.nd (qmSh (qMod (qIdx rfl (qVar 4) (qInt)) (qAdd rfl (qLen rfl fx.gl_len (qaCons (qVar 2) qaNil)) (qInt))))) (qLast (qIfS (qt_w (qw_and (qt_not (qtVal (m := true) (qFz ((qCall k_p_law_refused (hr.mono (by decide)) tk fx.G_p_law_refused fx.F_p_law_refused.kp fx.B0_p_law_refused.2 fx.B0_p_law_refused.1 (fun _ => Reps.nil) (qaCons (qVar 0) (qaCons (qVar 1) (qaCons (qSl rfl (qAdd rfl (qAdd rfl (qSl rfl (qVar 2) qoNone (qoSome (qVar 7))) (qFz (qLst (qaCons (qVar 6) qaNil)))) (qSl rfl (qVar 2) (qoSome (qVar 7)) qoNone)) qoNone (qoSome (qInt))) (qaCons (qVar 5) (qaCons (qStr) qaNil)))))))))) (qw_and1 (tLt (m := true)  (qVar 7) (qInt))))) (qLast (qRt (qmSh (qBl)))) (qNil))))) (qCons (qIfS (qt_not (qtVal (m := true) (qFz ((qCall k_p_law_refused (hr.mono (by decide)) tk fx.G_p_law_refused fx.F_p_law_refused.kp fx.B0_p_law_refused.2 fx.B0_p_law_refused.1 (fun _ => Reps.nil) (qaCons (qVar 0) (qaCons (qVar 1) (qaCons (qMul (qFz (qLst (qaCons (qTup (qaCons (qInt) (qaCons (qInt) qaNil))) qaNil))) (qInt)) (qaCons (qVar 5) (qaCons (qStr) qaNil)))))))))) (qLast (qRt (qmSh (qBl)))) (qNil)) (qCons (qSetLc (T := .nm 10) fxo_none rfl S_p_law_bounds.nd (qiRng1 fx.gl_range (qaCons (qInt) qaNil)) (own := [("k", 10)]) (blkOk_by rfl) (by decide) fxs_none (lcName (i := 10) fxo_none S_p_law_bounds.nd rfl (fun _ _ => rfl)) (fun _ _ _ _ _ => qtsNil) (fun _ _ _ _ _ => qMulF (qFz (qLst (qaCons (qInt) qaNil))) (qInt)) (sw_true rfl rfl rfl rfl)) (qCons (qSt (m := true) (qmSh (qIf (tEq (m := true) rfl hu (qMod (qIdx rfl (qVar 4) (qInt)) (qInt)) (qInt)) (qInt) (qInt))) (qpIx (m := true) (qpVar 8) (qMod (qIdx rfl (qVar 4) (qInt)) (qInt))) (qMod (qIdx rfl (qVar 4) (qInt)) (qInt))) (qCons (qIfS (tNe (m := false) rfl hu (qLen rfl fx.gl_len (qaCons (qFld (ok := ok_overtime) rfl fx.FL_overtime (qFz ((qMake (c := 4) k_Book_init fx.M_Book (hr.mono (by decide)) tk fx.G_Book fx.B0_Book_init.2 fx.B0_Book_init.1 (fun _ => Reps.nil) (qaCons (qStr) (qaCons (qInt) (qaCons (qFz (qLst (qaCons (qTup (qaCons (qInt) (qaCons (qInt) qaNil))) (qaCons (qTup (qaCons (qInt) (qaCons (qInt) qaNil))) (qaCons (qTup (qaCons (qInt) (qaCons (qInt) qaNil))) qaNil))))) (qaCons (qOwn 8) qaNil)))))))) qaNil)) (qInt)) (qLast (qRt (qmSh (qBl)))) (qNil)) (qCons (qIfS (qt_not (qtVal (m := true) (qFz ((qCall k_p_law_refused (hr.mono (by decide)) tk fx.G_p_law_refused fx.F_p_law_refused.kp fx.B0_p_law_refused.2 fx.B0_p_law_refused.1 (fun _ => Reps.nil) (qaCons (qVar 0) (qaCons (qVar 1) (qaCons (qVar 2) (qaCons (qFz ((qLc (T := .nm 10) rfl S_p_law_bounds.nd (qiRng1 fx.gl_range (qaCons (qInt) qaNil)) (own := [("k", 10)]) (blkOk_by rfl) (by decide) fxs_none (lcName (i := 10) fxo_none S_p_law_bounds.nd rfl (fun _ _ => rfl)) (fun _ _ _ _ _ => qtsNil) (fun _ _ _ _ _ => qSh (qMul (qFz (qLst (qaCons (qInt) qaNil))) (qInt)))))) (qaCons (qStr) qaNil)))))))))) (qLast (qRt (qmSh (qBl)))) (qNil)) (qCons (qFor (T := (.nm 9)) [9] hp rfl (qiSeq rfl (qFz (qLst (qaCons (qMul (qFz (qLst (qaCons (qInt) qaNil))) (qInt)) (qaCons (qMul (qFz (qLst (qaCons (qInt) qaNil))) (qInt)) (qaCons (qAdd rfl (qMul (qFz (qLst (qaCons (qInt) qaNil))) (qInt)) (qFz (qLst (qaCons (qInt) qaNil)))) (qaCons (qAdd rfl (qFz (qLst (qaCons (qNeg (qInt)) qaNil))) (qMul (qFz (qLst (qaCons (qInt) qaNil))) (qInt))) qaNil))))))) (fun _ => qgName (i := 9) fxo_none S_p_law_bounds.nd) (fun _ => qLast (qIfS (qt_not (qtVal (m := true) (qFz ((qCall k_p_law_refused (hr.mono (by decide)) tk fx.G_p_law_refused fx.F_p_law_refused.kp fx.B0_p_law_refused.2 fx.B0_p_law_refused.1 (fun _ => Reps.nil) (qaCons (qVar 0) (qaCons (qVar 1) (qaCons (qVar 2) (qaCons (qFz (qLst (qaCons (qVar 9) qaNil))) (qaCons (qStr) qaNil)))))))))) (qLast (qRt (qmSh (qBl)))) (qNil)))) (qLast (qRt (qmSh (qBl))))))))))))))
theorem ok_law (fx : Fx P Γ mg ad fd dv cv cu fI) (k_Book_eq : FnOk P w Γ.K mg base (L2N.CX P w) 1 (ad 13) (fd 13) ["self", "other"] (spP Γ F_Book_eq)) (k_Book_init : FnOk P w Γ.K mg base (L2N.CX P w) 5 (ad 6) (fd 6) ["self", "kind", "allowance", "stages", "overtime"] (spI Γ 4 F_Book_init)) (k_Book_charge : FnOk P w Γ.K mg base (L2N.CX P w) 1 (ad 7) (fd 7) ["self", "need", "drop"] (spP Γ F_Book_charge)) (k_p_law_bounds : FnOk P w Γ.K mg base (L2N.CX P w) 8 (ad 27) (fd 27) ["kind", "allowance", "stages", "rows", "n"] (spP Γ F_p_law_bounds)) (k_p_law_cell : FnOk P w Γ.K mg base (L2N.CX P w) 1 (ad 14) (fd 14) ["script", "k"] (spP Γ F_p_law_cell)) (k_p_law_charged : FnOk P w Γ.K mg base (L2N.CX P w) 1 (ad 20) (fd 20) ["kind", "allowance", "need", "drop"] (spP Γ F_p_law_charged)) (k_p_law_honest : FnOk P w Γ.K mg base (L2N.CX P w) 1 (ad 19) (fd 19) ["rows"] (spP Γ F_p_law_honest)) (k_p_law_is : FnOk P w Γ.K mg base (L2N.CX P w) 1 (ad 16) (fd 16) ["actual", "expected"] (spP Γ F_p_law_is)) (k_p_law_moves : FnOk P w Γ.K mg base (L2N.CX P w) 4 (ad 23) (fd 23) ["book", "stages", "count"] (spP Γ F_p_law_moves)) (k_p_law_numbers : FnOk P w Γ.K mg base (L2N.CX P w) 1 (ad 15) (fd 15) ["cell", "salt", "count", "many"] (spP Γ F_p_law_numbers)) (k_p_law_pair : FnOk P w Γ.K mg base (L2N.CX P w) 2 (ad 17) (fd 17) ["actual", "expected"] (spP Γ F_p_law_pair)) (k_p_law_refused : FnOk P w Γ.K mg base (L2N.CX P w) 7 (ad 26) (fd 26) ["kind", "allowance", "stages", "rows", "part"] (spP Γ F_p_law_refused)) (k_p_law_rows : FnOk P w Γ.K mg base (L2N.CX P w) 2 (ad 18) (fd 18) ["cell", "count", "way"] (spP Γ F_p_law_rows)) (k_p_law_steps : FnOk P w Γ.K mg base (L2N.CX P w) 4 (ad 25) (fd 25) ["book", "rows", "great"] (spP Γ F_p_law_steps)) : FnOk P w Γ.K mg base (L2N.CX P w) 9 (ad 28) (fd 28) ["script"] (spP Γ F_law) := by
  refine qDef fx.F_law S_law rfl rfl fun cdv A outer s H E C hG hfx hr tk hp => ?_
  obtain ⟨G, He, Hz, fx0, Hx⟩ := C
  dsimp only at hG hfx
  subst hG hfx
  have hu := L3.hu_of hr
  have hrH := L2H.roomH_of hr
  have hdep := L3.dep_of hr
  unfold s_law
  exact qCons (qSet (i := 1) fxo_none S_law.nd (qmSh (qFz ((qCall k_p_law_numbers (hr.mono (by decide)) tk fx.G_p_law_numbers fx.F_p_law_numbers.kp fx.B0_p_law_numbers.2 fx.B0_p_law_numbers.1 (fun _ => Reps.nil) (qaCons (qFz ((qCall k_p_law_cell (hr.mono (by decide)) tk fx.G_p_law_cell fx.F_p_law_cell.kp fx.B0_p_law_cell.2 fx.B0_p_law_cell.1 (fun _ => Reps.nil) (qaCons (qVar 0) (qaCons (qInt) qaNil))))) (qaCons (qInt) (qaCons (qInt) (qaCons (qInt) qaNil))))))))) (qCons (qSet (i := 2) fxo_none S_law.nd (qmSh (qIdx rfl (qFz (qLst (qaCons (qStr) (qaCons (qStr) (qaCons (qStr) qaNil))))) (qMod (qIdx rfl (qVar 1) (qInt)) (qInt))))) (qCons (qSet (i := 3) fxo_none S_law.nd (qmSh (qIf (tEq (m := true) rfl hu (qVar 2) (qStr)) (qInt) (qMod (qIdx rfl (qVar 1) (qInt)) (qInt))))) (qCons (qSet (i := 4) fxo_none S_law.nd (qmSh (qFz ((qCall k_p_law_numbers (hr.mono (by decide)) tk fx.G_p_law_numbers fx.F_p_law_numbers.kp fx.B0_p_law_numbers.2 fx.B0_p_law_numbers.1 (fun _ => Reps.nil) (qaCons (qFz ((qCall k_p_law_cell (hr.mono (by decide)) tk fx.G_p_law_cell fx.F_p_law_cell.kp fx.B0_p_law_cell.2 fx.B0_p_law_cell.1 (fun _ => Reps.nil) (qaCons (qVar 0) (qaCons (qInt) qaNil))))) (qaCons (qInt) (qaCons (qInt) (qaCons (qInt) qaNil))))))))) (qCons (qSetLc (T := .nm 12) fxo_none rfl S_law.nd (qiRng1 fx.gl_range (qaCons (qMod (qIdx rfl (qVar 1) (qInt)) (qInt)) qaNil)) (own := [("k", 12)]) (blkOk_by rfl) (by decide) fxs_none (lcName (i := 12) fxo_none S_law.nd rfl (fun _ _ => rfl)) (fun _ _ _ _ _ => qtsNil) (fun _ _ _ _ _ => qSh (qTup (qaCons (qAdd rfl (qInt) (qMod (qIdx rfl (qVar 4) (qVar 12)) (qInt))) (qaCons (qMod (qFdiv (qIdx rfl (qVar 4) (qVar 12)) (qInt)) (qInt)) qaNil)))) (sw_true rfl rfl rfl rfl)) (qFzS 5 (qCons (qSet (i := 6) fxo_none S_law.nd (qmSh (qFz ((qCall k_p_law_rows (hr.mono (by decide)) tk fx.G_p_law_rows fx.F_p_law_rows.kp fx.B0_p_law_rows.2 fx.B0_p_law_rows.1 (fun _ => Reps.nil) (qaCons (qFz ((qCall k_p_law_cell (hr.mono (by decide)) tk fx.G_p_law_cell fx.F_p_law_cell.kp fx.B0_p_law_cell.2 fx.B0_p_law_cell.1 (fun _ => Reps.nil) (qaCons (qVar 0) (qaCons (qInt) qaNil))))) (qaCons (qIf (tEq (m := true) rfl hu (qMod (qIdx rfl (qVar 1) (qInt)) (qInt)) (qInt)) (qInt) (qMod (qIdx rfl (qVar 1) (qInt)) (qInt))) (qaCons (qIdx rfl (qVar 1) (qInt)) qaNil)))))))) (qCons (qIfS (qt_not (qtVal (m := true) (qFz ((qCall k_p_law_honest (hr.mono (by decide)) tk fx.G_p_law_honest fx.F_p_law_honest.kp fx.B0_p_law_honest.2 fx.B0_p_law_honest.1 (fun _ => Reps.nil) (qaCons (qVar 6) qaNil)))))) (qCons (qIfS (qt_not (qtVal (m := true) (qFz ((qCall k_p_law_refused (hr.mono (by decide)) tk fx.G_p_law_refused fx.F_p_law_refused.kp fx.B0_p_law_refused.2 fx.B0_p_law_refused.1 (fun _ => Reps.nil) (qaCons (qVar 2) (qaCons (qVar 3) (qaCons (qVar 5) (qaCons (qVar 6) (qaCons (qStr) qaNil)))))))))) (qLast (qRt (qmSh (qBl)))) (qNil)) (qLast (qSet (i := 6) fxo_none S_law.nd (qmSh (qFz ((qCall k_p_law_rows (hr.mono (by decide)) tk fx.G_p_law_rows fx.F_p_law_rows.kp fx.B0_p_law_rows.2 fx.B0_p_law_rows.1 (fun _ => Reps.nil) (qaCons (qFz ((qCall k_p_law_cell (hr.mono (by decide)) tk fx.G_p_law_cell fx.F_p_law_cell.kp fx.B0_p_law_cell.2 fx.B0_p_law_cell.1 (fun _ => Reps.nil) (qaCons (qVar 0) (qaCons (qInt) qaNil))))) (qaCons (qMod (qIdx rfl (qVar 1) (qInt)) (qInt)) (qaCons (qInt) qaNil)))))))))) (qNil)) (qCons (qSetLc (T := .nm 13) fxo_none rfl S_law.nd (qiSeq rfl (qVar 6)) (own := [("row", 13)]) (blkOk_by rfl) (by decide) fxs_none (lcName (i := 13) fxo_none S_law.nd rfl (fun _ _ => rfl)) (fun _ _ _ _ _ => qtsNil) (fun _ _ _ _ _ => qList rfl fx.gl_list (qaCons (qVar 13) qaNil)) (sw_true rfl rfl rfl rfl)) (qCons (qSet (i := 8) fxo_none S_law.nd (qmSh (qFz ((qMake (c := 4) k_Book_init fx.M_Book (hr.mono (by decide)) tk fx.G_Book fx.B0_Book_init.2 fx.B0_Book_init.1 (fun _ => Reps.nil) (qaCons (qVar 2) (qaCons (qVar 3) (qaCons (qVar 5) (qaCons (qOwn 7) qaNil))))))))) (qCons (qIfS (tNe (m := false) rfl hu (qOwn 7) (qVar 6)) (qLast (qRt (qmSh (qBl)))) (qNil)) (qCons (qIfS (tGt (m := false)  (qLen rfl fx.gl_len (qaCons (qOwn 7) qaNil)) (qInt)) (qLast (qSt (m := true) (qmSh (qInt)) (qpIx (m := true) (qpVar 7) (qInt)) (qInt))) (qNil)) (qCons (qIfS (qt_w (qw_or (tNe (m := true) rfl hu (qFld (ok := ok_kind) rfl fx.FL_kind (qVar 8)) (qVar 2)) (qw_or (qt_not (qtVal (m := true) (qFz ((qCall k_p_law_is (hr.mono (by decide)) tk fx.G_p_law_is fx.F_p_law_is.kp fx.B0_p_law_is.2 fx.B0_p_law_is.1 (fun _ => Reps.nil) (qaCons (qFld (ok := ok_allowance) rfl fx.FL_allowance (qVar 8)) (qaCons (qVar 3) qaNil))))))) (qw_or1 (tNe (m := true) rfl hu (qFld (ok := ok_stages) rfl fx.FL_stages (qVar 8)) (qTuple rfl fx.gl_tuple (qaCons (qVar 5) qaNil))))))) (qLast (qRt (qmSh (qBl)))) (qNil)) (qCons (qIfS (tNe (m := true) rfl hu (qFld (ok := ok_overtime) rfl fx.FL_overtime (qVar 8)) (qTuple rfl fx.gl_tuple (qaCons (qFz ((qLc (T := .nm 13) rfl S_law.nd (qiSeq rfl (qVar 6)) (own := [("row", 13)]) (blkOk_by rfl) (by decide) fxs_none (lcName (i := 13) fxo_none S_law.nd rfl (fun _ _ => rfl)) (fun _ _ _ _ _ => qtsNil) (fun _ _ _ _ _ => qSh (qTuple rfl fx.gl_tuple (qaCons (qVar 13) qaNil)))))) qaNil))) (qLast (qRt (qmSh (qBl)))) (qNil)) (qCons (qFor (T := (.nm 9)) [9, 10] hp rfl (qiSeq rfl (qFz (qLst (qaCons (qMod (qIdx rfl (qVar 1) (qInt)) (qInt)) (qaCons (qMod (qIntB fx.gl_int (qaCons (qAbs fx.gl_abs (qaCons (qFz ((qCall k_p_law_cell (hr.mono (by decide)) tk fx.G_p_law_cell fx.F_p_law_cell.kp fx.B0_p_law_cell.2 fx.B0_p_law_cell.1 (fun _ => Reps.nil) (qaCons (qVar 0) (qaCons (qInt) qaNil))))) qaNil)) qaNil)) (qPow (qInt) (qInt))) qaNil))))) (fun _ => qgName (i := 9) fxo_none S_law.nd) (fun _ => qCons (qSet (i := 10) fxo_none S_law.nd (qmSh (qMod (qIntB fx.gl_int (qaCons (qAbs fx.gl_abs (qaCons (qFz ((qCall k_p_law_cell (hr.mono (by decide)) tk fx.G_p_law_cell fx.F_p_law_cell.kp fx.B0_p_law_cell.2 fx.B0_p_law_cell.1 (fun _ => Reps.nil) (qaCons (qVar 0) (qaCons (qInt) qaNil))))) qaNil)) qaNil)) (qAdd rfl (qVar 9) (qInt))))) (qLast (qIfS (qt_not (qtVal (m := true) (qFz ((qCall k_p_law_pair (hr.mono (by decide)) tk fx.G_p_law_pair fx.F_p_law_pair.kp fx.B0_p_law_pair.2 fx.B0_p_law_pair.1 (fun _ => Reps.nil) (qaCons (qFz ((qMeth (c := 4) k_Book_charge fx.C_Book fx.MT_Book_charge (hr.mono (by decide)) tk fx.B0_Book_charge.2 fx.B0_Book_charge.1 (fun _ => Reps.nil) (qVar 8) (qaCons (qVar 9) (qaCons (qVar 10) qaNil))))) (qaCons (qFz ((qCall k_p_law_charged (hr.mono (by decide)) tk fx.G_p_law_charged fx.F_p_law_charged.kp fx.B0_p_law_charged.2 fx.B0_p_law_charged.1 (fun _ => Reps.nil) (qaCons (qVar 2) (qaCons (qVar 3) (qaCons (qVar 9) (qaCons (qVar 10) qaNil))))))) qaNil))))))) (qLast (qRt (qmSh (qBl)))) (qNil))))) (qCons (qIfS (qt_w (qw_or (qt_not (qtVal (m := true) (qFz ((qCall k_p_law_moves (hr.mono (by decide)) tk fx.G_p_law_moves fx.F_p_law_moves.kp fx.B0_p_law_moves.2 fx.B0_p_law_moves.1 (fun _ => Reps.nil) (qaCons (qVar 8) (qaCons (qVar 5) (qaCons (qLen rfl fx.gl_len (qaCons (qVar 6) qaNil)) qaNil)))))))) (qw_or1 (qt_not (qtVal (m := true) (qFz ((qCall k_p_law_steps (hr.mono (by decide)) tk fx.G_p_law_steps fx.F_p_law_steps.kp fx.B0_p_law_steps.2 fx.B0_p_law_steps.1 (fun _ => Reps.nil) (qaCons (qVar 8) (qaCons (qVar 6) (qaCons (qAdd rfl (qMod (qIntB fx.gl_int (qaCons (qAbs fx.gl_abs (qaCons (qFz ((qCall k_p_law_cell (hr.mono (by decide)) tk fx.G_p_law_cell fx.F_p_law_cell.kp fx.B0_p_law_cell.2 fx.B0_p_law_cell.1 (fun _ => Reps.nil) (qaCons (qVar 0) (qaCons (qInt) qaNil))))) qaNil)) qaNil)) (qSub (qPow (qInt) (qInt)) (qInt))) (qInt)) qaNil))))))))))) (qLast (qRt (qmSh (qBl)))) (qNil)) (qCons (qSet (i := 11) fxo_none S_law.nd (qmSh (qFz ((qMake (c := 4) k_Book_init fx.M_Book (hr.mono (by decide)) tk fx.G_Book fx.B0_Book_init.2 fx.B0_Book_init.1 (fun _ => Reps.nil) (qaCons (qIf (tEq (m := true) rfl hu (qVar 2) (qStr)) (qStr) (qStr)) (qaCons (qVar 3) (qaCons (qVar 5) (qaCons (qVar 6) qaNil))))))))) (qCons (qIfS (qt_w (qw_or (tEqO (m := true) rfl k_Book_eq fx.EO_Book (hr.mono (by decide)) fx.B0_Book_eq.2 (qVar 8) (qVar 11)) (qw_or (qt_not (tEqO (m := true) rfl k_Book_eq fx.EO_Book (hr.mono (by decide)) fx.B0_Book_eq.2 (qVar 8) (qFz ((qMake (c := 4) k_Book_init fx.M_Book (hr.mono (by decide)) tk fx.G_Book fx.B0_Book_init.2 fx.B0_Book_init.1 (fun _ => Reps.nil) (qaCons (qVar 2) (qaCons (qVar 3) (qaCons (qTuple rfl fx.gl_tuple (qaCons (qVar 5) qaNil)) (qaCons (qVar 6) qaNil))))))))) (qw_or1 (tNeO (m := true) rfl k_Book_eq fx.EO_Book (hr.mono (by decide)) fx.B0_Book_eq.2 (qVar 8) (qFz ((qMake (c := 4) k_Book_init fx.M_Book (hr.mono (by decide)) tk fx.G_Book fx.B0_Book_init.2 fx.B0_Book_init.1 (fun _ => Reps.nil) (qaCons (qVar 2) (qaCons (qVar 3) (qaCons (qVar 5) (qaCons (qVar 6) qaNil)))))))))))) (qLast (qRt (qmSh (qBl)))) (qNil)) (qCons (qIfS (tEqO (m := true) rfl k_Book_eq fx.EO_Book (hr.mono (by decide)) fx.B0_Book_eq.2 (qVar 8) (qFz ((qMake (c := 4) k_Book_init fx.M_Book (hr.mono (by decide)) tk fx.G_Book fx.B0_Book_init.2 fx.B0_Book_init.1 (fun _ => Reps.nil) (qaCons (qVar 2) (qaCons (qVar 3) (qaCons (qIf (tLt (m := true)  (qLen rfl fx.gl_len (qaCons (qVar 5) qaNil)) (qInt)) (qAdd rfl (qVar 5) (qFz (qLst (qaCons (qTup (qaCons (qInt) (qaCons (qInt) qaNil))) qaNil)))) (qSl rfl (qVar 5) (qoSome (qInt)) qoNone)) (qaCons (qVar 6) qaNil)))))))) (qLast (qRt (qmSh (qBl)))) (qNil)) (qCons (qIfS (qt_w (qw_or (tNe (m := true) rfl hu (qEqO rfl k_Book_eq fx.EO_Book (hr.mono (by decide)) fx.B0_Book_eq.2 (qVar 8) (qFz ((qMake (c := 4) k_Book_init fx.M_Book (hr.mono (by decide)) tk fx.G_Book fx.B0_Book_init.2 fx.B0_Book_init.1 (fun _ => Reps.nil) (qaCons (qVar 2) (qaCons (qVar 3) (qaCons (qVar 5) (qaCons (qFz (qLst qaNil)) qaNil)))))))) (qEq rfl hu (qLen rfl fx.gl_len (qaCons (qVar 6) qaNil)) (qInt))) (qw_or1 (tEqO (m := true) rfl k_Book_eq fx.EO_Book (hr.mono (by decide)) fx.B0_Book_eq.2 (qVar 8) (qTup (qaCons (qVar 2) (qaCons (qVar 3) qaNil))))))) (qLast (qRt (qmSh (qBl)))) (qNil)) (qLast (qRt (qmSh (qFz ((qCall k_p_law_bounds (hr.mono (by decide)) tk fx.G_p_law_bounds fx.F_p_law_bounds.kp fx.B0_p_law_bounds.2 fx.B0_p_law_bounds.1 (fun _ => Reps.nil) (qaCons (qVar 2) (qaCons (qVar 3) (qaCons (qVar 5) (qaCons (qVar 6) (qaCons (qVar 1) qaNil))))))))))))))))))))))))))))))
end
end K03


/-! The head, as gen.py prints it. -/
namespace K03
open PySem PySem.Spec PyProof.Rows L2 L3 He X4
def d_checked_amount : DefD := ⟨("checked_amount", none), "checked_amount", "checked_amount", defArgs (top 7), defBody (top 7), defScope (top 7), [], []⟩
def d_keeps_good : DefD := ⟨("keeps_good", none), "keeps_good", "keeps_good", defArgs (top 16), defBody (top 16), defScope (top 16), [], []⟩
def d_good_pairs : DefD := ⟨("good_pairs", none), "good_pairs", "good_pairs", defArgs (top 17), defBody (top 17), defScope (top 17), [], []⟩
def d_is_honest : DefD := ⟨("is_honest", none), "is_honest", "is_honest", defArgs (top 18), defBody (top 18), defScope (top 18), [], []⟩
def d_stages_fit : DefD := ⟨("stages_fit", none), "stages_fit", "stages_fit", defArgs (top 19), defBody (top 19), defScope (top 19), [], []⟩
def d_overtime_fits : DefD := ⟨("overtime_fits", none), "overtime_fits", "overtime_fits", defArgs (top 20), defBody (top 20), defScope (top 20), [], []⟩
def d_Book_init : DefD := ⟨("Book", some "__init__"), "__init__", "Book.__init__", defArgs (mth 21 0), defBody (mth 21 0), defScope (mth 21 0), [.adr (dflAt ("Book", some "__init__") 0), .adr (dflAt ("Book", some "__init__") 1)], []⟩
def d_Book_charge : DefD := ⟨("Book", some "charge"), "charge", "Book.charge", defArgs (mth 21 1), defBody (mth 21 1), defScope (mth 21 1), [], []⟩
def d_Book_stage_phase : DefD := ⟨("Book", some "stage_phase"), "stage_phase", "Book.stage_phase", defArgs (mth 21 2), defBody (mth 21 2), defScope (mth 21 2), [], []⟩
def d_Book_opening : DefD := ⟨("Book", some "opening"), "opening", "Book.opening", defArgs (mth 21 3), defBody (mth 21 3), defScope (mth 21 3), [], []⟩
def d_Book_phases : DefD := ⟨("Book", some "phases"), "phases", "Book.phases", defArgs (mth 21 4), defBody (mth 21 4), defScope (mth 21 4), [], []⟩
def d_Book_moved : DefD := ⟨("Book", some "moved"), "moved", "Book.moved", defArgs (mth 21 5), defBody (mth 21 5), defScope (mth 21 5), [], []⟩
def d_Book_overtime_step : DefD := ⟨("Book", some "overtime_step"), "overtime_step", "Book.overtime_step", defArgs (mth 21 6), defBody (mth 21 6), defScope (mth 21 6), [], []⟩
def d_Book_eq : DefD := ⟨("Book", some "__eq__"), "__eq__", "Book.__eq__", defArgs (mth 21 7), defBody (mth 21 7), defScope (mth 21 7), [], []⟩
def d_p_law_cell : DefD := ⟨("_law_cell", none), "_law_cell", "_law_cell", defArgs (top 23), defBody (top 23), defScope (top 23), [], []⟩
def d_p_law_numbers : DefD := ⟨("_law_numbers", none), "_law_numbers", "_law_numbers", defArgs (top 24), defBody (top 24), defScope (top 24), [], []⟩
def d_p_law_is : DefD := ⟨("_law_is", none), "_law_is", "_law_is", defArgs (top 25), defBody (top 25), defScope (top 25), [], []⟩
def d_p_law_pair : DefD := ⟨("_law_pair", none), "_law_pair", "_law_pair", defArgs (top 26), defBody (top 26), defScope (top 26), [], []⟩
def d_p_law_rows : DefD := ⟨("_law_rows", none), "_law_rows", "_law_rows", defArgs (top 27), defBody (top 27), defScope (top 27), [], []⟩
def d_p_law_honest : DefD := ⟨("_law_honest", none), "_law_honest", "_law_honest", defArgs (top 28), defBody (top 28), defScope (top 28), [], []⟩
def d_p_law_charged : DefD := ⟨("_law_charged", none), "_law_charged", "_law_charged", defArgs (top 29), defBody (top 29), defScope (top 29), [], []⟩
def d_p_law_phases : DefD := ⟨("_law_phases", none), "_law_phases", "_law_phases", defArgs (top 30), defBody (top 30), defScope (top 30), [], []⟩
def d_p_law_no_phase : DefD := ⟨("_law_no_phase", none), "_law_no_phase", "_law_no_phase", defArgs (top 31), defBody (top 31), defScope (top 31), [], []⟩
def d_p_law_moves : DefD := ⟨("_law_moves", none), "_law_moves", "_law_moves", defArgs (top 32), defBody (top 32), defScope (top 32), [], []⟩
def d_p_law_no_state : DefD := ⟨("_law_no_state", none), "_law_no_state", "_law_no_state", defArgs (top 33), defBody (top 33), defScope (top 33), [], []⟩
def d_p_law_steps : DefD := ⟨("_law_steps", none), "_law_steps", "_law_steps", defArgs (top 34), defBody (top 34), defScope (top 34), [], []⟩
def d_p_law_refused : DefD := ⟨("_law_refused", none), "_law_refused", "_law_refused", defArgs (top 35), defBody (top 35), defScope (top 35), [], []⟩
def d_p_law_bounds : DefD := ⟨("_law_bounds", none), "_law_bounds", "_law_bounds", defArgs (top 36), defBody (top 36), defScope (top 36), [], []⟩
def d_law : DefD := ⟨("law", none), "law", "law", defArgs (top 37), defBody (top 37), defScope (top 37), [], []⟩
def fn0 : List DefD := [d_checked_amount, d_keeps_good, d_good_pairs, d_is_honest, d_stages_fit, d_overtime_fits, d_Book_init, d_Book_charge, d_Book_stage_phase, d_Book_opening, d_Book_phases, d_Book_moved, d_Book_overtime_step, d_Book_eq, d_p_law_cell, d_p_law_numbers, d_p_law_is, d_p_law_pair, d_p_law_rows, d_p_law_honest, d_p_law_charged, d_p_law_phases, d_p_law_no_phase, d_p_law_moves, d_p_law_no_state, d_p_law_steps, d_p_law_refused, d_p_law_bounds, d_law]
def fn : List DefD := fn0
def x_BadAmount : SupD := ⟨"BadAmount", "amount", "BadAmount.__init__", defArgs (mth 2 0), defBody (mth 2 0), defScope (mth 2 0)⟩
def x_BadBook : SupD := ⟨"BadBook", "part", "BadBook.__init__", defArgs (mth 3 0), defBody (mth 3 0), defScope (mth 3 0)⟩
def x_NoPhase : SupD := ⟨"NoPhase", "phase", "NoPhase.__init__", defArgs (mth 4 0), defBody (mth 4 0), defScope (mth 4 0)⟩
def sx : List SupD := [x_BadAmount, x_BadBook, x_NoPhase]
def mfl : Str := "/claim/cut.py"
def isC (x : Str) : Ck := fun K => iscB K x
def fs0 : List Ck := [fa (.int "MOST" 1000000000000000000000000000000), fa (.glo "BOOK_KINDS"), fa (.int "MOST_ALLOWANCE" 9), fa (.int "MOST_STAGES" 3), fa (.int "MOST_STAGE_MOVES" 6), fa (.int "MOST_GAIN" 60), fa (.int "MOST_STATES" 12), fa (.int "TIMES" 10), fa (.free "len"), fa (.free "abs"), fa (.free "int"), fa (.free "max"), fa (.free "min"), fa (.free "sum"), fa (.free "all"), fa (.free "any"), fa (.free "tuple"), fa (.free "list"), fa (.free "range"), fa (.free "isinstance"), fa (.free "str"), fa (.free "bool"), fa (.free "sorted"), fa (.glo "checked_amount"), fa (.glo "keeps_good"), fa (.glo "good_pairs"), fa (.glo "is_honest"), fa (.glo "stages_fit"), fa (.glo "overtime_fits"), fa (.meth "Book" "charge")]
def fs1 : List Ck := [fa (.meth "Book" "stage_phase"), fa (.meth "Book" "opening"), fa (.meth "Book" "phases"), fa (.meth "Book" "moved"), fa (.meth "Book" "overtime_step"), fa (.meth "Book" "__eq__"), fa (.glo "_law_cell"), fa (.glo "_law_numbers"), fa (.glo "_law_is"), fa (.glo "_law_pair"), fa (.glo "_law_rows"), fa (.glo "_law_honest"), fa (.glo "_law_charged"), fa (.glo "_law_phases"), fa (.glo "_law_no_phase"), fa (.glo "_law_moves"), fa (.glo "_law_no_state"), fa (.glo "_law_steps"), fa (.glo "_law_refused"), fa (.glo "_law_bounds"), fa (.glo "law"), fa (.glo "Fault"), fa (.glo "BadAmount"), supB mfl x_BadAmount, fa (.keep "BadAmount"), raisB "BadAmount", fa (.glo "BadBook"), supB mfl x_BadBook, fa (.keep "BadBook"), raisB "BadBook"]
def fs2 : List Ck := [fa (.glo "NoPhase"), supB mfl x_NoPhase, fa (.keep "NoPhase"), raisB "NoPhase", fa (.glo "Book"), fa (.cls "Book"), fa (.mkr "Book"), eqcB "Book", fa (.noat "Book" "allowance"), fa (.noat "Book" "kind"), fa (.noat "Book" "overtime"), fa (.noat "Book" "stages"), xfCk "BadAmount", fa (.noat "BadAmount" "amount"), xfCk "BadBook", fa (.noat "BadBook" "part"), xfCk "NoPhase", fa (.noat "NoPhase" "phase"), exmB "Fault" "BadAmount" false, exmB "BadAmount" "BadAmount" true, exmB "BadBook" "BadAmount" false, exmB "NoPhase" "BadAmount" false, exmB "Fault" "BadBook" false, exmB "BadAmount" "BadBook" false, exmB "BadBook" "BadBook" true, exmB "NoPhase" "BadBook" false, exmB "Fault" "NoPhase" false, exmB "BadAmount" "NoPhase" false, exmB "BadBook" "NoPhase" false, exmB "NoPhase" "NoPhase" true]
def fs3 : List Ck := [exiC "Fault", kitRR "Fault" "BadAmount" false, exiC "BadAmount", kitRR "BadAmount" "BadAmount" true, exiC "BadBook", kitRR "BadBook" "BadAmount" false, exiC "NoPhase", kitRR "NoPhase" "BadAmount" false, kitRR "Fault" "BadBook" false, kitRR "BadAmount" "BadBook" false, kitRR "BadBook" "BadBook" true, kitRR "NoPhase" "BadBook" false, kitRR "Fault" "Fault" true, kitRR "BadAmount" "Fault" true, kitRR "BadBook" "Fault" true, kitRR "NoPhase" "Fault" true, kitRR "Fault" "NoPhase" false, kitRR "BadAmount" "NoPhase" false, kitRR "BadBook" "NoPhase" false, kitRR "NoPhase" "NoPhase" true, isC "Book", kitRR "Book" "Book" true, kitTR "tuple" "Book" false, kitTR "int" "Book" false, kitTR "list" "Book" false, kitTR "str" "Book" false, kitTR "NoneType" "Book" false, kitTR "bool" "Book" false, tupC "BOOK_KINDS" [.str "plain", .str "delay", .str "bonus"]]
def fs : List Ck := fs0 ++ (fs1 ++ (fs2 ++ (fs3)))
abbrev Rw : PySem.W.OpenRow := PySem.W.OpenLaw.row PySem.Challenge.rw_flagfalls_k03_books
abbrev hk : PySem.W.Hook := hookX 5 fs fn sx
def ob (s : PySem.W.SharedT) : AlX := obsXG 5 fs fn sx (HandSHeadRun.getT s)
theorem ob_eq (s : PySem.W.SharedT) : ob s = hk.obs s.abs := obsXG_eq (HandSHeadRun.getT_eq s)
def names : List PySem.Str := (PySem.Challenge.pw_flagfalls_k03_books.main.scope.names.map (·.1)).filter (fun x => !(x == "law") && !(x == "__name__"))
theorem run (w : World) : HandSHeadRun.RunEq Rw (PySem.W.view Rw.prog [37]) hk ob 6000 names w := by
  intro os
  kernel_rfl
set_option maxHeartbeats 0 in
theorem facts {P : Program} {K : PySem.W.Frag} {h : Heap} {mg : Str → Option Value} {f : Addr} (hmf : P.main.file = mfl) (htop : (P.main.scope.names.lookup ("super" : Str)).isSome = false) (X : K.In h) (G : h.Ns mainGlobals mg) (hfa : mg ("law" : Str) = some (.ref f)) (c : SaysX fs fn sx K) :
    ∃ (Γ : Gc) (ad : Nat → Addr) (fd : Nat → FuncData) (dv : Nat → List V) (cv : Nat → V) (cu : Nat → Value) (fI : Nat → Addr), Γ.K = K ∧ ad 28 = f ∧ (∀ (s : Shared) (u : Value), BindsTo s (fd 28) ⟨[u], []⟩ [(("script" : Str), u)]) ∧ Fx P Γ mg ad fd dv cv cu fI := by
  obtain ⟨fd, hfd⟩ := c.defs (by decide)
  obtain ⟨t0, g0⟩ := int_ok X G (c.fact 0 (f := fa (.int "MOST" 1000000000000000000000000000000)))
  have g1 := (glo_ok X G (c.fact 1 (f := fa (.glo "BOOK_KINDS"))))
  obtain ⟨t2, g2⟩ := int_ok X G (c.fact 2 (f := fa (.int "MOST_ALLOWANCE" 9)))
  obtain ⟨t3, g3⟩ := int_ok X G (c.fact 3 (f := fa (.int "MOST_STAGES" 3)))
  obtain ⟨t4, g4⟩ := int_ok X G (c.fact 4 (f := fa (.int "MOST_STAGE_MOVES" 6)))
  obtain ⟨t5, g5⟩ := int_ok X G (c.fact 5 (f := fa (.int "MOST_GAIN" 60)))
  obtain ⟨t6, g6⟩ := int_ok X G (c.fact 6 (f := fa (.int "MOST_STATES" 12)))
  obtain ⟨t7, g7⟩ := int_ok X G (c.fact 7 (f := fa (.int "TIMES" 10)))
  refine ⟨⟨K, fun i => match i with | 0 => ga K "Fault" | 1 => ga K "BadAmount" | 2 => ga K "BadBook" | 3 => ga K "NoPhase" | 4 => ga K "Book" | _ => 0⟩, fun i => match i with | 0 => fAd K d_checked_amount.at_ | 1 => fAd K d_keeps_good.at_ | 2 => fAd K d_good_pairs.at_ | 3 => fAd K d_is_honest.at_ | 4 => fAd K d_stages_fit.at_ | 5 => fAd K d_overtime_fits.at_ | 6 => fAd K d_Book_init.at_ | 7 => fAd K d_Book_charge.at_ | 8 => fAd K d_Book_stage_phase.at_ | 9 => fAd K d_Book_opening.at_ | 10 => fAd K d_Book_phases.at_ | 11 => fAd K d_Book_moved.at_ | 12 => fAd K d_Book_overtime_step.at_ | 13 => fAd K d_Book_eq.at_ | 14 => fAd K d_p_law_cell.at_ | 15 => fAd K d_p_law_numbers.at_ | 16 => fAd K d_p_law_is.at_ | 17 => fAd K d_p_law_pair.at_ | 18 => fAd K d_p_law_rows.at_ | 19 => fAd K d_p_law_honest.at_ | 20 => fAd K d_p_law_charged.at_ | 21 => fAd K d_p_law_phases.at_ | 22 => fAd K d_p_law_no_phase.at_ | 23 => fAd K d_p_law_moves.at_ | 24 => fAd K d_p_law_no_state.at_ | 25 => fAd K d_p_law_steps.at_ | 26 => fAd K d_p_law_refused.at_ | 27 => fAd K d_p_law_bounds.at_ | 28 => fAd K d_law.at_ | _ => 0, fd, fun i => match i with | 0 => d_checked_amount.dvs K | 1 => d_keeps_good.dvs K | 2 => d_good_pairs.dvs K | 3 => d_is_honest.dvs K | 4 => d_stages_fit.dvs K | 5 => d_overtime_fits.dvs K | 6 => d_Book_init.dvs K | 7 => d_Book_charge.dvs K | 8 => d_Book_stage_phase.dvs K | 9 => d_Book_opening.dvs K | 10 => d_Book_phases.dvs K | 11 => d_Book_moved.dvs K | 12 => d_Book_overtime_step.dvs K | 13 => d_Book_eq.dvs K | 14 => d_p_law_cell.dvs K | 15 => d_p_law_numbers.dvs K | 16 => d_p_law_is.dvs K | 17 => d_p_law_pair.dvs K | 18 => d_p_law_rows.dvs K | 19 => d_p_law_honest.dvs K | 20 => d_p_law_charged.dvs K | 21 => d_p_law_phases.dvs K | 22 => d_p_law_no_phase.dvs K | 23 => d_p_law_moves.dvs K | 24 => d_p_law_no_state.dvs K | 25 => d_p_law_steps.dvs K | 26 => d_p_law_refused.dvs K | 27 => d_p_law_bounds.dvs K | 28 => d_law.dvs K | _ => [], fun i => match i with | 0 => .int 1000000000000000000000000000000 | 1 => .ref (ga K "BOOK_KINDS") | 2 => .int 9 | 3 => .int 3 | 4 => .int 6 | 5 => .int 60 | 6 => .int 12 | 7 => .int 10 | _ => .non, fun i => match i with | 0 => .int 1000000000000000000000000000000 t0 | 1 => .ref (ga K "BOOK_KINDS") | 2 => .int 9 t2 | 3 => .int 3 t3 | 4 => .int 6 t4 | 5 => .int 60 t5 | 6 => .int 12 t6 | 7 => .int 10 t7 | _ => .none, fun i => match i with | 1 => ma K (ga K "BadAmount") "__init__" | 2 => ma K (ga K "BadBook") "__init__" | 3 => ma K (ga K "NoPhase") "__init__" | _ => 0, rfl, ?_, fun s u => FunD.bindsA (ps := ["script"]) (hfd 28 d_law rfl) (fun _ _ _ _ _ _ us hl => match us, hl with | [_], _ => rfl) s [u] rfl, ?_⟩
  · have e := hfa.symm.trans (glo_ok X G (c.fact 50 (f := fa (.glo "law"))))
    cases e
    rfl
  constructor
  case gl_len =>
    exact free_ok X G (c.fact 8 (f := fa (.free "len")))
  case gl_abs =>
    exact free_ok X G (c.fact 9 (f := fa (.free "abs")))
  case gl_int =>
    exact free_ok X G (c.fact 10 (f := fa (.free "int")))
  case gl_max =>
    exact free_ok X G (c.fact 11 (f := fa (.free "max")))
  case gl_min =>
    exact free_ok X G (c.fact 12 (f := fa (.free "min")))
  case gl_sum =>
    exact free_ok X G (c.fact 13 (f := fa (.free "sum")))
  case gl_all =>
    exact free_ok X G (c.fact 14 (f := fa (.free "all")))
  case gl_any =>
    exact free_ok X G (c.fact 15 (f := fa (.free "any")))
  case gl_tuple =>
    exact free_ok X G (c.fact 16 (f := fa (.free "tuple")))
  case gl_list =>
    exact free_ok X G (c.fact 17 (f := fa (.free "list")))
  case gl_range =>
    exact free_ok X G (c.fact 18 (f := fa (.free "range")))
  case gl_isinstance =>
    exact free_ok X G (c.fact 19 (f := fa (.free "isinstance")))
  case gl_str =>
    exact free_ok X G (c.fact 20 (f := fa (.free "str")))
  case gl_bool =>
    exact free_ok X G (c.fact 21 (f := fa (.free "bool")))
  case gl_sorted =>
    exact free_ok X G (c.fact 22 (f := fa (.free "sorted")))
  case F_checked_amount =>
    exact hfd 0 d_checked_amount rfl
  case B0_checked_amount =>
    exact ⟨.nil, FunD.bindsN (hfd 0 d_checked_amount rfl) fun _ _ _ _ _ _ us hl => match us, hl with | [_], _ => rfl⟩
  case G_checked_amount =>
    exact (glo_ok X G (c.fact 23 (f := fa (.glo "checked_amount"))))
  case F_keeps_good =>
    exact hfd 1 d_keeps_good rfl
  case B0_keeps_good =>
    exact ⟨.nil, FunD.bindsN (hfd 1 d_keeps_good rfl) fun _ _ _ _ _ _ us hl => match us, hl with | [_, _, _], _ => rfl⟩
  case G_keeps_good =>
    exact (glo_ok X G (c.fact 24 (f := fa (.glo "keeps_good"))))
  case F_good_pairs =>
    exact hfd 2 d_good_pairs rfl
  case B0_good_pairs =>
    exact ⟨.nil, FunD.bindsN (hfd 2 d_good_pairs rfl) fun _ _ _ _ _ _ us hl => match us, hl with | [_], _ => rfl⟩
  case G_good_pairs =>
    exact (glo_ok X G (c.fact 25 (f := fa (.glo "good_pairs"))))
  case F_is_honest =>
    exact hfd 3 d_is_honest rfl
  case B0_is_honest =>
    exact ⟨.nil, FunD.bindsN (hfd 3 d_is_honest rfl) fun _ _ _ _ _ _ us hl => match us, hl with | [_], _ => rfl⟩
  case G_is_honest =>
    exact (glo_ok X G (c.fact 26 (f := fa (.glo "is_honest"))))
  case F_stages_fit =>
    exact hfd 4 d_stages_fit rfl
  case B0_stages_fit =>
    exact ⟨.nil, FunD.bindsN (hfd 4 d_stages_fit rfl) fun _ _ _ _ _ _ us hl => match us, hl with | [_], _ => rfl⟩
  case G_stages_fit =>
    exact (glo_ok X G (c.fact 27 (f := fa (.glo "stages_fit"))))
  case F_overtime_fits =>
    exact hfd 5 d_overtime_fits rfl
  case B0_overtime_fits =>
    exact ⟨.nil, FunD.bindsN (hfd 5 d_overtime_fits rfl) fun _ _ _ _ _ _ us hl => match us, hl with | [_], _ => rfl⟩
  case G_overtime_fits =>
    exact (glo_ok X G (c.fact 28 (f := fa (.glo "overtime_fits"))))
  case F_Book_init =>
    exact hfd 6 d_Book_init rfl
  case B0_Book_init =>
    exact binds_all (hfd 6 d_Book_init rfl) (by intro z; cases z) fun _ _ _ _ _ _ _ us its hu hi => match us, its, hu, hi with | [_, _, _, _, _], [_, _], _, _ => ⟨_, rfl, rfl⟩
  case F_Book_charge =>
    exact hfd 7 d_Book_charge rfl
  case B0_Book_charge =>
    exact ⟨.nil, FunD.bindsN (hfd 7 d_Book_charge rfl) fun _ _ _ _ _ _ us hl => match us, hl with | [_, _, _], _ => rfl⟩
  case MT_Book_charge =>
    exact meth_ok (c.fact 29 (f := fa (.meth "Book" "charge")))
  case F_Book_stage_phase =>
    exact hfd 8 d_Book_stage_phase rfl
  case B0_Book_stage_phase =>
    exact ⟨.nil, FunD.bindsN (hfd 8 d_Book_stage_phase rfl) fun _ _ _ _ _ _ us hl => match us, hl with | [_, _], _ => rfl⟩
  case MT_Book_stage_phase =>
    exact meth_ok (c.fact 30 (f := fa (.meth "Book" "stage_phase")))
  case F_Book_opening =>
    exact hfd 9 d_Book_opening rfl
  case B0_Book_opening =>
    exact ⟨.nil, FunD.bindsN (hfd 9 d_Book_opening rfl) fun _ _ _ _ _ _ us hl => match us, hl with | [_], _ => rfl⟩
  case MT_Book_opening =>
    exact meth_ok (c.fact 31 (f := fa (.meth "Book" "opening")))
  case F_Book_phases =>
    exact hfd 10 d_Book_phases rfl
  case B0_Book_phases =>
    exact ⟨.nil, FunD.bindsN (hfd 10 d_Book_phases rfl) fun _ _ _ _ _ _ us hl => match us, hl with | [_], _ => rfl⟩
  case MT_Book_phases =>
    exact meth_ok (c.fact 32 (f := fa (.meth "Book" "phases")))
  case F_Book_moved =>
    exact hfd 11 d_Book_moved rfl
  case B0_Book_moved =>
    exact ⟨.nil, FunD.bindsN (hfd 11 d_Book_moved rfl) fun _ _ _ _ _ _ us hl => match us, hl with | [_, _], _ => rfl⟩
  case MT_Book_moved =>
    exact meth_ok (c.fact 33 (f := fa (.meth "Book" "moved")))
  case F_Book_overtime_step =>
    exact hfd 12 d_Book_overtime_step rfl
  case B0_Book_overtime_step =>
    exact ⟨.nil, FunD.bindsN (hfd 12 d_Book_overtime_step rfl) fun _ _ _ _ _ _ us hl => match us, hl with | [_, _, _], _ => rfl⟩
  case MT_Book_overtime_step =>
    exact meth_ok (c.fact 34 (f := fa (.meth "Book" "overtime_step")))
  case F_Book_eq =>
    exact hfd 13 d_Book_eq rfl
  case B0_Book_eq =>
    exact ⟨.nil, FunD.bindsN (hfd 13 d_Book_eq rfl) fun _ _ _ _ _ _ us hl => match us, hl with | [_, _], _ => rfl⟩
  case MT_Book_eq =>
    exact meth_ok (c.fact 35 (f := fa (.meth "Book" "__eq__")))
  case F_p_law_cell =>
    exact hfd 14 d_p_law_cell rfl
  case B0_p_law_cell =>
    exact ⟨.nil, FunD.bindsN (hfd 14 d_p_law_cell rfl) fun _ _ _ _ _ _ us hl => match us, hl with | [_, _], _ => rfl⟩
  case G_p_law_cell =>
    exact (glo_ok X G (c.fact 36 (f := fa (.glo "_law_cell"))))
  case F_p_law_numbers =>
    exact hfd 15 d_p_law_numbers rfl
  case B0_p_law_numbers =>
    exact ⟨.nil, FunD.bindsN (hfd 15 d_p_law_numbers rfl) fun _ _ _ _ _ _ us hl => match us, hl with | [_, _, _, _], _ => rfl⟩
  case G_p_law_numbers =>
    exact (glo_ok X G (c.fact 37 (f := fa (.glo "_law_numbers"))))
  case F_p_law_is =>
    exact hfd 16 d_p_law_is rfl
  case B0_p_law_is =>
    exact ⟨.nil, FunD.bindsN (hfd 16 d_p_law_is rfl) fun _ _ _ _ _ _ us hl => match us, hl with | [_, _], _ => rfl⟩
  case G_p_law_is =>
    exact (glo_ok X G (c.fact 38 (f := fa (.glo "_law_is"))))
  case F_p_law_pair =>
    exact hfd 17 d_p_law_pair rfl
  case B0_p_law_pair =>
    exact ⟨.nil, FunD.bindsN (hfd 17 d_p_law_pair rfl) fun _ _ _ _ _ _ us hl => match us, hl with | [_, _], _ => rfl⟩
  case G_p_law_pair =>
    exact (glo_ok X G (c.fact 39 (f := fa (.glo "_law_pair"))))
  case F_p_law_rows =>
    exact hfd 18 d_p_law_rows rfl
  case B0_p_law_rows =>
    exact ⟨.nil, FunD.bindsN (hfd 18 d_p_law_rows rfl) fun _ _ _ _ _ _ us hl => match us, hl with | [_, _, _], _ => rfl⟩
  case G_p_law_rows =>
    exact (glo_ok X G (c.fact 40 (f := fa (.glo "_law_rows"))))
  case F_p_law_honest =>
    exact hfd 19 d_p_law_honest rfl
  case B0_p_law_honest =>
    exact ⟨.nil, FunD.bindsN (hfd 19 d_p_law_honest rfl) fun _ _ _ _ _ _ us hl => match us, hl with | [_], _ => rfl⟩
  case G_p_law_honest =>
    exact (glo_ok X G (c.fact 41 (f := fa (.glo "_law_honest"))))
  case F_p_law_charged =>
    exact hfd 20 d_p_law_charged rfl
  case B0_p_law_charged =>
    exact ⟨.nil, FunD.bindsN (hfd 20 d_p_law_charged rfl) fun _ _ _ _ _ _ us hl => match us, hl with | [_, _, _, _], _ => rfl⟩
  case G_p_law_charged =>
    exact (glo_ok X G (c.fact 42 (f := fa (.glo "_law_charged"))))
  case F_p_law_phases =>
    exact hfd 21 d_p_law_phases rfl
  case B0_p_law_phases =>
    exact ⟨.nil, FunD.bindsN (hfd 21 d_p_law_phases rfl) fun _ _ _ _ _ _ us hl => match us, hl with | [_, _], _ => rfl⟩
  case G_p_law_phases =>
    exact (glo_ok X G (c.fact 43 (f := fa (.glo "_law_phases"))))
  case F_p_law_no_phase =>
    exact hfd 22 d_p_law_no_phase rfl
  case B0_p_law_no_phase =>
    exact ⟨.nil, FunD.bindsN (hfd 22 d_p_law_no_phase rfl) fun _ _ _ _ _ _ us hl => match us, hl with | [_, _], _ => rfl⟩
  case G_p_law_no_phase =>
    exact (glo_ok X G (c.fact 44 (f := fa (.glo "_law_no_phase"))))
  case F_p_law_moves =>
    exact hfd 23 d_p_law_moves rfl
  case B0_p_law_moves =>
    exact ⟨.nil, FunD.bindsN (hfd 23 d_p_law_moves rfl) fun _ _ _ _ _ _ us hl => match us, hl with | [_, _, _], _ => rfl⟩
  case G_p_law_moves =>
    exact (glo_ok X G (c.fact 45 (f := fa (.glo "_law_moves"))))
  case F_p_law_no_state =>
    exact hfd 24 d_p_law_no_state rfl
  case B0_p_law_no_state =>
    exact ⟨.nil, FunD.bindsN (hfd 24 d_p_law_no_state rfl) fun _ _ _ _ _ _ us hl => match us, hl with | [_, _], _ => rfl⟩
  case G_p_law_no_state =>
    exact (glo_ok X G (c.fact 46 (f := fa (.glo "_law_no_state"))))
  case F_p_law_steps =>
    exact hfd 25 d_p_law_steps rfl
  case B0_p_law_steps =>
    exact ⟨.nil, FunD.bindsN (hfd 25 d_p_law_steps rfl) fun _ _ _ _ _ _ us hl => match us, hl with | [_, _, _], _ => rfl⟩
  case G_p_law_steps =>
    exact (glo_ok X G (c.fact 47 (f := fa (.glo "_law_steps"))))
  case F_p_law_refused =>
    exact hfd 26 d_p_law_refused rfl
  case B0_p_law_refused =>
    exact ⟨.nil, FunD.bindsN (hfd 26 d_p_law_refused rfl) fun _ _ _ _ _ _ us hl => match us, hl with | [_, _, _, _, _], _ => rfl⟩
  case G_p_law_refused =>
    exact (glo_ok X G (c.fact 48 (f := fa (.glo "_law_refused"))))
  case F_p_law_bounds =>
    exact hfd 27 d_p_law_bounds rfl
  case B0_p_law_bounds =>
    exact ⟨.nil, FunD.bindsN (hfd 27 d_p_law_bounds rfl) fun _ _ _ _ _ _ us hl => match us, hl with | [_, _, _, _, _], _ => rfl⟩
  case G_p_law_bounds =>
    exact (glo_ok X G (c.fact 49 (f := fa (.glo "_law_bounds"))))
  case F_law =>
    exact hfd 28 d_law rfl
  case B0_law =>
    exact ⟨.nil, FunD.bindsN (hfd 28 d_law rfl) fun _ _ _ _ _ _ us hl => match us, hl with | [_], _ => rfl⟩
  case G_law =>
    exact (glo_ok X G (c.fact 50 (f := fa (.glo "law"))))
  case G_Fault =>
    exact (glo_ok X G (c.fact 51 (f := fa (.glo "Fault"))))
  case G_BadAmount =>
    exact (glo_ok X G (c.fact 52 (f := fa (.glo "BadAmount"))))
  case SU_BadAmount =>
    exact sup_ok (d := x_BadAmount) (c.sup 0 (d := x_BadAmount)) (c.fact 53 (f := supB mfl x_BadAmount)) rfl rfl rfl hmf htop ⟨by decide, by decide, by decide, by decide⟩ (fun _ _ _ _ _ _ _ _ _ _ _ _ => rfl) (fun _ => ⟨_, rfl⟩)
  case KP_BadAmount =>
    exact keep_ok (c.fact 54 (f := fa (.keep "BadAmount")))
  case RS_BadAmount =>
    exact fun Y e => by
      subst e
      exact rais_ok (c.fact 55 (f := raisB "BadAmount"))
  case G_BadBook =>
    exact (glo_ok X G (c.fact 56 (f := fa (.glo "BadBook"))))
  case SU_BadBook =>
    exact sup_ok (d := x_BadBook) (c.sup 1 (d := x_BadBook)) (c.fact 57 (f := supB mfl x_BadBook)) rfl rfl rfl hmf htop ⟨by decide, by decide, by decide, by decide⟩ (fun _ _ _ _ _ _ _ _ _ _ _ _ => rfl) (fun _ => ⟨_, rfl⟩)
  case KP_BadBook =>
    exact keep_ok (c.fact 58 (f := fa (.keep "BadBook")))
  case RS_BadBook =>
    exact fun Y e => by
      subst e
      exact rais_ok (c.fact 59 (f := raisB "BadBook"))
  case G_NoPhase =>
    exact (glo_ok X G (c.fact 60 (f := fa (.glo "NoPhase"))))
  case SU_NoPhase =>
    exact sup_ok (d := x_NoPhase) (c.sup 2 (d := x_NoPhase)) (c.fact 61 (f := supB mfl x_NoPhase)) rfl rfl rfl hmf htop ⟨by decide, by decide, by decide, by decide⟩ (fun _ _ _ _ _ _ _ _ _ _ _ _ => rfl) (fun _ => ⟨_, rfl⟩)
  case KP_NoPhase =>
    exact keep_ok (c.fact 62 (f := fa (.keep "NoPhase")))
  case RS_NoPhase =>
    exact fun Y e => by
      subst e
      exact rais_ok (c.fact 63 (f := raisB "NoPhase"))
  case G_Book =>
    exact (glo_ok X G (c.fact 64 (f := fa (.glo "Book"))))
  case C_Book =>
    exact cls_ok (c.fact 65 (f := fa (.cls "Book")))
  case M_Book =>
    exact mkr_ok (c.fact 66 (f := fa (.mkr "Book")))
  case EO_Book =>
    exact eqc_ok (c.fact 67 (f := eqcB "Book"))
  case FL_allowance =>
    exact by
      intro c h
      simp only [ok_allowance, Bool.or_eq_true, beq_iff_eq] at h
      have e := h
      · subst e; exact ⟨cls_ok (c.fact 65 (f := fa (.cls "Book"))), noat_ok (c.fact 68 (f := fa (.noat "Book" "allowance")))⟩
  case FL_kind =>
    exact by
      intro c h
      simp only [ok_kind, Bool.or_eq_true, beq_iff_eq] at h
      have e := h
      · subst e; exact ⟨cls_ok (c.fact 65 (f := fa (.cls "Book"))), noat_ok (c.fact 69 (f := fa (.noat "Book" "kind")))⟩
  case FL_overtime =>
    exact by
      intro c h
      simp only [ok_overtime, Bool.or_eq_true, beq_iff_eq] at h
      have e := h
      · subst e; exact ⟨cls_ok (c.fact 65 (f := fa (.cls "Book"))), noat_ok (c.fact 70 (f := fa (.noat "Book" "overtime")))⟩
  case FL_stages =>
    exact by
      intro c h
      simp only [ok_stages, Bool.or_eq_true, beq_iff_eq] at h
      have e := h
      · subst e; exact ⟨cls_ok (c.fact 65 (f := fa (.cls "Book"))), noat_ok (c.fact 71 (f := fa (.noat "Book" "stages")))⟩
  case XF_amount =>
    exact by
      intro c h
      simp only [okx_amount, Bool.or_eq_true, beq_iff_eq] at h
      have e := h
      · subst e; exact ⟨xfc_ok (c.fact 72 (f := xfCk "BadAmount")), noat_ok (c.fact 73 (f := fa (.noat "BadAmount" "amount")))⟩
  case XF_part =>
    exact by
      intro c h
      simp only [okx_part, Bool.or_eq_true, beq_iff_eq] at h
      have e := h
      · subst e; exact ⟨xfc_ok (c.fact 74 (f := xfCk "BadBook")), noat_ok (c.fact 75 (f := fa (.noat "BadBook" "part")))⟩
  case XF_phase =>
    exact by
      intro c h
      simp only [okx_phase, Bool.or_eq_true, beq_iff_eq] at h
      have e := h
      · subst e; exact ⟨xfc_ok (c.fact 76 (f := xfCk "NoPhase")), noat_ok (c.fact 77 (f := fa (.noat "NoPhase" "phase")))⟩
  case MTX_BadAmount =>
    exact by
      intro c b h
      unfold mt_BadAmount at h
      by_cases e : c = 0
      · subst e; cases h; exact exmB_ok (c.fact 78 (f := exmB "Fault" "BadAmount" false))
      rw [if_neg e] at h; clear e
      by_cases e : c = 1
      · subst e; cases h; exact exmB_ok (c.fact 79 (f := exmB "BadAmount" "BadAmount" true))
      rw [if_neg e] at h; clear e
      by_cases e : c = 2
      · subst e; cases h; exact exmB_ok (c.fact 80 (f := exmB "BadBook" "BadAmount" false))
      rw [if_neg e] at h; clear e
      by_cases e : c = 3
      · subst e; cases h; exact exmB_ok (c.fact 81 (f := exmB "NoPhase" "BadAmount" false))
      rw [if_neg e] at h; clear e
      cases h
  case MTX_BadBook =>
    exact by
      intro c b h
      unfold mt_BadBook at h
      by_cases e : c = 0
      · subst e; cases h; exact exmB_ok (c.fact 82 (f := exmB "Fault" "BadBook" false))
      rw [if_neg e] at h; clear e
      by_cases e : c = 1
      · subst e; cases h; exact exmB_ok (c.fact 83 (f := exmB "BadAmount" "BadBook" false))
      rw [if_neg e] at h; clear e
      by_cases e : c = 2
      · subst e; cases h; exact exmB_ok (c.fact 84 (f := exmB "BadBook" "BadBook" true))
      rw [if_neg e] at h; clear e
      by_cases e : c = 3
      · subst e; cases h; exact exmB_ok (c.fact 85 (f := exmB "NoPhase" "BadBook" false))
      rw [if_neg e] at h; clear e
      cases h
  case MTX_NoPhase =>
    exact by
      intro c b h
      unfold mt_NoPhase at h
      by_cases e : c = 0
      · subst e; cases h; exact exmB_ok (c.fact 86 (f := exmB "Fault" "NoPhase" false))
      rw [if_neg e] at h; clear e
      by_cases e : c = 1
      · subst e; cases h; exact exmB_ok (c.fact 87 (f := exmB "BadAmount" "NoPhase" false))
      rw [if_neg e] at h; clear e
      by_cases e : c = 2
      · subst e; cases h; exact exmB_ok (c.fact 88 (f := exmB "BadBook" "NoPhase" false))
      rw [if_neg e] at h; clear e
      by_cases e : c = 3
      · subst e; cases h; exact exmB_ok (c.fact 89 (f := exmB "NoPhase" "NoPhase" true))
      rw [if_neg e] at h; clear e
      cases h
  case XI_BadAmount =>
    exact by
      intro c b h
      unfold ib_BadAmount at h
      by_cases e : c = 0
      · subst e; cases h; exact ⟨exi_ok (c.fact 90 (f := exiC "Fault")), kitRR_ok (c.fact 91 (f := kitRR "Fault" "BadAmount" false))⟩
      rw [if_neg e] at h; clear e
      by_cases e : c = 1
      · subst e; cases h; exact ⟨exi_ok (c.fact 92 (f := exiC "BadAmount")), kitRR_ok (c.fact 93 (f := kitRR "BadAmount" "BadAmount" true))⟩
      rw [if_neg e] at h; clear e
      by_cases e : c = 2
      · subst e; cases h; exact ⟨exi_ok (c.fact 94 (f := exiC "BadBook")), kitRR_ok (c.fact 95 (f := kitRR "BadBook" "BadAmount" false))⟩
      rw [if_neg e] at h; clear e
      by_cases e : c = 3
      · subst e; cases h; exact ⟨exi_ok (c.fact 96 (f := exiC "NoPhase")), kitRR_ok (c.fact 97 (f := kitRR "NoPhase" "BadAmount" false))⟩
      rw [if_neg e] at h; clear e
      cases h
  case XI_BadBook =>
    exact by
      intro c b h
      unfold ib_BadBook at h
      by_cases e : c = 0
      · subst e; cases h; exact ⟨exi_ok (c.fact 90 (f := exiC "Fault")), kitRR_ok (c.fact 98 (f := kitRR "Fault" "BadBook" false))⟩
      rw [if_neg e] at h; clear e
      by_cases e : c = 1
      · subst e; cases h; exact ⟨exi_ok (c.fact 92 (f := exiC "BadAmount")), kitRR_ok (c.fact 99 (f := kitRR "BadAmount" "BadBook" false))⟩
      rw [if_neg e] at h; clear e
      by_cases e : c = 2
      · subst e; cases h; exact ⟨exi_ok (c.fact 94 (f := exiC "BadBook")), kitRR_ok (c.fact 100 (f := kitRR "BadBook" "BadBook" true))⟩
      rw [if_neg e] at h; clear e
      by_cases e : c = 3
      · subst e; cases h; exact ⟨exi_ok (c.fact 96 (f := exiC "NoPhase")), kitRR_ok (c.fact 101 (f := kitRR "NoPhase" "BadBook" false))⟩
      rw [if_neg e] at h; clear e
      cases h
  case XI_Fault =>
    exact by
      intro c b h
      unfold ib_Fault at h
      by_cases e : c = 0
      · subst e; cases h; exact ⟨exi_ok (c.fact 90 (f := exiC "Fault")), kitRR_ok (c.fact 102 (f := kitRR "Fault" "Fault" true))⟩
      rw [if_neg e] at h; clear e
      by_cases e : c = 1
      · subst e; cases h; exact ⟨exi_ok (c.fact 92 (f := exiC "BadAmount")), kitRR_ok (c.fact 103 (f := kitRR "BadAmount" "Fault" true))⟩
      rw [if_neg e] at h; clear e
      by_cases e : c = 2
      · subst e; cases h; exact ⟨exi_ok (c.fact 94 (f := exiC "BadBook")), kitRR_ok (c.fact 104 (f := kitRR "BadBook" "Fault" true))⟩
      rw [if_neg e] at h; clear e
      by_cases e : c = 3
      · subst e; cases h; exact ⟨exi_ok (c.fact 96 (f := exiC "NoPhase")), kitRR_ok (c.fact 105 (f := kitRR "NoPhase" "Fault" true))⟩
      rw [if_neg e] at h; clear e
      cases h
  case XI_NoPhase =>
    exact by
      intro c b h
      unfold ib_NoPhase at h
      by_cases e : c = 0
      · subst e; cases h; exact ⟨exi_ok (c.fact 90 (f := exiC "Fault")), kitRR_ok (c.fact 106 (f := kitRR "Fault" "NoPhase" false))⟩
      rw [if_neg e] at h; clear e
      by_cases e : c = 1
      · subst e; cases h; exact ⟨exi_ok (c.fact 92 (f := exiC "BadAmount")), kitRR_ok (c.fact 107 (f := kitRR "BadAmount" "NoPhase" false))⟩
      rw [if_neg e] at h; clear e
      by_cases e : c = 2
      · subst e; cases h; exact ⟨exi_ok (c.fact 94 (f := exiC "BadBook")), kitRR_ok (c.fact 108 (f := kitRR "BadBook" "NoPhase" false))⟩
      rw [if_neg e] at h; clear e
      by_cases e : c = 3
      · subst e; cases h; exact ⟨exi_ok (c.fact 96 (f := exiC "NoPhase")), kitRR_ok (c.fact 109 (f := kitRR "NoPhase" "NoPhase" true))⟩
      rw [if_neg e] at h; clear e
      cases h
  case IC_Book =>
    exact by
      intro c b h
      unfold ic_Book at h
      by_cases e : c = 4
      · subst e; cases h; exact ⟨isc_ok (c.fact 110 (f := isC "Book")), kitRR_ok (c.fact 111 (f := kitRR "Book" "Book" true))⟩
      rw [if_neg e] at h; clear e
      cases h
  case IT_Book =>
    exact by
      intro s b h
      unfold tb_Book at h
      split at h
      · rename_i e; cases h
        rcases e with rfl | rfl | rfl | rfl | rfl | rfl
        · exact kitTR_ok (c.fact 112 (f := kitTR "tuple" "Book" false))
        · exact kitTR_ok (c.fact 113 (f := kitTR "int" "Book" false))
        · exact kitTR_ok (c.fact 114 (f := kitTR "list" "Book" false))
        · exact kitTR_ok (c.fact 115 (f := kitTR "str" "Book" false))
        · exact kitTR_ok (c.fact 116 (f := kitTR "NoneType" "Book" false))
        · exact kitTR_ok (c.fact 117 (f := kitTR "bool" "Book" false))
      · cases h
  case G_MOST =>
    exact ⟨g0, _, rfl⟩
  case R_MOST =>
    exact fun H => by simp only [Rep]
  case G_BOOK_KINDS =>
    exact ⟨g1, rfl⟩
  case R_BOOK_KINDS =>
    exact fun H => by
      simp only [Rep]
      refine ⟨_, _, rfl, tupB_ok (c.fact 118 (f := tupC "BOOK_KINDS" [.str "plain", .str "delay", .str "bonus"])) H, ?_⟩
      simp only [List.map_cons, List.map_nil, Dv.v, Reps]
      exact ⟨_, _, rfl, rfl, ⟨_, _, rfl, rfl, ⟨_, _, rfl, rfl, rfl⟩⟩⟩
  case G_MOST_ALLOWANCE =>
    exact ⟨g2, _, rfl⟩
  case R_MOST_ALLOWANCE =>
    exact fun H => by simp only [Rep]
  case G_MOST_STAGES =>
    exact ⟨g3, _, rfl⟩
  case R_MOST_STAGES =>
    exact fun H => by simp only [Rep]
  case G_MOST_STAGE_MOVES =>
    exact ⟨g4, _, rfl⟩
  case R_MOST_STAGE_MOVES =>
    exact fun H => by simp only [Rep]
  case G_MOST_GAIN =>
    exact ⟨g5, _, rfl⟩
  case R_MOST_GAIN =>
    exact fun H => by simp only [Rep]
  case G_MOST_STATES =>
    exact ⟨g6, _, rfl⟩
  case R_MOST_STATES =>
    exact fun H => by simp only [Rep]
  case G_TIMES =>
    exact ⟨g7, _, rfl⟩
  case R_TIMES =>
    exact fun H => by simp only [Rep]
section
variable {P : Program} {w : World} {Γ : Gc} {mg : Str → Option Value} {base : Heap} {ad : Nat → Addr} {fd : Nat → FuncData} {dv : Nat → List V} {cv : Nat → V} {cu : Nat → Value} {fI : Nat → Addr}
theorem ok_all (fx : Fx P Γ mg ad fd dv cv cu fI) : FnOk P w Γ.K mg base (L2N.CX P w) 9 (ad 28) (fd 28) ["script"] (spP Γ F_law) := by
  have k_checked_amount := ok_checked_amount (w := w) (base := base) fx 
  have k_keeps_good := ok_keeps_good (w := w) (base := base) fx 
  have k_stages_fit := ok_stages_fit (w := w) (base := base) fx 
  have k_Book_charge := ok_Book_charge (w := w) (base := base) fx 
  have k_Book_stage_phase := ok_Book_stage_phase (w := w) (base := base) fx 
  have k_Book_phases := ok_Book_phases (w := w) (base := base) fx 
  have k_Book_eq := ok_Book_eq (w := w) (base := base) fx 
  have k_p_law_cell := ok_p_law_cell (w := w) (base := base) fx 
  have k_p_law_numbers := ok_p_law_numbers (w := w) (base := base) fx 
  have k_p_law_is := ok_p_law_is (w := w) (base := base) fx 
  have h_p_law_is := okH_p_law_is (w := w) (base := base) fx 
  have k_p_law_honest := ok_p_law_honest (w := w) (base := base) fx 
  have k_p_law_charged := ok_p_law_charged (w := w) (base := base) fx 
  have k_p_law_phases := ok_p_law_phases (w := w) (base := base) fx 
  have k_good_pairs := ok_good_pairs (w := w) (base := base) fx k_keeps_good
  have k_Book_opening := ok_Book_opening (w := w) (base := base) fx k_Book_stage_phase
  have k_Book_moved := ok_Book_moved (w := w) (base := base) fx k_Book_phases k_Book_stage_phase
  have k_Book_overtime_step := ok_Book_overtime_step (w := w) (base := base) fx k_checked_amount
  have k_p_law_pair := ok_p_law_pair (w := w) (base := base) fx k_p_law_is
  have k_p_law_rows := ok_p_law_rows (w := w) (base := base) fx k_p_law_numbers
  have k_is_honest := ok_is_honest (w := w) (base := base) fx k_good_pairs
  have k_p_law_no_phase := ok_p_law_no_phase (w := w) (base := base) fx k_Book_moved
  have k_p_law_no_state := ok_p_law_no_state (w := w) (base := base) fx k_Book_overtime_step
  have k_overtime_fits := ok_overtime_fits (w := w) (base := base) fx k_is_honest
  have k_p_law_moves := ok_p_law_moves (w := w) (base := base) fx k_Book_moved k_Book_opening k_Book_phases k_p_law_is k_p_law_no_phase k_p_law_pair k_p_law_phases
  have k_p_law_steps := ok_p_law_steps (w := w) (base := base) fx k_Book_overtime_step k_p_law_is h_p_law_is k_p_law_no_state
  have k_Book_init := ok_Book_init (w := w) (base := base) fx k_overtime_fits k_stages_fit
  have k_p_law_refused := ok_p_law_refused (w := w) (base := base) fx k_Book_init
  have k_p_law_bounds := ok_p_law_bounds (w := w) (base := base) fx k_Book_init k_p_law_refused
  have k_law := ok_law (w := w) (base := base) fx k_Book_eq k_Book_init k_Book_charge k_p_law_bounds k_p_law_cell k_p_law_charged k_p_law_honest k_p_law_is k_p_law_moves k_p_law_numbers k_p_law_pair k_p_law_refused k_p_law_rows k_p_law_steps
  exact k_law
end
end K03
open PySem PySem.W PySem.Calls PyProof.Rows
set_option maxHeartbeats 0 in
theorem K03.holds_of (hF : ∀ ns : List Int, ns.length ≤ 63 → (∀ z ∈ ns, Builtin.Int.intBits z ≤ 1048576) → K03.F_law [.scr (ns.map .int)] = .ok (.sh (.bl true))) : PySem.Challenge.rw_flagfalls_k03_books.Holds := by
  w_on; o_law
  refine HandSHeadRun.head_any (r := OpenLaw.row PySem.Challenge.rw_flagfalls_k03_books) (q := view (OpenLaw.row PySem.Challenge.rw_flagfalls_k03_books).prog [37]) (H := K03.hk) (ob := K03.ob) (M := 6000) (loose := K03.names) (d := HandSHeadRun.topDef (OpenLaw.row PySem.Challenge.rw_flagfalls_k03_books).prog 37) (kwd := []) K03.ob_eq
    (by kernel_rfl) (fun s => by kernel_rfl) K03.run (by kernel_rfl) (by kernel_rfl) (by kernel_rfl) (by rfl) (by first | assumption | decide +kernel) (by decide +kernel) ⟨rfl, rfl, rfl, rfl, rfl, by decide +kernel⟩ ?hw ?hc
  case hw => w_witness2
  case hc =>
    refine X4.walk_X (l := PySem.Challenge.rw_flagfalls_k03_books) (n := 63) (k := 9) (x := "script") (Fn := K03.F_law) rfl (by decide) (by kernel_rfl) ⟨rfl, by decide, by decide⟩ ?F hF
    intro w mg fa h Y G hmg0
    obtain ⟨K, KX, c⟩ := Y
    have hmg : mg ("law" : PySem.Str) = some (.ref fa) := by
      have e : (HandSHeadRun.topDef (OpenLaw.row PySem.Challenge.rw_flagfalls_k03_books).prog 37).name = ("law" : PySem.Str) := by kernel_rfl
      rw [← e]
      exact hmg0
    obtain ⟨Γ, ad, fd, dv, cv, cu, fI, eK, ea, hb, fx⟩ := K03.facts (P := (PySem.Challenge.rw_flagfalls_k03_books).prog) (by kernel_rfl) (by kernel_rfl) KX G hmg c
    subst eK ea
    exact ⟨Γ, fd 28, KX, hb, fun base _ _ => K03.ok_all fx⟩

namespace K03
open PySem L2 L3
local macro_rules | `(tactic| walk_at "d") => `(tactic| first | assumption | omega | (simp only [szl, List.length_map, List.length_append, List.length_cons, List.length_nil, List.length_range, List.length_replicate, rngP_length]; omega) | exact Eq.refl _ | (simp; done))
def cell (ns : List Int) (k : Nat) : Int := ns.getD k 0
theorem cell_ok {ns : List Int} {k : Nat} : F_p_law_cell [.scr (ns.map .int), .int k] = .ok (.sh (.int (cell ns k))) := by
  rw [F_p_law_cell_at]
  unfold s_p_law_cell
  by_cases h : k < ns.length
  · simp [h, atI_natP, cell]
  · simp [h, cell]

def mixA (c s k : Int) : Int := ((if c < 0 then -c else c) + s * 7919 + k * 104729 + 17) % 2147483647
def mixB (c s k : Int) : Int := (mixA c s k * 48271 + 5) % 2147483647
def mixC (c s k : Int) : Int := (mixB c s k * mixB c s k + mixB c s k * 69621 + k * 31) % 2147483629
theorem mixB_rng {c s k : Int} : -(2 ^ 64) < mixB c s k ∧ mixB c s k < 2 ^ 64 := by unfold mixB; omega
def numAt (c s m k : Int) (g : Bool) (r : Int) : Int := if (g && decide (0 < r)) = true then r % m else (mixC c s k / 7) % m
def restAt (m : Int) (g : Bool) (r : Int) : Int := if (g && decide (0 < r)) = true then r / m else r
def nEnv (c s m n : Int) (b : List Int × Int) (g : Bool) : L3.Env := [some (.sh (.int c)), some (.sh (.int s)), some (.sh (.int n)), some (.sh (.int m)), some (.own (b.1.map fun i => .sh (.int i))), some (.sh (.int b.2)), some (.sh (.bl g)), none, none]
theorem numAt_rng {c s m k : Int} {g : Bool} {r : Int} (hm : 0 < m) : 0 ≤ numAt c s m k g r ∧ numAt c s m k g r < m := by
  unfold numAt
  split <;> exact ⟨Int.emod_nonneg _ (by omega), Int.emod_lt_of_pos _ hm⟩
theorem numbers_turn {c s m n : Int} {b : List Int × Int} {g : Bool} {k : Nat} (hm : 0 < m) (hm2 : m < 2 ^ 200) (hl : b.1.length < 1000000) :
    Turn (.nm 7) [7, 8] b_p_law_numbers_1 (.int (0 + (k : Int))) (nEnv c s m n b g) (nEnv c s m n (b.1 ++ [numAt c s m k g b.2], restAt m g b.2) g) := by
  unfold b_p_law_numbers_1 nEnv
  obtain ⟨l, r⟩ := b
  dsimp only at hl
  refine .of ?_
  have hB : -(2 ^ 64) < mixB c s k ∧ mixB c s k < 2 ^ 64 := mixB_rng
  cases h : (g && decide (0 < r)) with
  | true => simp (disch := walk_at "d") [h, numAt, restAt]
  | false =>
    unfold mixB mixA at hB
    simp (disch := walk_at "d") [h, numAt, restAt, mixC, mixB, mixA]
def numsF (c s m : Int) (b : List Int × Int) (k : Nat) : List Int × Int := (b.1 ++ [numAt c s m k (decide (1000000000000000000 ≤ (if c < 0 then -c else c))) b.2], restAt m (decide (1000000000000000000 ≤ (if c < 0 then -c else c))) b.2)
def nums (c s : Int) (n : Nat) (m : Int) : List Int := ((List.range n).foldl (numsF c s m) ([], if c < 0 then -c else c)).1
theorem nums_ok {c s m : Int} {n : Nat} (hm : 0 < m) (hm2 : m < 2 ^ 200) (hn : n < 1000000) : F_p_law_numbers [.int c, .int s, .int n, .int m] = .ok (.own ((nums c s n m).map fun i => .sh (.int i))) := by
  rw [F_p_law_numbers_at]
  unfold s_p_law_numbers
  simp (disch := walk_at "d")
  have key := (forGo_foldN (T := .nm 7) (fg := [7, 8]) (fb := b_p_law_numbers_1) (f := fun (k : Nat) => PV.int (0 + (k : Int))) (fun b => nEnv c s m n b (decide (1000000000000000000 ≤ (if c < 0 then -c else c)))) (numsF c s m) (fun k b => b.1.length = k ∧ k ≤ n) (List.range n) 0 ([], if c < 0 then -c else c) ⟨rfl, Nat.zero_le _⟩ fun j x b hx hb => by
    obtain ⟨hj, rfl⟩ := List.getElem?_eq_some_iff.mp hx
    rw [List.length_range] at hj
    refine ⟨⟨by simp [numsF]; omega, by omega⟩, ?_⟩
    exact numbers_turn hm hm2 (by omega)).1
  rw [← rngP_eq] at key
  simp only [nEnv, List.map_nil] at key
  rw [key]
  simp [nums]
theorem nums_fold (c s m : Int) (hm : 0 < m) : ∀ (l : List Nat) (b : List Int × Int), (∀ x ∈ b.1, 0 ≤ x ∧ x < m) → (∀ x ∈ (l.foldl (numsF c s m) b).1, 0 ≤ x ∧ x < m) ∧ (l.foldl (numsF c s m) b).1.length = b.1.length + l.length
  | [], b, h => ⟨h, rfl⟩
  | k :: l, b, h => by
    have := nums_fold c s m hm l (numsF c s m b k) (by
      intro x hx
      rcases List.mem_append.mp hx with hx | hx
      · exact h x hx
      · rw [List.mem_singleton.mp hx]; exact numAt_rng hm)
    refine ⟨this.1, ?_⟩
    rw [List.foldl_cons, this.2]
    simp [numsF]
    omega
theorem nums_len {c s m : Int} {n : Nat} (hm : 0 < m) : (nums c s n m).length = n := by
  have := (nums_fold c s m hm (List.range n) ([], if c < 0 then -c else c) (by simp)).2
  simpa [nums] using this
theorem nums_mem {c s m : Int} {n : Nat} (hm : 0 < m) : ∀ x ∈ nums c s n m, 0 ≤ x ∧ x < m := (nums_fold c s m hm (List.range n) ([], if c < 0 then -c else c) (by simp)).1
end K03

/-! honest overtimes -/
namespace K03
open PySem L2 L3
local macro_rules | `(tactic| walk_at "d") => `(tactic| first | assumption | omega | (simp only [szl, List.length_map, List.length_append, List.length_cons, List.length_nil, List.length_range, List.length_replicate, rngP_length]; omega) | exact Eq.refl _ | (simp; done))
theorem getD_of {α : Type} {l : List α} {k : Nat} {d : α} (h : k < l.length) : l.getD k d = l[k] := by simp [List.getD_eq_getElem?_getD, h]
theorem atI_getD {α : Type} {l : List α} {k : Nat} {d : α} (h : k < l.length) : atI l (k : Int) = some (l.getD k d) := by
  rw [atI_natP, List.getElem?_eq_getElem h, getD_of h]
theorem atI_getI {α : Type} {l : List α} {i : Int} {d : α} (h0 : 0 ≤ i) (h : i < l.length) : atI l i = some (l.getD i.toNat d) := by
  have e : i = (i.toNat : Int) := by omega
  rw [e, atI_getD (d := d) (by omega)]
  rfl
theorem toBls_map {α : Type} {f : α → Bool} {l : List α} : toBls (l.map fun x => PV.bl (f x)) = some (l.map f) := by
  induction l with
  | nil => rfl
  | cons x l ih => rw [List.map_cons, toBls, ih]; rfl
theorem toInts_map {α : Type} {f : α → Int} {l : List α} : toInts (l.map fun x => PV.int (f x)) = some (l.map f) := by
  induction l with
  | nil => rfl
  | cons x l ih => rw [List.map_cons, toInts, ih]; rfl
/-! tables -/
abbrev Tab := Nat → Nat → Bool
def tabO (n : Nat) (T : Tab) : List OV := (List.range (n + 1)).map fun a => .own ((List.range (n + 1)).map fun b => .sh (.bl (T a b)))
def tabP (n : Nat) (T : Tab) : List PV := (List.range (n + 1)).map fun a => .lst ((List.range (n + 1)).map fun b => .bl (T a b))
theorem tab_pv {n : Nat} {T : Tab} : OV.pvs (tabO n T) = tabP n T := by simp [tabO, tabP]
theorem tab_row {n : Nat} {T : Tab} {a : Int} (h0 : 0 ≤ a) (h : a ≤ n) : atI (tabP n T) a = some (.lst ((List.range (n + 1)).map fun b => .bl (T a.toNat b))) := by
  unfold tabP
  rw [atI_map, atI_getI (d := 0) h0 (by simp; omega)]
  have : a.toNat < n + 1 := by omega
  simp [List.getElem?_range this]
theorem tab_cell {n : Nat} {f : Nat → Bool} {b : Int} (h0 : 0 ≤ b) (h : b ≤ n) : atI ((List.range (n + 1)).map fun b => PV.bl (f b)) b = some (.bl (f b.toNat)) := by
  rw [atI_map, atI_getI (d := 0) h0 (by simp; omega)]
  have : b.toNat < n + 1 := by omega
  simp [List.getElem?_range this]
def updT (T : Tab) (l r : Nat) : Tab := fun a b => if a = l ∧ b = r then false else T a b
theorem map_set {α : Type} {f g : Nat → α} {m i : Nat} {v : α} (h : i < m) (hi : g i = v) (hn : ∀ j, j ≠ i → g j = f j) : ((List.range m).map f).set i v = (List.range m).map g := by
  apply List.ext_getElem?
  intro j
  rw [List.getElem?_set]
  by_cases e : i = j
  · subst e
    simp [h, hi]
  · rw [if_neg e]
    simp only [List.getElem?_map]
    cases q : (List.range m)[j]? with
    | none => rfl
    | some x =>
      obtain ⟨hx, rfl⟩ := List.getElem?_eq_some_iff.mp q
      simp [hn j fun z => e z.symm]
theorem tab_set {n l r : Nat} {T : Tab} (hl : l ≤ n) (hr : r ≤ n) : (tabO n T).set l (.own (((List.range (n + 1)).map fun b => OV.sh (.bl (T l b))).set r (.sh (.bl false)))) = tabO n (updT T l r) := by
  unfold tabO
  refine map_set (by omega) ?_ fun j hj => ?_
  · rw [map_set (g := fun b => OV.sh (.bl (updT T l r l b))) (by omega) (by simp [updT]) (fun j hj => by simp [updT, hj])]
  · simp [updT, hj]
/-! rows -/
def rowsP (rows : List (List Int)) : List PV := rows.map fun r => .lst (r.map .int)
def RowOk (n : Nat) (r : List Int) : Prop := r.length = 10 ∧ ∀ x ∈ r, 0 ≤ x ∧ x ≤ n
def ent (r : List Int) (t : Nat) : Nat := (r.getD t 0).toNat
theorem RowOk.at {n : Nat} {r : List Int} (h : RowOk n r) {t : Nat} (ht : t < 10) : ∃ x, atI r (t : Int) = some x ∧ 0 ≤ x ∧ x ≤ n ∧ ent r t = x.toNat := by
  have hl : t < r.length := by rw [h.1]; exact ht
  refine ⟨r.getD t 0, atI_getD hl, ?_⟩
  have : r.getD t 0 ∈ r := by rw [getD_of hl]; exact List.getElem_mem hl
  exact ⟨(h.2 _ this).1, (h.2 _ this).2, rfl⟩
theorem RowOk.ent_le {n : Nat} {r : List Int} (h : RowOk n r) {t : Nat} (ht : t < 10) : ent r t ≤ n := by
  obtain ⟨x, _, h1, h2, e⟩ := h.at ht
  omega
def keepsT (T : Tab) (a b : List Int) : Bool := (List.range 10).all fun t => T (ent a t) (ent b t)
theorem keeps_ok {n : Nat} {T : Tab} {a b : List Int} (ha : RowOk n a) (hb : RowOk n b) : F_keeps_good [.lst (tabP n T), .lst (a.map .int), .lst (b.map .int)] = .ok (.sh (.bl (keepsT T a b))) := by
  rw [F_keeps_good_at]
  unfold s_keeps_good
  have key : ∀ ρ : L3.Env, ρ = [some (.sh (.lst (tabP n T))), some (.sh (.lst (a.map .int))), some (.sh (.lst (b.map .int))), none] → fLc (.nm 3) [3] (iRg rng1R (aCons (eCst (.int 10)) aNil)) tYesB c_keeps_good_1 ρ = .ok (.own ((List.range 10).map fun t => .sh (.bl (T (ent a t) (ent b t))))) := by
    rintro ρ rfl
    refine fLc_at (ps := rngP 0 10) (by simp (disch := walk_at "d")) (by (simp only [szl, rngP_length]; omega)) ?_
    rw [rngP_eq]
    refine lcGo_map (f := fun (k : Nat) => PV.int (0 + (k : Int))) _ fun t ht => ?_
    have ht : t < 10 := by simpa using ht
    obtain ⟨x, e1, x0, x1, ex⟩ := ha.at ht
    obtain ⟨y, e2, y0, y1, ey⟩ := hb.at ht
    unfold c_keeps_good_1
    simp [e1, e2, tab_row x0 x1, tab_cell y0 y1, ex, ey]
  simp [key, bAll, toBls_map, keepsT, Function.comp_def]
end K03

/-! good_pairs, is_honest -/
namespace K03
open PySem L2 L3
local macro_rules | `(tactic| walk_at "d") => `(tactic| first | assumption | omega | (simp only [szl, List.length_map, List.length_append, List.length_cons, List.length_nil, List.length_range, List.length_replicate, rngP_length]; omega) | exact Eq.refl _ | (simp; done))
def rowAt (rows : List (List Int)) (k : Nat) : List Int := rows.getD k []
theorem rowAt_of {rows : List (List Int)} {k : Nat} (h : k < rows.length) : rowAt rows k = rows[k] := getD_of h
/-! the greatest relation -/
def Post (rows : List (List Int)) (R : Nat → Nat → Prop) : Prop := ∀ a b, a ≤ rows.length → b ≤ rows.length → R a b → (a < rows.length ∨ b = rows.length) ∧ (a < rows.length → b < rows.length → ∀ t < 10, R (ent (rowAt rows a) t) (ent (rowAt rows b) t))
def Good (rows : List (List Int)) (a b : Nat) : Prop := ∃ R, Post rows R ∧ R a b
theorem Good.post {rows : List (List Int)} : Post rows (Good rows) := by
  intro a b ha hb ⟨R, h, r⟩
  obtain ⟨h1, h2⟩ := h a b ha hb r
  exact ⟨h1, fun x y t ht => ⟨R, h, h2 x y t ht⟩⟩
def T0 (n : Nat) : Tab := fun a b => decide (a < n) || decide (b = n)
/-- what a table keeps on its way down -/
structure Above (rows : List (List Int)) (T : Tab) : Prop where
  le : ∀ a b, a ≤ rows.length → b ≤ rows.length → T a b = true → a < rows.length ∨ b = rows.length
  ge : ∀ a b, a ≤ rows.length → b ≤ rows.length → Good rows a b → T a b = true
def Stable (rows : List (List Int)) (T : Tab) : Prop := ∀ a b, a < rows.length → b < rows.length → T a b = true → keepsT T (rowAt rows a) (rowAt rows b) = true
theorem Above.zero {rows : List (List Int)} : Above rows (T0 rows.length) := by
  refine ⟨fun a b _ _ h => by simpa [T0] using h, fun a b ha hb h => ?_⟩
  have := (Good.post a b ha hb h).1
  simpa [T0] using this
theorem Above.upd {rows : List (List Int)} {T : Tab} (A : Above rows T) (hr : ∀ r ∈ rows, RowOk rows.length r) {l r : Nat} (hl : l < rows.length) (hr' : r < rows.length) (h : keepsT T (rowAt rows l) (rowAt rows r) = false) : Above rows (updT T l r) := by
  refine ⟨fun a b ha hb h => A.le a b ha hb ?_, fun a b ha hb g => ?_⟩
  · unfold updT at h
    split at h
    · cases h
    · exact h
  · unfold updT
    split
    · rename_i e
      obtain ⟨rfl, rfl⟩ := e
      obtain ⟨t, ht, hk⟩ := by
        have := List.all_eq_false.mp h
        exact this
      have ht : t < 10 := by simpa using ht
      have g2 := (Good.post a b ha hb g).2 hl hr' t ht
      have m : ∀ k, k < rows.length → RowOk rows.length (rowAt rows k) := fun k hk => by rw [rowAt_of hk]; exact hr _ (List.getElem_mem hk)
      exact absurd (A.ge _ _ ((m a hl).ent_le ht) ((m b hr').ent_le ht) g2) hk
    · exact A.ge a b ha hb g
theorem stable_good {rows : List (List Int)} {T : Tab} (A : Above rows T) (S : Stable rows T) {a b : Nat} (ha : a ≤ rows.length) (hb : b ≤ rows.length) : T a b = true ↔ Good rows a b := by
  refine ⟨fun h => ⟨fun a b => T a b = true, fun a b ha hb h => ⟨A.le a b ha hb h, fun x y t ht => ?_⟩, h⟩, A.ge a b ha hb⟩
  exact List.all_eq_true.mp (S a b x y h) t (by simpa using ht)
/-! counting down -/
theorem countP_lt {α : Type} {p q : α → Bool} : ∀ {l : List α}, (∀ x ∈ l, q x = true → p x = true) → (∃ x ∈ l, p x = true ∧ q x = false) → l.countP q < l.countP p
  | [], _, ⟨x, hx, _⟩ => by cases hx
  | y :: l, h, ⟨x, hx, h1, h2⟩ => by
    have hle : l.countP q ≤ l.countP p := List.countP_mono_left fun z hz => h z (List.mem_cons_of_mem _ hz)
    rw [List.countP_cons, List.countP_cons]
    rcases List.mem_cons.mp hx with e | hx
    · subst e
      simp [h1, h2]
      omega
    · have := countP_lt (l := l) (fun z hz => h z (List.mem_cons_of_mem _ hz)) ⟨x, hx, h1, h2⟩
      have := h y List.mem_cons_self
      split <;> split <;> simp_all <;> omega
def pairsL (n : Nat) : List (Nat × Nat) := (List.range n).flatMap fun a => (List.range n).map fun b => (a, b)
theorem pairs_mem {n a b : Nat} : (a, b) ∈ pairsL n ↔ a < n ∧ b < n := by simp [pairsL]
theorem pairs_len {n : Nat} : (pairsL n).length = n * n := by simp [pairsL, List.length_flatMap, List.map_const']
def cnt (n : Nat) (T : Tab) : Nat := (pairsL n).countP fun p => T p.1 p.2
theorem cnt_le {n : Nat} {T : Tab} : cnt n T ≤ n * n := by
  have := List.countP_le_length (p := fun p : Nat × Nat => T p.1 p.2) (l := pairsL n)
  rw [pairs_len] at this
  exact this
/-! one pass -/
def gStep (rows : List (List Int)) (s : Tab × Bool) (l r : Nat) : Tab × Bool := if (s.1 l r && !keepsT s.1 (rowAt rows l) (rowAt rows r)) = true then (updT s.1 l r, true) else s
def gEnv (rows : List (List Int)) (s : Tab × Bool) (x : Option OV) : L3.Env := [some (.sh (.lst (rowsP rows))), some (.sh (.int rows.length)), some (.own (tabO rows.length s.1)), some (.sh (.bl s.2)), x, none]
section
variable {rows : List (List Int)} (hr : ∀ r ∈ rows, RowOk rows.length r) (hn : rows.length ≤ 12)
theorem row_at {k : Nat} (h : k < rows.length) : atI (rowsP rows) (k : Int) = some (.lst ((rowAt rows k).map .int)) := by
  unfold rowsP
  rw [atI_map, atI_getD (d := []) h]
  rfl
include hr in
theorem row_ok {k : Nat} (h : k < rows.length) : RowOk rows.length (rowAt rows k) := by rw [rowAt_of h]; exact hr _ (List.getElem_mem h)
include hr hn in
theorem g_turn {s : Tab × Bool} {l r : Nat} (hl : l < rows.length) (hr' : r < rows.length) : Turn (.nm 5) [5] b_good_pairs_1 (.int (0 + (r : Int))) (gEnv rows s (some (.sh (.int l)))) (gEnv rows (gStep rows s l r) (some (.sh (.int l)))) := by
  obtain ⟨T, ch⟩ := s
  refine .of ?_
  unfold b_good_pairs_1 gEnv gStep
  have e1 := tab_row (n := rows.length) (T := T) (a := l) (by omega) (by omega)
  have e2 := tab_cell (n := rows.length) (f := fun b => T l b) (b := r) (by omega) (by omega)
  have e3 : ∀ k : Nat, k ≤ rows.length → (tabO rows.length T)[k]? = some (.own ((List.range (rows.length + 1)).map fun b => .sh (.bl (T k b)))) := fun k hk => by simp [tabO, List.getElem?_range (show k < rows.length + 1 by omega)]
  have hlen : (tabO rows.length T).length = rows.length + 1 := by simp [tabO]
  have e5 : ∀ h : l < (tabO rows.length T).length, (tabO rows.length T)[l]'h = .own ((List.range (rows.length + 1)).map fun b => .sh (.bl (T l b))) := fun h => by simp [tabO]
  have e4 := tab_set (T := T) (n := rows.length) (l := l) (r := r) (by omega) (by omega)
  cases h : (T l r && !keepsT T (rowAt rows l) (rowAt rows r)) with
  | true =>
    simp (disch := first | (simp only [hlen, List.length_map, List.length_range]; omega) | walk_at "d") [tab_pv, e1, e2, row_at hl, row_at hr', keeps_ok (row_ok hr hl) (row_ok hr hr'), capR_flat, OV.flat, PV.flat, h, e3, e5, hlen, e4]
  | false =>
    simp (disch := walk_at "d") [tab_pv, e1, e2, row_at hl, row_at hr', keeps_ok (row_ok hr hl) (row_ok hr hr'), capR_flat, OV.flat, PV.flat, h]

def gPassR (rows : List (List Int)) (s : Tab × Bool) (l : Nat) : Tab × Bool := (List.range rows.length).foldl (fun s r => gStep rows s l r) s
def gPass (rows : List (List Int)) (s : Tab × Bool) : Tab × Bool := (List.range rows.length).foldl (gPassR rows) s
include hr hn in
theorem g_row {s : Tab × Bool} {l : Nat} (hl : l < rows.length) : Turn (.nm 4) [4, 5] b_good_pairs_2 (.int (0 + (l : Int))) (gEnv rows s none) (gEnv rows (gPassR rows s l) none) := by
  refine .of ?_
  have key := (forGo_fold (T := .nm 5) (fg := [5]) (fb := b_good_pairs_1) (f := fun (k : Nat) => PV.int (0 + (k : Int))) (fun s => gEnv rows s (some (.sh (.int l)))) (fun s r => gStep rows s l r) (fun _ => True) (List.range rows.length) s trivial fun r hr2 b _ => ⟨trivial, g_turn hr hn hl (by simpa using hr2)⟩).1
  rw [← rngP_eq] at key
  unfold b_good_pairs_2
  simp only [gEnv] at key ⊢
  simp (disch := walk_at "d") [key, gPassR]
include hr hn in
theorem g_pass {s : Tab × Bool} : b_good_pairs_3 (gEnv rows s none) = .nx (gEnv rows (gPass rows (s.1, false)) none) := by
  have key := (forGo_fold (T := .nm 4) (fg := [4, 5]) (fb := b_good_pairs_2) (f := fun (k : Nat) => PV.int (0 + (k : Int))) (fun s => gEnv rows s none) (gPassR rows) (fun _ => True) (List.range rows.length) (s.1, false) trivial fun r hr2 b _ => ⟨trivial, g_row hr hn (by simpa using hr2)⟩).1
  rw [← rngP_eq] at key
  unfold b_good_pairs_3
  simp only [gEnv] at key ⊢
  simp (disch := walk_at "d") [key, gPass]
/-! what a pass does -/
structure Down (rows : List (List Int)) (T : Tab) (s : Tab × Bool) : Prop where
  a : Above rows s.1
  le : ∀ a b, s.1 a b = true → T a b = true
  no : s.2 = false → s.1 = T
  yes : s.2 = true → ∃ a b, a < rows.length ∧ b < rows.length ∧ T a b = true ∧ s.1 a b = false
include hr in
theorem Down.step {T : Tab} {s : Tab × Bool} {l r : Nat} (D : Down rows T s) (hl : l < rows.length) (hr' : r < rows.length) : Down rows T (gStep rows s l r) := by
  unfold gStep
  split
  · rename_i h
    simp only [Bool.and_eq_true, Bool.not_eq_true'] at h
    refine ⟨D.a.upd hr hl hr' h.2, fun a b q => D.le a b ?_, (fun z => nomatch z), fun _ => ⟨l, r, hl, hr', D.le _ _ h.1, by simp [updT]⟩⟩
    simp only [updT] at q
    split at q
    · cases q
    · exact q
  · exact D
include hr in
theorem Down.row {T : Tab} {l : Nat} (hl : l < rows.length) : ∀ (ls : List Nat) (s : Tab × Bool), (∀ r ∈ ls, r < rows.length) → Down rows T s → Down rows T (ls.foldl (fun s r => gStep rows s l r) s)
  | [], _, _, D => D
  | r :: ls, s, h, D => Down.row hl ls _ (fun x hx => h x (List.mem_cons_of_mem _ hx)) (D.step hr hl (h r List.mem_cons_self))
include hr in
theorem Down.all {T : Tab} : ∀ (ls : List Nat) (s : Tab × Bool), (∀ r ∈ ls, r < rows.length) → Down rows T s → Down rows T (ls.foldl (gPassR rows) s)
  | [], _, _, D => D
  | r :: ls, s, h, D => Down.all ls _ (fun x hx => h x (List.mem_cons_of_mem _ hx)) (Down.row hr (h r List.mem_cons_self) _ s (fun x hx => by simpa using hx) D)
/-- nothing was changed: nothing was to be changed -/
theorem step_false {s : Tab × Bool} {l r : Nat} (h : (gStep rows s l r).2 = false) : s.2 = false ∧ gStep rows s l r = s ∧ (s.1 l r && !keepsT s.1 (rowAt rows l) (rowAt rows r)) = false := by
  unfold gStep at h ⊢
  split at h
  · cases h
  · rename_i c
    rw [if_neg c]
    exact ⟨h, rfl, by simpa using c⟩
theorem row_false {l : Nat} : ∀ (ls : List Nat) (s : Tab × Bool), (ls.foldl (fun s r => gStep rows s l r) s).2 = false → s.2 = false ∧ ls.foldl (fun s r => gStep rows s l r) s = s ∧ ∀ r ∈ ls, (s.1 l r && !keepsT s.1 (rowAt rows l) (rowAt rows r)) = false
  | [], s, h => ⟨h, rfl, fun _ z => by cases z⟩
  | r :: ls, s, h => by
    rw [List.foldl_cons] at h ⊢
    obtain ⟨h1, h2, h3⟩ := row_false ls _ h
    obtain ⟨g1, g2, g3⟩ := step_false h1
    rw [g2] at h2 h3 ⊢
    exact ⟨g1, h2, fun x hx => (List.mem_cons.mp hx).elim (fun e => by rw [e]; exact g3) (h3 x)⟩
theorem pass_false : ∀ (ls : List Nat) (s : Tab × Bool), (ls.foldl (gPassR rows) s).2 = false → s.2 = false ∧ ls.foldl (gPassR rows) s = s ∧ ∀ l ∈ ls, ∀ r < rows.length, (s.1 l r && !keepsT s.1 (rowAt rows l) (rowAt rows r)) = false
  | [], s, h => ⟨h, rfl, fun _ z => by cases z⟩
  | l :: ls, s, h => by
    rw [List.foldl_cons] at h ⊢
    obtain ⟨h1, h2, h3⟩ := pass_false ls _ h
    obtain ⟨g1, g2, g3⟩ := row_false _ _ h1
    have g2 : gPassR rows s l = s := g2
    rw [g2] at h2 h3 ⊢
    exact ⟨g1, h2, fun x hx => (List.mem_cons.mp hx).elim (fun e r hr => by rw [e]; exact g3 r (by simpa using hr)) (h3 x)⟩
theorem cnt_lt {n : Nat} {T T' : Tab} (h : ∀ a b, T' a b = true → T a b = true) (h2 : ∃ a b, a < n ∧ b < n ∧ T a b = true ∧ T' a b = false) : cnt n T' < cnt n T := by
  obtain ⟨a, b, ha, hb, h3, h4⟩ := h2
  exact countP_lt (fun x _ z => h _ _ z) ⟨(a, b), pairs_mem.mpr ⟨ha, hb⟩, h3, h4⟩
include hr hn in
theorem g_while : ∀ (k : Nat) (T : Tab), Above rows T → cnt rows.length T + 1 < k → ∃ T', Above rows T' ∧ Stable rows T' ∧ whGo [4, 5] (eTst (eVar 3)) b_good_pairs_3 k (gEnv rows (T, true) none) = .nx (gEnv rows (T', false) none) := by
  intro k
  induction k with
  | zero => intro T _ h; omega
  | succ k ih =>
    intro T A h
    have D : Down rows T (gPass rows (T, false)) := Down.all hr _ _ (fun x hx => by simpa using hx) ⟨A, fun _ _ z => z, fun _ => rfl, (fun z => nomatch z)⟩
    have e : whGo [4, 5] (eTst (eVar 3)) b_good_pairs_3 (k + 1) (gEnv rows (T, true) none) = whGo [4, 5] (eTst (eVar 3)) b_good_pairs_3 k (gEnv rows (gPass rows (T, false)) none) := by
      rw [whGo_true (by simp [gEnv]) (g_pass hr hn)]
      simp only [gEnv, wipeE_cons, wipeE_nil, List.set_cons_zero, List.set_cons_succ]
    rw [e]
    cases q : (gPass rows (T, false)).2 with
    | false =>
      obtain ⟨_, e2, e3⟩ := pass_false _ _ q
      have e2 : gPass rows (T, false) = (T, false) := e2
      rw [e2]
      refine ⟨T, A, fun a b ha hb h => ?_, ?_⟩
      · have := e3 a (by simpa using ha) b hb
        simpa [h] using this
      · obtain ⟨k, rfl⟩ : ∃ j, k = j + 1 := ⟨k - 1, by omega⟩
        exact whGo_false (by simp [gEnv])
    | true =>
      have lt := cnt_lt D.le (D.yes q)
      obtain ⟨T', A', S', e4⟩ := ih (gPass rows (T, false)).1 D.a (by omega)
      refine ⟨T', A', S', ?_⟩
      rw [← e4]
      rw [show ((gPass rows (T, false)).1, true) = gPass rows (T, false) by rw [← q]]
include hr hn in
theorem good_pairs_ok : ∃ T, Above rows T ∧ Stable rows T ∧ F_good_pairs [.lst (rowsP rows)] = .ok (.own (tabO rows.length T)) := by
  obtain ⟨T, A, S, e⟩ := g_while hr hn 1000 (T0 rows.length) Above.zero (by
    have := cnt_le (n := rows.length) (T := T0 rows.length)
    have h2 : rows.length * rows.length ≤ 12 * 12 := Nat.mul_le_mul hn hn
    omega)
  refine ⟨T, A, S, ?_⟩
  rw [F_good_pairs_at]
  unfold s_good_pairs
  have key : ∀ ρ : L3.Env, ρ = [some (.sh (.lst (rowsP rows))), some (.sh (.int rows.length)), none, none, none, none] → fLc (.nm 4) [4] (iRg rng1R (aCons (eBin pyAdd (eVar 1) (eCst (.int 1))) aNil)) tYesB c_good_pairs_2 ρ = .ok (.own (tabO rows.length (T0 rows.length))) := by
    rintro ρ rfl
    refine fLc_at (ps := rngP 0 (rows.length + 1)) (by simp (disch := walk_at "d")) (by (simp only [szl, rngP_length]; omega)) ?_
    rw [rngP_eq]
    refine lcGo_map (f := fun (k : Nat) => PV.int (0 + (k : Int))) _ fun a ha => ?_
    have ha : a < rows.length + 1 := by simpa using ha
    unfold c_good_pairs_2
    refine fLc_at (ps := rngP 0 (rows.length + 1)) (by simp (disch := walk_at "d")) (by (simp only [szl, rngP_length]; omega)) ?_
    rw [rngP_eq]
    refine lcGo_map (f := fun (k : Nat) => PV.int (0 + (k : Int))) _ fun b hb => ?_
    unfold c_good_pairs_1
    have e3 : decide ((b : Int) = (rows.length : Int)) = decide (b = rows.length) := decide_eq_decide.mpr (by omega)
    simp [T0, e3]
  have hlen : (rowsP rows).length = rows.length := by simp [rowsP]
  simp only [gEnv] at e
  simp [key, hlen, fuel_good_pairs, e]
end
end K03

/-! is_honest, _law_honest -/
namespace K03
open PySem L2 L3
local macro_rules | `(tactic| walk_at "d") => `(tactic| first | assumption | omega | (simp only [szl, List.length_map, List.length_append, List.length_cons, List.length_nil, List.length_range, List.length_replicate, rngP_length]; omega) | exact Eq.refl _ | (simp; done))
def Honest (rows : List (List Int)) : Prop := ∀ r ∈ rows, ∀ t < 9, Good rows (ent r t) (ent r (t + 1))
def honB (T : Tab) (rows : List (List Int)) : Bool := rows.all fun r => (List.range 9).all fun t => T (ent r t) (ent r (t + 1))
section
variable {rows : List (List Int)} (hr : ∀ r ∈ rows, RowOk rows.length r) (hn : rows.length ≤ 12)
include hr in
theorem honB_ok {T : Tab} (A : Above rows T) (S : Stable rows T) : honB T rows = true ↔ Honest rows := by
  unfold honB Honest
  rw [List.all_eq_true]
  constructor
  · intro h r hm t ht
    have h2 := List.all_eq_true.mp (h r hm) t (by simpa using ht)
    exact (stable_good A S ((hr r hm).ent_le (by omega)) ((hr r hm).ent_le (by omega))).mp h2
  · intro h r hm
    rw [List.all_eq_true]
    intro t ht
    have ht : t < 9 := by simpa using ht
    exact (stable_good A S ((hr r hm).ent_le (by omega)) ((hr r hm).ent_le (by omega))).mpr (h r hm t ht)
include hr hn in
theorem is_honest_ok : ∃ b, F_is_honest [.lst (rowsP rows)] = .ok (.sh (.bl b)) ∧ (b = true ↔ Honest rows) := by
  obtain ⟨T, A, S, e⟩ := good_pairs_ok hr hn
  refine ⟨honB T rows, ?_, honB_ok hr A S⟩
  have inner : ∀ r ∈ rows, forGo (.nm 3) [3] b_is_honest_1 (rngP 0 9) [some (.sh (.lst (rowsP rows))), some (.sh (.lst (tabP rows.length T))), some (.sh (.lst (r.map .int))), none] =
      if ((List.range 9).all fun t => T (ent r t) (ent r (t + 1))) = true then .nx [some (.sh (.lst (rowsP rows))), some (.sh (.lst (tabP rows.length T))), some (.sh (.lst (r.map .int))), none] else .rt (.sh (.bl false)) := by
    intro r hm
    rw [rngP_eq]
    have go : ∀ t ∈ List.range 9, ∃ x y, atI r (t : Int) = some x ∧ atI r ((t : Int) + 1) = some y ∧ 0 ≤ x ∧ x ≤ rows.length ∧ 0 ≤ y ∧ y ≤ rows.length ∧ ent r t = x.toNat ∧ ent r (t + 1) = y.toNat := by
      intro t ht
      have ht : t < 9 := by simpa using ht
      obtain ⟨x, e1, x0, x1, ex⟩ := (hr r hm).at (t := t) (by omega)
      obtain ⟨y, e2, y0, y1, ey⟩ := (hr r hm).at (t := t + 1) (by omega)
      exact ⟨x, y, e1, by rw [← e2]; rfl, x0, x1, y0, y1, ex, ey⟩
    refine forGo_all _ (fun t ht hg => .of ?_) fun t ht hg => ⟨_, rfl, ?_⟩
    · obtain ⟨x, y, e1, e2, x0, x1, y0, y1, ex, ey⟩ := go t ht
      rw [ex, ey] at hg
      unfold b_is_honest_1
      simp [e1, e2, tab_row x0 x1, tab_cell y0 y1, hg]
    · obtain ⟨x, y, e1, e2, x0, x1, y0, y1, ex, ey⟩ := go t ht
      rw [ex, ey] at hg
      unfold b_is_honest_1
      simp [e1, e2, tab_row x0 x1, tab_cell y0 y1, hg]
  rw [F_is_honest_at]
  unfold s_is_honest
  have outer : forGo (.nm 2) [2, 3] b_is_honest_2 (rowsP rows) [some (.sh (.lst (rowsP rows))), some (.sh (.lst (tabP rows.length T))), none, none] = if honB T rows = true then .nx [some (.sh (.lst (rowsP rows))), some (.sh (.lst (tabP rows.length T))), none, none] else .rt (.sh (.bl false)) := by
    unfold honB
    have : ∀ f : Nat → PV, ∀ ρ, forGo (.nm 2) [2, 3] b_is_honest_2 (rowsP rows) ρ = forGo (.nm 2) [2, 3] b_is_honest_2 (rows.map fun r => .lst (r.map .int)) ρ := fun _ _ => rfl
    rw [this fun _ => .non]
    refine forGo_all _ (fun r hm hg => .of ?_) fun r hm hg => ⟨_, rfl, ?_⟩
    · unfold b_is_honest_2
      have := inner r hm
      rw [if_pos hg] at this
      simp (disch := walk_at "d") [this]
    · unfold b_is_honest_2
      have := inner r hm
      rw [if_neg (by rw [hg]; exact Bool.false_ne_true)] at this
      simp (disch := walk_at "d") [this]
  simp [e, tab_pv, outer]
  cases honB T rows <;> simp
/-! the law's own -/
def bad (rows : List (List Int)) (T : Tab) (l r : Nat) : List (Nat × Nat) := if T l r = true then (List.range 10).flatMap fun t => if T (ent (rowAt rows l) t) (ent (rowAt rows r) t) = true then [] else [(l, r)] else []
def worse (rows : List (List Int)) (T : Tab) : List (Nat × Nat) := (List.range rows.length).flatMap fun l => (List.range rows.length).flatMap fun r => bad rows T l r
def pairP (p : Nat × Nat) : PV := .lst [.int p.1, .int p.2]
def hEnv (rows : List (List Int)) (T : Tab) (t : Option OV) (w : List (Nat × Nat)) (l r : Option OV) : L3.Env := [some (.sh (.lst (rowsP rows))), some (.sh (.int rows.length)), some (.own (tabO rows.length T)), t, some (.own (w.map fun p => .sh (pairP p))), l, r, none, none, none]
theorem foldl_app {α β : Type} {f : β → List α} : ∀ (l : List β) (w : List α), l.foldl (fun w x => w ++ f x) w = w ++ l.flatMap f
  | [], w => by simp
  | x :: l, w => by rw [List.foldl_cons, foldl_app l, List.flatMap_cons, List.append_assoc]
include hr in
theorem h_turn1 {T : Tab} {tt : Option OV} {w : List (Nat × Nat)} {l r t : Nat} (hl : l < rows.length) (hr' : r < rows.length) (ht : t < 10) (hw : w.length < 1000000) :
    Turn (.nm 7) [7] b_p_law_honest_1 (.int (0 + (t : Int))) (hEnv rows T tt w (some (.sh (.int l))) (some (.sh (.int r)))) (hEnv rows T tt (w ++ if T (ent (rowAt rows l) t) (ent (rowAt rows r) t) = true then [] else [(l, r)]) (some (.sh (.int l))) (some (.sh (.int r)))) := by
  refine .of ?_
  obtain ⟨x, e1, x0, x1, ex⟩ := (row_ok hr hl).at ht
  obtain ⟨y, e2, y0, y1, ey⟩ := (row_ok hr hr').at ht
  unfold b_p_law_honest_1 hEnv
  rw [ex, ey]
  cases h : T x.toNat y.toNat with
  | true => simp [tab_pv, row_at hl, row_at hr', e1, e2, tab_row x0 x1, tab_cell y0 y1, h]
  | false => simp (disch := walk_at "d") [tab_pv, row_at hl, row_at hr', e1, e2, tab_row x0 x1, tab_cell y0 y1, h, pairP]
theorem flat_len {α β : Type} {f : β → List α} {M : Nat} (h : ∀ x, (f x).length ≤ M) : ∀ l : List β, (l.flatMap f).length ≤ M * l.length
  | [] => by simp
  | x :: l => by
    rw [List.flatMap_cons, List.length_append, List.length_cons, Nat.mul_succ]
    have := flat_len h l
    have := h x
    omega
theorem bad_len {T : Tab} {l r : Nat} : (bad rows T l r).length ≤ 10 := by
  unfold bad
  split
  · have := flat_len (M := 1) (f := fun t => if T (ent (rowAt rows l) t) (ent (rowAt rows r) t) = true then [] else [(l, r)]) (fun t => by split <;> simp) (List.range 10)
    simpa using this
  · simp
include hr in
theorem h_turn2 {T : Tab} {tt : Option OV} {w : List (Nat × Nat)} {l r : Nat} (hl : l < rows.length) (hr' : r < rows.length) (hw : w.length < 900000) :
    Turn (.nm 6) [6, 7] b_p_law_honest_2 (.int (0 + (r : Int))) (hEnv rows T tt w (some (.sh (.int l))) none) (hEnv rows T tt (w ++ bad rows T l r) (some (.sh (.int l))) none) := by
  refine .of ?_
  have key := (forGo_foldN (T := .nm 7) (fg := [7]) (fb := b_p_law_honest_1) (f := fun (k : Nat) => PV.int (0 + (k : Int))) (fun w => hEnv rows T tt w (some (.sh (.int l))) (some (.sh (.int r)))) (fun w t => w ++ if T (ent (rowAt rows l) t) (ent (rowAt rows r) t) = true then [] else [(l, r)])
    (fun k b => b.length ≤ w.length + k ∧ k ≤ 10) (List.range 10) 0 w ⟨by omega, by omega⟩ fun j x b hx hb => by
      obtain ⟨hj, rfl⟩ := List.getElem?_eq_some_iff.mp hx
      simp only [List.length_range] at hj
      refine ⟨⟨?_, by omega⟩, ?_⟩
      · rw [List.length_append]
        split <;> simp <;> omega
      · exact h_turn1 hr hl hr' (by simpa using hj) (by omega)).1
  rw [foldl_app, ← rngP_eq] at key
  unfold b_p_law_honest_2
  have e2 := tab_cell (n := rows.length) (f := fun b => T l b) (b := r) (by omega) (by omega)
  have e1 := tab_row (n := rows.length) (T := T) (a := l) (by omega) (by omega)
  unfold bad
  simp only [hEnv] at key ⊢
  cases h : T l r with
  | true =>
    simp (disch := walk_at "d") [tab_pv, e1, e2, h, key]
  | false => simp [tab_pv, e1, e2, h]
theorem mul_le {a b : Nat} (ha : a ≤ 12) : b * a ≤ b * 12 := Nat.mul_le_mul_left b ha
include hr hn in
theorem h_turn3 {T : Tab} {tt : Option OV} {w : List (Nat × Nat)} {l : Nat} (hl : l < rows.length) (hw : w.length < 800000) :
    Turn (.nm 5) [5, 6, 7] b_p_law_honest_3 (.int (0 + (l : Int))) (hEnv rows T tt w none none) (hEnv rows T tt (w ++ (List.range rows.length).flatMap fun r => bad rows T l r) none none) := by
  refine .of ?_
  have key := (forGo_foldN (T := .nm 6) (fg := [6, 7]) (fb := b_p_law_honest_2) (f := fun (k : Nat) => PV.int (0 + (k : Int))) (fun w => hEnv rows T tt w (some (.sh (.int l))) none) (fun w r => w ++ bad rows T l r)
    (fun k b => b.length ≤ w.length + 10 * k ∧ k ≤ rows.length) (List.range rows.length) 0 w ⟨by omega, by omega⟩ fun j x b hx hb => by
      obtain ⟨hj, rfl⟩ := List.getElem?_eq_some_iff.mp hx
      simp only [List.length_range] at hj
      refine ⟨⟨?_, by omega⟩, ?_⟩
      · rw [List.length_append]
        have := bad_len (rows := rows) (T := T) (l := l) (r := (List.range rows.length)[j])
        omega
      · exact h_turn2 hr hl (by simpa using hj) (by omega)).1
  rw [foldl_app, ← rngP_eq] at key
  unfold b_p_law_honest_3
  simp only [hEnv] at key ⊢
  simp (disch := walk_at "d") [key]
include hr hn in
theorem h_find {T : Tab} {tt : Option OV} : forGo (.nm 5) [5, 6, 7] b_p_law_honest_3 (rngP 0 rows.length) (hEnv rows T tt [] none none) = .nx (hEnv rows T tt (worse rows T) none none) := by
  have key := (forGo_foldN (T := .nm 5) (fg := [5, 6, 7]) (fb := b_p_law_honest_3) (f := fun (k : Nat) => PV.int (0 + (k : Int))) (fun w => hEnv rows T tt w none none) (fun w l => w ++ (List.range rows.length).flatMap fun r => bad rows T l r)
    (fun k b => b.length ≤ 120 * k ∧ k ≤ rows.length) (List.range rows.length) 0 [] ⟨by simp, by omega⟩ fun j x b hx hb => by
      obtain ⟨hj, rfl⟩ := List.getElem?_eq_some_iff.mp hx
      simp only [List.length_range] at hj
      refine ⟨⟨?_, by omega⟩, ?_⟩
      · rw [List.length_append]
        have := flat_len (M := 10) (f := fun r => bad rows T (List.range rows.length)[j] r) (fun r => bad_len) (List.range rows.length)
        simp only [List.length_range] at this
        omega
      · exact h_turn3 hr hn (by simpa using hj) (by omega)).1
  rw [foldl_app, ← rngP_eq] at key
  exact key
theorem worse_mem {T : Tab} {l r : Nat} : (l, r) ∈ worse rows T ↔ l < rows.length ∧ r < rows.length ∧ T l r = true ∧ keepsT T (rowAt rows l) (rowAt rows r) = false := by
  unfold worse bad
  simp only [List.mem_flatMap, List.mem_range]
  constructor
  · rintro ⟨l', hl, r', hr', h⟩
    split at h
    · rename_i c
      obtain ⟨t, ht, h2⟩ := List.mem_flatMap.mp h
      split at h2
      · cases h2
      · rename_i c2
        have e := List.mem_singleton.mp h2
        cases e
        exact ⟨hl, hr', c, List.all_eq_false.mpr ⟨t, ht, c2⟩⟩
    · cases h
  · rintro ⟨hl, hr', c, h⟩
    obtain ⟨t, ht, c2⟩ := List.all_eq_false.mp h
    refine ⟨l, hl, r, hr', ?_⟩
    rw [if_pos c]
    exact List.mem_flatMap.mpr ⟨t, ht, by rw [if_neg c2]; exact List.mem_singleton.mpr rfl⟩
def updAll (T : Tab) (w : List (Nat × Nat)) : Tab := w.foldl (fun T p => updT T p.1 p.2) T
theorem updAll_at : ∀ (w : List (Nat × Nat)) (T : Tab) (a b : Nat), updAll T w a b = (T a b && !decide ((a, b) ∈ w))
  | [], T, a, b => by simp [updAll]
  | p :: w, T, a, b => by
    show updAll (updT T p.1 p.2) w a b = _
    rw [updAll_at w]
    obtain ⟨x, y⟩ := p
    unfold updT
    by_cases h : a = x ∧ b = y
    · simp [h]
    · rw [if_neg h]
      have : ((a, b) ∈ (x, y) :: w) ↔ (a, b) ∈ w := by
        rw [List.mem_cons, Prod.mk.injEq]
        exact ⟨fun z => z.elim (fun z => absurd z h) id, .inr⟩
      simp [this]
theorem h_set {T : Tab} {tt : Option OV} {wv : OV} : ∀ (w : List (Nat × Nat)), (∀ p ∈ w, p.1 ≤ rows.length ∧ p.2 ≤ rows.length) → forGo (.nm 8) [8] b_p_law_honest_4 (w.map pairP) [some (.sh (.lst (rowsP rows))), some (.sh (.int rows.length)), some (.own (tabO rows.length T)), tt, some wv, none, none, none, none, none] =
    .nx [some (.sh (.lst (rowsP rows))), some (.sh (.int rows.length)), some (.own (tabO rows.length (updAll T w))), tt, some wv, none, none, none, none, none] := fun w hw =>
  (forGo_fold (T := .nm 8) (fg := [8]) (fb := b_p_law_honest_4) (f := pairP) (fun T => [some (.sh (.lst (rowsP rows))), some (.sh (.int rows.length)), some (.own (tabO rows.length T)), tt, some wv, none, none, none, none, none]) (fun T p => updT T p.1 p.2) (fun _ => True) w T trivial fun p hp T _ => ⟨trivial, by
    obtain ⟨l, r⟩ := p
    obtain ⟨hl, hr'⟩ := hw _ hp
    dsimp only at hl hr'
    refine .of ?_
    have hlen : (tabO rows.length T).length = rows.length + 1 := by simp [tabO]
    have e5 : ∀ h : l < (tabO rows.length T).length, (tabO rows.length T)[l]'h = .own ((List.range (rows.length + 1)).map fun b => .sh (.bl (T l b))) := fun h => by simp [tabO]
    have e4 := tab_set (T := T) (n := rows.length) (l := l) (r := r) (by omega) (by omega)
    unfold b_p_law_honest_4 pairP
    simp (disch := first | (simp only [hlen, List.length_map, List.length_range]; omega) | walk_at "d") [e5, hlen, e4]⟩).1
def hNext (rows : List (List Int)) (T : Tab) : Tab := updAll T (worse rows T)
include hr in
theorem Above.all : ∀ (w : List (Nat × Nat)) {T : Tab} (T' : Tab), Above rows T' → Above rows T → (∀ p ∈ w, p.1 < rows.length ∧ p.2 < rows.length ∧ keepsT T (rowAt rows p.1) (rowAt rows p.2) = false) → Above rows (updAll T' w)
  | w, T, T', A', A, h => by
    refine ⟨fun a b ha hb q => A'.le a b ha hb ?_, fun a b ha hb g => ?_⟩
    · rw [updAll_at] at q
      exact (Bool.and_eq_true_iff.mp q).1
    · rw [updAll_at, A'.ge a b ha hb g, Bool.true_and, Bool.not_eq_true', decide_eq_false_iff_not]
      intro hm
      obtain ⟨h1, h2, h3⟩ := h _ hm
      have A2 := A.upd hr h1 h2 h3
      have := A2.ge a b ha hb g
      simp [updT] at this
include hr hn in
/-- the rounds of the law -/
theorem h_rounds : ∀ (ps : List PV) (T : Tab), Above rows T → cnt rows.length T < ps.length → ∃ T' tt ww, Above rows T' ∧ Stable rows T' ∧ forGo (.nm 3) [3, 4, 5, 6, 7, 8] b_p_law_honest_5 ps [some (.sh (.lst (rowsP rows))), some (.sh (.int rows.length)), some (.own (tabO rows.length T)), none, none, none, none, none, none, none] =
    .nx [some (.sh (.lst (rowsP rows))), some (.sh (.int rows.length)), some (.own (tabO rows.length T')), tt, ww, none, none, none, none, none] := by
  intro ps
  induction ps with
  | nil => intro T _ h; simp at h
  | cons p ps ih =>
    intro T A h
    have find := h_find hr hn (T := T) (tt := some (.sh p))
    simp only [hEnv, List.map_nil] at find
    have hw : ∀ q ∈ worse rows T, q.1 < rows.length ∧ q.2 < rows.length ∧ keepsT T (rowAt rows q.1) (rowAt rows q.2) = false := fun q hq => by
      obtain ⟨l, r⟩ := q
      obtain ⟨h1, h2, _, h4⟩ := worse_mem.mp hq
      exact ⟨h1, h2, h4⟩
    cases hc : worse rows T with
    | nil =>
      refine ⟨T, none, none, A, fun a b ha hb hT => ?_, ?_⟩
      · cases hk : keepsT T (rowAt rows a) (rowAt rows b) with
        | true => rfl
        | false =>
          have := worse_mem.mpr ⟨ha, hb, hT, hk⟩
          rw [hc] at this
          cases this
      · refine forGo_cons_bk (ρ1 := [some (.sh (.lst (rowsP rows))), some (.sh (.int rows.length)), some (.own (tabO rows.length T)), some (.sh p), none, none, none, none, none, none]) (ρ2 := [some (.sh (.lst (rowsP rows))), some (.sh (.int rows.length)), some (.own (tabO rows.length T)), some (.sh p), some (.own []), none, none, none, none, none]) rfl ?_
        unfold b_p_law_honest_5
        rw [hc] at find
        simp only [List.map_nil] at find
        simp (disch := walk_at "d") [find]
    | cons q w =>
      have lt : cnt rows.length (hNext rows T) < cnt rows.length T := by
        obtain ⟨l, r⟩ := q
        have hm : (l, r) ∈ worse rows T := by rw [hc]; exact List.mem_cons_self
        obtain ⟨h1, h2, h3, _⟩ := worse_mem.mp hm
        refine cnt_lt (fun a b z => ?_) ⟨l, r, h1, h2, h3, ?_⟩
        · unfold hNext at z
          rw [updAll_at] at z
          exact (Bool.and_eq_true_iff.mp z).1
        · unfold hNext
          rw [updAll_at]
          simp [hm]
      have A2 : Above rows (hNext rows T) := Above.all hr _ _ A A hw
      obtain ⟨T', tt, ww, A', S', e⟩ := ih (hNext rows T) A2 (by simp at h; omega)
      refine ⟨T', tt, ww, A', S', ?_⟩
      rw [← e]
      refine Turn.go (.of ?_)
      have set := h_set (rows := rows) (T := T) (tt := some (.sh p)) (wv := .sh (.lst ((worse rows T).map pairP))) (worse rows T) fun q hq => ⟨by have := (hw q hq).1; omega, by have := (hw q hq).2.1; omega⟩
      unfold b_p_law_honest_5
      have ne : (worse rows T).length ≠ 0 := by rw [hc]; simp
      have ne' : worse rows T ≠ [] := by rw [hc]; simp
      simp (disch := walk_at "d") [find, set, ne, ne', hNext]
include hr hn in
theorem law_honest_ok : ∃ b, F_p_law_honest [.lst (rowsP rows)] = .ok (.sh (.bl b)) ∧ (b = true ↔ Honest rows) := by
  have hc : cnt rows.length (T0 rows.length) < (rngP 0 ((rows.length + 1) * (rows.length + 1) + 1)).length := by
    have := cnt_le (n := rows.length) (T := T0 rows.length)
    rw [rngP_length, Nat.add_mul, Nat.mul_add]
    omega
  obtain ⟨T, tt, ww, A, S, e⟩ := h_rounds hr hn _ (T0 rows.length) Above.zero hc
  refine ⟨honB T rows, ?_, honB_ok hr A S⟩
  have inner : ∀ r ∈ rows, forGo (.nm 7) [7] b_p_law_honest_6 (rngP 0 9) [some (.sh (.lst (rowsP rows))), some (.sh (.int rows.length)), some (.own (tabO rows.length T)), tt, ww, none, none, none, none, some (.sh (.lst (r.map .int)))] =
      if ((List.range 9).all fun t => T (ent r t) (ent r (t + 1))) = true then .nx [some (.sh (.lst (rowsP rows))), some (.sh (.int rows.length)), some (.own (tabO rows.length T)), tt, ww, none, none, none, none, some (.sh (.lst (r.map .int)))] else .rt (.sh (.bl false)) := by
    intro r hm
    rw [rngP_eq]
    have go : ∀ t ∈ List.range 9, ∃ x y, atI r (t : Int) = some x ∧ atI r ((t : Int) + 1) = some y ∧ 0 ≤ x ∧ x ≤ rows.length ∧ 0 ≤ y ∧ y ≤ rows.length ∧ ent r t = x.toNat ∧ ent r (t + 1) = y.toNat := by
      intro t ht
      have ht : t < 9 := by simpa using ht
      obtain ⟨x, e1, x0, x1, ex⟩ := (hr r hm).at (t := t) (by omega)
      obtain ⟨y, e2, y0, y1, ey⟩ := (hr r hm).at (t := t + 1) (by omega)
      exact ⟨x, y, e1, by rw [← e2]; rfl, x0, x1, y0, y1, ex, ey⟩
    refine forGo_all _ (fun t ht hg => .of ?_) fun t ht hg => ⟨_, rfl, ?_⟩
    · obtain ⟨x, y, e1, e2, x0, x1, y0, y1, ex, ey⟩ := go t ht
      rw [ex, ey] at hg
      unfold b_p_law_honest_6
      simp [e1, e2, tab_pv, tab_row x0 x1, tab_cell y0 y1, hg]
    · obtain ⟨x, y, e1, e2, x0, x1, y0, y1, ex, ey⟩ := go t ht
      rw [ex, ey] at hg
      unfold b_p_law_honest_6
      simp [e1, e2, tab_pv, tab_row x0 x1, tab_cell y0 y1, hg]
  have outer : forGo (.nm 9) [7, 9] b_p_law_honest_7 (rowsP rows) [some (.sh (.lst (rowsP rows))), some (.sh (.int rows.length)), some (.own (tabO rows.length T)), tt, ww, none, none, none, none, none] = if honB T rows = true then .nx [some (.sh (.lst (rowsP rows))), some (.sh (.int rows.length)), some (.own (tabO rows.length T)), tt, ww, none, none, none, none, none] else .rt (.sh (.bl false)) := by
    unfold honB
    have : ∀ ρ, forGo (.nm 9) [7, 9] b_p_law_honest_7 (rowsP rows) ρ = forGo (.nm 9) [7, 9] b_p_law_honest_7 (rows.map fun r => .lst (r.map .int)) ρ := fun _ => rfl
    rw [this]
    refine forGo_all _ (fun r hm hg => .of ?_) fun r hm hg => ⟨_, rfl, ?_⟩
    · unfold b_p_law_honest_7
      have := inner r hm
      rw [if_pos hg] at this
      simp (disch := walk_at "d") [this]
    · unfold b_p_law_honest_7
      have := inner r hm
      rw [if_neg (by rw [hg]; exact Bool.false_ne_true)] at this
      simp (disch := walk_at "d") [this]
  rw [F_p_law_honest_at]
  unfold s_p_law_honest
  have key : ∀ ρ : L3.Env, ρ = [some (.sh (.lst (rowsP rows))), some (.sh (.int rows.length)), none, none, none, none, none, none, none, none] → fLc (.nm 5) [5] (iRg rng1R (aCons (eBin pyAdd (eVar 1) (eCst (.int 1))) aNil)) tYesB c_p_law_honest_2 ρ = .ok (.own (tabO rows.length (T0 rows.length))) := by
    rintro ρ rfl
    refine fLc_at (ps := rngP 0 (rows.length + 1)) (by simp (disch := walk_at "d")) (by (simp only [szl, rngP_length]; omega)) ?_
    rw [rngP_eq]
    refine lcGo_map (f := fun (k : Nat) => PV.int (0 + (k : Int))) _ fun a ha => ?_
    have ha : a < rows.length + 1 := by simpa using ha
    unfold c_p_law_honest_2
    refine fLc_at (ps := rngP 0 (rows.length + 1)) (by simp (disch := walk_at "d")) (by (simp only [szl, rngP_length]; omega)) ?_
    rw [rngP_eq]
    refine lcGo_map (f := fun (k : Nat) => PV.int (0 + (k : Int))) _ fun b hb => ?_
    unfold c_p_law_honest_1
    have e3 : decide ((b : Int) = (rows.length : Int)) = decide (b = rows.length) := decide_eq_decide.mpr (by omega)
    simp [T0, e3]
  have hlen : (rowsP rows).length = rows.length := by simp [rowsP]
  have hrng : rng1R [.int (((rows.length : Int) + 1) * ((rows.length : Int) + 1) + 1)] = .ok (rngP 0 ((rows.length + 1) * (rows.length + 1) + 1)) := by
    have e1 : ((rows.length : Int) + 1) * ((rows.length : Int) + 1) + 1 = (((rows.length + 1) * (rows.length + 1) + 1 : Nat) : Int) := by simp
    rw [e1, rng1_int]
    · rfl
    · have : (rows.length + 1) * (rows.length + 1) ≤ 13 * 13 := Nat.mul_le_mul (by omega) (by omega)
      omega
  simp (disch := walk_at "d") [key, hlen, hrng, e, outer]
  cases honB T rows <;> simp
end
end K03

/-! a book is made -/
namespace K03
open PySem L2 L3
local macro_rules | `(tactic| walk_at "d") => `(tactic| first | assumption | omega | (simp only [szl, List.length_map, List.length_append, List.length_cons, List.length_nil, List.length_range, List.length_replicate, rngP_length]; omega) | exact Eq.refl _ | (simp; done) | decide)
def stgP (ss : List (Int × Int)) : List PV := ss.map fun s => .tup [.int s.1, .int s.2]
def stgOk (s : Int × Int) : Bool := !(decide (s.1 < 1) || (decide (6 < s.1) || (decide (s.2 < 0) || decide (60 < s.2))))
def stOk (ss : List (Int × Int)) : Bool := decide (ss.length ≤ 3) && ss.all stgOk
theorem stages_fit_ok {ss : List (Int × Int)} {S : PV} (hS : S = .lst (stgP ss) ∨ S = .tup (stgP ss)) : F_stages_fit [S] = .ok (.sh (.bl (stOk ss))) := by
  have loop : forGo (.tp [1, 2]) [1, 2] b_stages_fit_1 (stgP ss) [some (.sh S), none, none] = if ss.all stgOk = true then .nx [some (.sh S), none, none] else .rt (.sh (.bl false)) := by
    unfold stgP
    refine forGo_all ss (fun s _ hg => .ofT (tgS_tup rfl) ?_) fun s _ hg => ⟨_, tgS_tup rfl, ?_⟩
    · unfold b_stages_fit_1
      unfold stgOk at hg
      rw [Bool.not_eq_true'] at hg
      simp [hg]
    · unfold b_stages_fit_1
      unfold stgOk at hg
      rw [Bool.not_eq_false'] at hg
      simp [hg]
  have hl : (stgP ss).length = ss.length := by simp [stgP]
  rw [F_stages_fit_at]
  unfold s_stages_fit stOk
  by_cases h : ss.length ≤ 3
  · have h2 : ¬ (3 : Int) < ss.length := by omega
    rcases hS with rfl | rfl <;> simp [hl, h, h2, loop] <;> cases ss.all stgOk <;> simp
  · have h2 : (3 : Int) < ss.length := by omega
    rcases hS with rfl | rfl <;> simp [hl, h, h2]
theorem minL_ge {n : Int} : ∀ {l : List Int}, l ≠ [] → (n ≤ minL l ↔ ∀ x ∈ l, n ≤ x)
  | [], h => absurd rfl h
  | [a], _ => by simp [minL]
  | a :: b :: l, _ => by
    have := minL_ge (n := n) (l := b :: l) (by simp)
    rw [minL, List.forall_mem_cons, ← this]
    · omega
    · simp
theorem maxL_le {n : Int} : ∀ {l : List Int}, l ≠ [] → (maxL l ≤ n ↔ ∀ x ∈ l, x ≤ n)
  | [], h => absurd rfl h
  | [a], _ => by simp [maxL]
  | a :: b :: l, _ => by
    have := maxL_le (n := n) (l := b :: l) (by simp)
    rw [maxL, List.forall_mem_cons, ← this]
    · omega
    · simp
theorem bMin_ok {l : List Int} (h : l ≠ []) : bMin [.lst (l.map .int)] = .ok (.int (minL l)) := by
  have e : toInts (l.map PV.int) = some l := by simpa using toInts_map (f := fun x : Int => x) (l := l)
  cases l with
  | nil => exact absurd rfl h
  | cons a l => simp only [bMin, e]
theorem bMax_ok {l : List Int} (h : l ≠ []) : bMax [.lst (l.map .int)] = .ok (.int (maxL l)) := by
  have e : toInts (l.map PV.int) = some l := by simpa using toInts_map (f := fun x : Int => x) (l := l)
  cases l with
  | nil => exact absurd rfl h
  | cons a l => simp only [bMax, e]
def rowB (n : Nat) (r : List Int) : Bool := !(!decide (r.length = 10) || (decide (minL r < 0) || decide ((n : Int) < maxL r)))
theorem rowB_ok {n : Nat} {r : List Int} : rowB n r = true ↔ RowOk n r := by
  unfold rowB RowOk
  by_cases h : r.length = 10
  · have ne : r ≠ [] := by intro z; rw [z] at h; simp at h
    have h1 := minL_ge (n := 0) ne
    have h2 := maxL_le (n := n) ne
    simp only [h, decide_true, Bool.not_true, Bool.false_or, Bool.not_eq_true', Bool.or_eq_false_iff, decide_eq_false_iff_not, true_and]
    rw [show (¬ minL r < 0) ↔ 0 ≤ minL r by omega, show (¬ (n : Int) < maxL r) ↔ maxL r ≤ n by omega, h1, h2]
    exact ⟨fun ⟨a, b⟩ x hx => ⟨a x hx, b x hx⟩, fun z => ⟨fun x hx => (z x hx).1, fun x hx => (z x hx).2⟩⟩
  · simp [h]
structure OtOk (rows : List (List Int)) : Prop where
  n : rows.length ≤ 12
  r : ∀ r ∈ rows, RowOk rows.length r
  h : Honest rows
theorem overtime_fits_ok {rows : List (List Int)} : ∃ b, F_overtime_fits [.lst (rowsP rows)] = .ok (.sh (.bl b)) ∧ (b = true ↔ OtOk rows) := by
  have hl : (rowsP rows).length = rows.length := by simp [rowsP]
  have loop : forGo (.nm 1) [1] b_overtime_fits_1 (rowsP rows) [some (.sh (.lst (rowsP rows))), none] = if rows.all (rowB rows.length) = true then .nx [some (.sh (.lst (rowsP rows))), none] else .rt (.sh (.bl false)) := by
    have : ∀ ρ, forGo (.nm 1) [1] b_overtime_fits_1 (rowsP rows) ρ = forGo (.nm 1) [1] b_overtime_fits_1 (rows.map fun r => .lst (r.map .int)) ρ := fun _ => rfl
    rw [this]
    refine forGo_all rows (fun r _ hg => .of ?_) fun r _ hg => ⟨_, rfl, ?_⟩
    · unfold b_overtime_fits_1
      unfold rowB at hg
      rw [Bool.not_eq_true'] at hg
      by_cases h : r.length = 10
      · have ne : r ≠ [] := by intro z; rw [z] at h; simp at h
        have h' : ((r.length : Int) = 10) := by omega
        simp only [h, decide_true, Bool.not_true, Bool.false_or] at hg
        simp [hl, h', bMin_ok ne, bMax_ok ne, hg]
      · simp [h] at hg
    · unfold b_overtime_fits_1
      unfold rowB at hg
      rw [Bool.not_eq_false'] at hg
      by_cases h : r.length = 10
      · have ne : r ≠ [] := by intro z; rw [z] at h; simp at h
        have h' : ((r.length : Int) = 10) := by omega
        simp only [h, decide_true, Bool.not_true, Bool.false_or] at hg
        simp [hl, h', bMin_ok ne, bMax_ok ne, hg]
      · have h' : ¬ ((r.length : Int) = 10) := by omega
        simp [h']
  by_cases hn : rows.length ≤ 12
  · have hn2 : ¬ (12 : Int) < rows.length := by omega
    cases hb : rows.all (rowB rows.length) with
    | false =>
      refine ⟨false, ?_, ?_⟩
      · rw [F_overtime_fits_at]
        unfold s_overtime_fits
        rw [hb] at loop
        simp at loop
        simp [hl, hn2, loop]
      · simp only [Bool.false_eq_true, false_iff]
        intro z
        have : rows.all (rowB rows.length) = true := List.all_eq_true.mpr fun r hr => rowB_ok.mpr (z.r r hr)
        rw [hb] at this
        cases this
    | true =>
      have hr : ∀ r ∈ rows, RowOk rows.length r := fun r hr => rowB_ok.mp (List.all_eq_true.mp hb r hr)
      obtain ⟨b, e, hb2⟩ := is_honest_ok hr hn
      refine ⟨b, ?_, hb2.trans ⟨fun z => ⟨hn, hr, z⟩, fun z => z.h⟩⟩
      rw [F_overtime_fits_at]
      unfold s_overtime_fits
      rw [hb] at loop
      simp at loop
      simp [hl, hn2, loop, e]
  · refine ⟨false, ?_, ?_⟩
    · have hn2 : (12 : Int) < rows.length := by omega
      rw [F_overtime_fits_at]
      unfold s_overtime_fits
      simp [hl, hn2]
    · simp only [Bool.false_eq_true, false_iff]
      exact fun z => hn z.n
/-! the book -/
def rowsT (rows : List (List Int)) : List PV := rows.map fun r => .tup (r.map .int)
def bookO (k : Str) (a : Int) (ss : List (Int × Int)) (rows : List (List Int)) : List (Str × OV) := [("kind", .sh (.str k)), ("allowance", .sh (.int a)), ("stages", .sh (.tup (stgP ss))), ("overtime", .sh (.tup (rowsT rows)))]
def bookF (k : Str) (a : Int) (ss : List (Int × Int)) (rows : List (List Int)) : List (Str × PV) := [("kind", .str k), ("allowance", .int a), ("stages", .tup (stgP ss)), ("overtime", .tup (rowsT rows))]
def bookP (k : Str) (a : Int) (ss : List (Int × Int)) (rows : List (List Int)) : PV := .ins 4 (bookF k a ss rows)
section
variable {k : Str} {a : Int} {ss : List (Int × Int)} {rows : List (List Int)}
theorem pvf_book : OV.pvf (bookO k a ss rows) = bookF k a ss rows := by simp [bookO, bookF]
theorem flat_book : OV.flatf (bookO k a ss rows) = true := by
  simp only [bookO, ovflatf_cons, ovflatf_nil, ovflat_sh, pvflat_str, pvflat_int, pvflat_tup, Bool.true_and, Bool.and_true, Bool.and_eq_true]
  refine ⟨pvflats_map fun s _ => by simp, pvflats_map fun r _ => ?_⟩
  rw [pvflat_tup]
  exact pvflats_map fun x _ => by simp
@[simp] theorem lk_kind : List.lookup ("kind" : Str) (bookF k a ss rows) = some (.str k) := nr (by kernel_rfl)
@[simp] theorem lk_allowance : List.lookup ("allowance" : Str) (bookF k a ss rows) = some (.int a) := nr (by kernel_rfl)
@[simp] theorem lk_stages : List.lookup ("stages" : Str) (bookF k a ss rows) = some (.tup (stgP ss)) := nr (by kernel_rfl)
@[simp] theorem lk_overtime : List.lookup ("overtime" : Str) (bookF k a ss rows) = some (.tup (rowsT rows)) := nr (by kernel_rfl)
@[simp] theorem lk_stage_phase : List.lookup ("stage_phase" : Str) (bookF k a ss rows) = none := nr (by kernel_rfl)
@[simp] theorem lk_phases : List.lookup ("phases" : Str) (bookF k a ss rows) = none := nr (by kernel_rfl)
@[simp] theorem lk_moved : List.lookup ("moved" : Str) (bookF k a ss rows) = none := nr (by kernel_rfl)
@[simp] theorem lk_opening : List.lookup ("opening" : Str) (bookF k a ss rows) = none := nr (by kernel_rfl)
@[simp] theorem lk_charge : List.lookup ("charge" : Str) (bookF k a ss rows) = none := nr (by kernel_rfl)
@[simp] theorem lk_overtime_step : List.lookup ("overtime_step" : Str) (bookF k a ss rows) = none := nr (by kernel_rfl)
def kinds : List Str := ["plain", "delay", "bonus"]
theorem in_kinds : pyIn true (.str k) (.tup [.str "plain", .str "delay", .str "bonus"]) = .ok (.bl (!decide (k ∈ kinds))) := by
  rw [in_flat (by rfl) (by simp [noBl]) (by simp [flatP]) (by simp [noBls, noBl])]
  simp [kinds]
def badP (w : Str) : PX := ⟨2, [("part", .str w)]⟩
theorem book_kind {S O A : PV} (h : k ∉ kinds) : F_Book_init [.str k, A, S, O] = .er (badP "kind") := by
  rw [F_Book_init_at]
  unfold s_Book_init
  simp [in_kinds, h, badP]
theorem book_allowance {S O : PV} (h : k ∈ kinds) (ha : a < 0 ∨ 9 < a ∨ (k = "plain" ∧ 0 < a)) : F_Book_init [.str k, .int a, S, O] = .er (badP "allowance") := by
  have e : (decide (a < 0) || (decide (9 < a) || (decide (k = "plain") && decide (0 < a)))) = true := by
    simp only [Bool.or_eq_true, Bool.and_eq_true, decide_eq_true_eq]
    exact ha
  rw [F_Book_init_at]
  unfold s_Book_init
  simp [in_kinds, h, e, badP]
theorem book_stages {S O : PV} (hS : S = .lst (stgP ss) ∨ S = .tup (stgP ss)) (h : k ∈ kinds) (ha : ¬ (a < 0 ∨ 9 < a ∨ (k = "plain" ∧ 0 < a))) (hs : stOk ss = false) : F_Book_init [.str k, .int a, S, O] = .er (badP "stages") := by
  have e : (decide (a < 0) || (decide (9 < a) || (decide (k = "plain") && decide (0 < a)))) = false := by
    rw [← Bool.not_eq_true]
    simp only [Bool.or_eq_true, Bool.and_eq_true, decide_eq_true_eq]
    exact ha
  rw [F_Book_init_at]
  unfold s_Book_init
  simp [in_kinds, h, e, badP, stages_fit_ok hS, hs]
theorem book_overtime {S : PV} (hS : S = .lst (stgP ss) ∨ S = .tup (stgP ss)) (h : k ∈ kinds) (ha : ¬ (a < 0 ∨ 9 < a ∨ (k = "plain" ∧ 0 < a))) (hs : stOk ss = true) (ho : ¬ OtOk rows) : F_Book_init [.str k, .int a, S, .lst (rowsP rows)] = .er (badP "overtime") := by
  have e : (decide (a < 0) || (decide (9 < a) || (decide (k = "plain") && decide (0 < a)))) = false := by
    rw [← Bool.not_eq_true]
    simp only [Bool.or_eq_true, Bool.and_eq_true, decide_eq_true_eq]
    exact ha
  obtain ⟨b, eb, hb⟩ := overtime_fits_ok (rows := rows)
  have hb : b = false := by rw [← Bool.not_eq_true, hb]; exact ho
  subst hb
  rw [F_Book_init_at]
  unfold s_Book_init
  simp [in_kinds, h, e, badP, stages_fit_ok hS, hs, eb]
theorem book_ok {S : PV} (hS : S = .lst (stgP ss) ∨ S = .tup (stgP ss)) (h : k ∈ kinds) (ha : ¬ (a < 0 ∨ 9 < a ∨ (k = "plain" ∧ 0 < a))) (hs : stOk ss = true) (ho : OtOk rows) : F_Book_init [.str k, .int a, S, .lst (rowsP rows)] = .ok (bookO k a ss rows) := by
  have e : (decide (a < 0) || (decide (9 < a) || (decide (k = "plain") && decide (0 < a)))) = false := by
    rw [← Bool.not_eq_true]
    simp only [Bool.or_eq_true, Bool.and_eq_true, decide_eq_true_eq]
    exact ha
  obtain ⟨b, eb, hb⟩ := overtime_fits_ok (rows := rows)
  have hb : b = true := hb.mpr ho
  subst hb
  have hss : ss.length ≤ 3 := by
    unfold stOk at hs
    simp only [Bool.and_eq_true, decide_eq_true_eq] at hs
    exact hs.1
  have lc1 : ∀ ρ : L3.Env, fLc (.nm 5) [5] (iSeq (eVar 3)) tYesB c_Book_init_1 (some (.obj 4 [("kind", .sh (.str k)), ("allowance", .sh (.int a))]) :: some (.sh (.str k)) :: some (.sh (.int a)) :: some (.sh S) :: some (.sh (.lst (rowsP rows))) :: none :: none :: ρ) = .ok (.own (ss.map fun s => .sh (.tup [.int s.1, .int s.2]))) := by
    intro ρ
    refine fLc_at (ps := stgP ss) (by rcases hS with rfl | rfl <;> simp) (by simp [stgP, szl]; omega) ?_
    exact lcGo_map (f := fun s : Int × Int => PV.tup [.int s.1, .int s.2]) ss fun s _ => by
      unfold c_Book_init_1
      simp
  have lc2 : ∀ ρ : L3.Env, fLc (.nm 6) [6] (iSeq (eVar 4)) tYesB c_Book_init_2 (some (.obj 4 [("kind", .sh (.str k)), ("allowance", .sh (.int a)), ("stages", .sh (.tup (stgP ss)))]) :: some (.sh (.str k)) :: some (.sh (.int a)) :: some (.sh S) :: some (.sh (.lst (rowsP rows))) :: none :: none :: ρ) = .ok (.own (rows.map fun r => .sh (.tup (r.map .int)))) := by
    intro ρ
    refine fLc_at (ps := rowsP rows) (by simp) (by have := ho.n; simp [rowsP, szl]; omega) ?_
    exact lcGo_map (f := fun r : List Int => PV.lst (r.map .int)) rows fun s _ => by
      unfold c_Book_init_2
      simp
  rw [F_Book_init_at]
  unfold s_Book_init
  simp (disch := walk_at "d") [in_kinds, h, e, badP, stages_fit_ok hS, hs, eb, lc1]
  rw [show (List.map (fun x : Int × Int => PV.tup [.int x.1, .int x.2]) ss) = stgP ss from rfl]
  simp (disch := walk_at "d") [lc2]
  rfl
end
end K03

/-! a book's methods -/
namespace K03
open PySem L2 L3
local macro_rules | `(tactic| walk_at "d") => `(tactic| first | assumption | omega | (simp only [szl, List.length_map, List.length_append, List.length_cons, List.length_nil, List.length_range, List.length_replicate, rngP_length]; omega) | exact Eq.refl _ | (simp; done) | decide)
section
variable {k : Str} {a : Int} {ss : List (Int × Int)} {rows : List (List Int)}
def up0 (x : Int) : Int := if x > 0 then x else 0
def chg (k : Str) (a n d : Int) : Int × Int := if k = "delay" then (up0 (n - a), up0 (d - a)) else if k = "bonus" then (n, up0 (d - a)) else (n, d)
theorem charge_ok {n d : Int} : F_Book_charge [bookP k a ss rows, .int n, .int d] = .ok (.sh (.tup [.int (chg k a n d).1, .int (chg k a n d).2])) := by
  rw [F_Book_charge_at]
  unfold s_Book_charge bookP chg
  by_cases h : k = "delay"
  · simp (disch := walk_at "d") [h, up0]
  · by_cases h2 : k = "bonus"
    · have h3 : ¬ (("bonus" : Str) = "delay") := by decide
      simp (disch := walk_at "d") [h2, h3, up0]
    · simp (disch := walk_at "d") [h, h2]
def stAt (ss : List (Int × Int)) (i : Nat) : Int × Int := ss.getD i (0, 0)
theorem stAt_of {i : Nat} (h : i < ss.length) : stAt ss i = ss[i] := getD_of h
def stgOf (s : Int × Int) : PV := .tup [.int s.1, .int s.2]
theorem stg_len : (stgP ss).length = ss.length := by simp [stgP]
theorem stg_at {i : Nat} (h : i < ss.length) : atI (stgP ss) (i : Int) = some (stgOf (stAt ss i)) := by
  unfold stgP
  rw [atI_map, atI_getD (d := (0, 0)) h]
  rfl
def stPh (ss : List (Int × Int)) (i : Nat) : Int × Int := if i < ss.length then (i, (stAt ss i).1) else (i, 0)
def pairT (p : Int × Int) : PV := .tup [.int p.1, .int p.2]
theorem stage_phase_ok {i : Nat} {x : Int} (hx : x = i) : F_Book_stage_phase [bookP k a ss rows, .int x] = .ok (.sh (pairT (stPh ss i))) := by
  subst hx
  rw [F_Book_stage_phase_at]
  unfold s_Book_stage_phase bookP stPh pairT
  by_cases h : i < ss.length
  · simp (disch := walk_at "d") [h, stg_len, stg_at h, stgOf]
  · simp (disch := walk_at "d") [h, stg_len]
theorem opening_ok : F_Book_opening [bookP k a ss rows] = .ok (.sh (pairT (stPh ss 0))) := by
  rw [F_Book_opening_at]
  unfold s_Book_opening
  have := stage_phase_ok (k := k) (a := a) (ss := ss) (rows := rows) (i := 0) (x := 0) rfl
  simp only [bookP] at this ⊢
  simp (disch := walk_at "d") [this]
def phsL (ss : List (Int × Int)) : List (Int × Int) := (List.range ss.length).flatMap fun i => (List.range (stAt ss i).1.toNat).map fun (d : Nat) => ((i : Int), (stAt ss i).1 - (d : Int))
def phsS (ss : List (Int × Int)) : List (Int × Int) := phsL ss ++ [((ss.length : Int), 0)]
def phs (ss : List (Int × Int)) (n : Nat) : List (Int × Int) := phsS ss ++ (List.range n).map fun (k : Nat) => ((-1 : Int), (k : Int))
def SsOk (ss : List (Int × Int)) : Prop := ss.length ≤ 3 ∧ ∀ s ∈ ss, 1 ≤ s.1 ∧ s.1 ≤ 6 ∧ 0 ≤ s.2 ∧ s.2 ≤ 60
theorem SsOk.b (h : SsOk ss) : stOk ss = true := by
  unfold stOk
  simp only [Bool.and_eq_true, decide_eq_true_eq]
  refine ⟨h.1, List.all_eq_true.mpr fun s hs => ?_⟩
  have := h.2 s hs
  unfold stgOk
  simp only [Bool.not_eq_true', Bool.or_eq_false_iff, decide_eq_false_iff_not]
  omega
theorem SsOk.at (h : SsOk ss) {i : Nat} (hi : i < ss.length) : 1 ≤ (stAt ss i).1 ∧ (stAt ss i).1 ≤ 6 ∧ 0 ≤ (stAt ss i).2 ∧ (stAt ss i).2 ≤ 60 := by
  rw [stAt_of hi]
  exact h.2 _ (List.getElem_mem hi)
def phEnv (k : Str) (a : Int) (ss : List (Int × Int)) (rows : List (List Int)) (w : List (Int × Int)) (x y : Option OV) : L3.Env := [some (.sh (bookP k a ss rows)), some (.own (w.map fun p => .sh (pairT p))), x, y, none]
theorem ph_row (hs : SsOk ss) {i : Nat} (hi : i < ss.length) {w : List (Int × Int)} (hw : w.length < 1000) : Turn (.nm 2) [2, 3] b_Book_phases_2 (.int (0 + (i : Int))) (phEnv k a ss rows w none none) (phEnv k a ss rows (w ++ (List.range (stAt ss i).1.toNat).map fun (d : Nat) => ((i : Int), (stAt ss i).1 - (d : Int))) none none) := by
  refine .of ?_
  have hb := hs.at hi
  have key := (forGo_foldN (T := .nm 3) (fg := [3]) (fb := b_Book_phases_1) (f := fun (j : Nat) => PV.int (0 + (j : Int))) (fun w => phEnv k a ss rows w (some (.sh (.int i))) none) (fun w (d : Nat) => w ++ [((i : Int), (stAt ss i).1 - (d : Int))])
    (fun j b => b.length ≤ w.length + j ∧ j ≤ 6) (List.range (stAt ss i).1.toNat) 0 w ⟨by omega, by omega⟩ fun j x b hx hb2 => by
      obtain ⟨hj, rfl⟩ := List.getElem?_eq_some_iff.mp hx
      simp only [List.length_range] at hj
      refine ⟨⟨by rw [List.length_append]; simp; omega, by omega⟩, .of ?_⟩
      unfold b_Book_phases_1 phEnv bookP
      simp (disch := walk_at "d") [stg_at hi, stgOf, pairT]).1
  rw [foldl_app, ← rngP_eq] at key
  unfold b_Book_phases_2
  simp only [phEnv, bookP] at key ⊢
  simp (disch := walk_at "d") [stg_at hi, stgOf, key]
  rw [← List.map_eq_flatMap, List.map_map]
theorem phsL_len (hs : SsOk ss) : ∀ l : List Nat, (∀ i ∈ l, i < ss.length) → (l.flatMap fun i => (List.range (stAt ss i).1.toNat).map fun (d : Nat) => ((i : Int), (stAt ss i).1 - (d : Int))).length ≤ 6 * l.length
  | [], _ => by simp
  | i :: l, h => by
    have := phsL_len hs l fun j hj => h j (List.mem_cons_of_mem _ hj)
    have h2 := hs.at (h i List.mem_cons_self)
    rw [List.flatMap_cons, List.length_append, List.length_cons]
    simp only [List.length_map, List.length_range] at this ⊢
    omega
theorem ph_all (hs : SsOk ss) : forGo (.nm 2) [2, 3] b_Book_phases_2 (rngP 0 ss.length) (phEnv k a ss rows [] none none) = .nx (phEnv k a ss rows (phsL ss) none none) := by
  have key := (forGo_foldN (T := .nm 2) (fg := [2, 3]) (fb := b_Book_phases_2) (f := fun (j : Nat) => PV.int (0 + (j : Int))) (fun w => phEnv k a ss rows w none none) (fun w (i : Nat) => w ++ (List.range (stAt ss i).1.toNat).map fun (d : Nat) => ((i : Int), (stAt ss i).1 - (d : Int)))
    (fun j b => b.length ≤ 6 * j ∧ j ≤ 3) (List.range ss.length) 0 [] ⟨by simp, by omega⟩ fun j x b hx hb => by
      obtain ⟨hj, rfl⟩ := List.getElem?_eq_some_iff.mp hx
      simp only [List.length_range] at hj
      have h3 := hs.1
      have h2 := hs.at (i := (List.range ss.length)[j]) (by simpa using hj)
      refine ⟨⟨?_, by omega⟩, ph_row hs (by simpa using hj) (by omega)⟩
      rw [List.length_append]
      simp only [List.length_map, List.length_range] at h2 ⊢
      omega).1
  rw [foldl_app, ← rngP_eq] at key
  exact key
theorem phsL_le (hs : SsOk ss) : (phsL ss).length ≤ 18 := by
  have := phsL_len hs (List.range ss.length) fun i hi => by simpa using hi
  have h3 := hs.1
  simp only [List.length_range] at this
  unfold phsL
  omega
theorem rowsT_len : (rowsT rows).length = rows.length := by simp [rowsT]
theorem phases_ok (hs : SsOk ss) (hn : rows.length ≤ 12) : F_Book_phases [bookP k a ss rows] = .ok (.own ((phs ss rows.length).map fun p => .sh (pairT p))) := by
  rw [F_Book_phases_at]
  unfold s_Book_phases
  have h1 := ph_all (k := k) (a := a) (rows := rows) hs
  have hl := phsL_le hs
  have h3 := hs.1
  have key := (forGo_foldN (T := .nm 4) (fg := [4]) (fb := b_Book_phases_3) (f := fun (j : Nat) => PV.int (0 + (j : Int))) (fun w => phEnv k a ss rows w none none) (fun w (d : Nat) => w ++ [((-1 : Int), (d : Int))])
    (fun j b => b.length ≤ (phsS ss).length + j ∧ j ≤ 12) (List.range rows.length) 0 (phsS ss) ⟨by omega, by omega⟩ fun j x b hx hb2 => by
      obtain ⟨hj, rfl⟩ := List.getElem?_eq_some_iff.mp hx
      simp only [List.length_range] at hj
      have : (phsS ss).length ≤ 19 := by simp [phsS]; omega
      refine ⟨⟨by rw [List.length_append]; simp; omega, by omega⟩, .of ?_⟩
      unfold b_Book_phases_3 phEnv
      simp (disch := walk_at "d") [pairT]).1
  rw [foldl_app, ← rngP_eq] at key
  simp only [phEnv, bookP, List.map_nil] at h1 key ⊢
  have e1 : (phsS ss).map (fun p => OV.sh (pairT p)) = (phsL ss).map (fun p => OV.sh (pairT p)) ++ [.sh (.tup [.int ss.length, .int 0])] := by simp [phsS, pairT]
  rw [e1] at key
  simp (disch := walk_at "d") [stg_len, rowsT_len, h1, key]
  simp [phs, e1, List.map_eq_flatMap, pairT]
def nphP (p : Int × Int) : PX := ⟨3, [("phase", pairT p)]⟩
theorem cln_pairT {p : Int × Int} : cln 1 (pairT p) = true := by simp [pairT, cln]
theorem pairT_inj {p q : Int × Int} : pairT p = pairT q ↔ p = q := by
  obtain ⟨a, b⟩ := p
  obtain ⟨c, d⟩ := q
  simp [pairT]
theorem phs_in {n : Nat} {p : Int × Int} : pyIn true (pairT p) (.lst ((phs ss n).map pairT)) = .ok (.bl (!decide (p ∈ phs ss n))) := by
  rw [in_cln 1 (by omega) cln_pairT (by simp [cln_pairT])]
  simp only [if_true, List.mem_map, pairT_inj, exists_eq_right]
theorem pairs_fun : (fun x : Int × Int => (OV.sh (pairT x)).pv) = pairT := by funext x; simp
theorem moved_no (hs : SsOk ss) (hn : rows.length ≤ 12) {p : Int × Int} (h : p.1 < 0 ∨ p ∉ phs ss rows.length) : F_Book_moved [bookP k a ss rows, pairT p] = .er (nphP p) := by
  obtain ⟨s, l⟩ := p
  have h1 := phases_ok (k := k) (a := a) hs hn
  have h2 : pyIn true (.tup [.int s, .int l]) (.lst ((phs ss rows.length).map pairT)) = _ := phs_in (p := (s, l))
  have e : (decide (s < 0) || !decide ((s, l) ∈ phs ss rows.length)) = true := by simpa using h
  rw [F_Book_moved_at]
  unfold s_Book_moved nphP
  simp only [bookP] at h1 ⊢
  have e3 : pairT (s, l) = .tup [.int s, .int l] := rfl
  simp (disch := walk_at "d") [h1, h2, pairs_fun, e3, e]
/-- what a phase of main time goes to -/
theorem moved_zero (hs : SsOk ss) (hn : rows.length ≤ 12) {s : Int} (h : ¬ s < 0) (hm : (s, (0 : Int)) ∈ phs ss rows.length) : F_Book_moved [bookP k a ss rows, pairT (s, 0)] = .ok (.sh (.tup [pairT (s, 0), .int 0])) := by
  have h1 := phases_ok (k := k) (a := a) hs hn
  have h2 : pyIn true (.tup [.int s, .int 0]) (.lst ((phs ss rows.length).map pairT)) = _ := phs_in (p := (s, 0))
  rw [F_Book_moved_at]
  unfold s_Book_moved
  simp only [bookP] at h1 ⊢
  have e3 : pairT (s, 0) = .tup [.int s, .int 0] := rfl
  simp (disch := walk_at "d") [h1, h2, pairs_fun, e3, h, hm]
theorem moved_more (hs : SsOk ss) (hn : rows.length ≤ 12) {s l : Int} (h : ¬ s < 0) (hl : 1 < l) (hm : (s, l) ∈ phs ss rows.length) : F_Book_moved [bookP k a ss rows, pairT (s, l)] = .ok (.sh (.tup [pairT (s, l - 1), .int 0])) := by
  have h1 := phases_ok (k := k) (a := a) hs hn
  have h2 : pyIn true (.tup [.int s, .int l]) (.lst ((phs ss rows.length).map pairT)) = _ := phs_in (p := (s, l))
  have hl0 : ¬ l = 0 := by omega
  rw [F_Book_moved_at]
  unfold s_Book_moved
  simp only [bookP] at h1 ⊢
  have e3 : pairT (s, l) = .tup [.int s, .int l] := rfl
  simp (disch := walk_at "d") [h1, h2, pairs_fun, e3, h, hm, hl, hl0]
  rfl
theorem moved_last (hs : SsOk ss) (hn : rows.length ≤ 12) {i : Nat} (hi : i < ss.length) (hm : ((i : Int), (1 : Int)) ∈ phs ss rows.length) : F_Book_moved [bookP k a ss rows, pairT (i, 1)] = .ok (.sh (.tup [pairT (stPh ss (i + 1)), .int (stAt ss i).2])) := by
  have h1 := phases_ok (k := k) (a := a) hs hn
  have h2 : pyIn true (.tup [.int i, .int 1]) (.lst ((phs ss rows.length).map pairT)) = _ := phs_in (p := (i, 1))
  have h0 : ¬ (i : Int) < 0 := by omega
  have h4 := stage_phase_ok (k := k) (a := a) (ss := ss) (rows := rows) (i := i + 1) (x := (i : Int) + 1) (by omega)
  rw [F_Book_moved_at]
  unfold s_Book_moved
  simp only [bookP] at h1 h4 ⊢
  have e3 : pairT (i, 1) = .tup [.int i, .int 1] := rfl
  simp (disch := walk_at "d") [h1, h2, pairs_fun, e3, h0, hm, h4, stg_at hi, stgOf]
/-! overtime -/
theorem rowT_at {i : Nat} (h : i < rows.length) : atI (rowsT rows) (i : Int) = some (.tup ((rowAt rows i).map .int)) := by
  unfold rowsT
  rw [atI_map, atI_getD (d := []) h]
  rfl
theorem amount_ok {t : Int} (h0 : 0 ≤ t) (h1 : t ≤ 10 ^ 30) : F_checked_amount [.int t] = .ok (.sh (.int t)) := by
  rw [F_checked_amount_at]
  unfold s_checked_amount
  have e1 : ¬ t < 0 := by omega
  have e2 : ¬ (1000000000000000000000000000000 : Int) < t := by omega
  simp [e1, e2]
def badA (t : Int) : PX := ⟨1, [("amount", .int t)]⟩
theorem amount_no {t : Int} (h : t < 0 ∨ 10 ^ 30 < t) : F_checked_amount [.int t] = .er (badA t) := by
  rw [F_checked_amount_at]
  unfold s_checked_amount badA
  have e : (decide (t < 0) || decide ((1000000000000000000000000000000 : Int) < t)) = true := by
    simp only [Bool.or_eq_true, decide_eq_true_eq]
    omega
  simp [e]
theorem step_no {s : Int} {t : PV} (h : s < 0 ∨ (rows.length : Int) ≤ s) : F_Book_overtime_step [bookP k a ss rows, .int s, t] = .er (nphP (-1, s)) := by
  have e : (decide (s < 0) || decide ((rows.length : Int) ≤ s)) = true := by simpa using h
  rw [F_Book_overtime_step_at]
  unfold s_Book_overtime_step bookP nphP pairT
  simp (disch := walk_at "d") [rowsT_len, e]
theorem step_amount {i : Nat} {t : Int} (hi : i < rows.length) (h : t < 0 ∨ 10 ^ 30 < t) : F_Book_overtime_step [bookP k a ss rows, .int i, .int t] = .er (badA t) := by
  have e : ¬ (i : Int) < 0 := by omega
  have e' : ¬ rows.length ≤ i := by omega
  rw [F_Book_overtime_step_at]
  unfold s_Book_overtime_step bookP
  simp (disch := walk_at "d") [rowsT_len, e, e', amount_no h]
theorem step_late {i : Nat} {t : Int} (hi : i < rows.length) (h0 : 10 ≤ t) (h1 : t ≤ 10 ^ 30) : F_Book_overtime_step [bookP k a ss rows, .int i, .int t] = .ok (.sh .non) := by
  have e : ¬ (i : Int) < 0 := by omega
  have e' : ¬ rows.length ≤ i := by omega
  rw [F_Book_overtime_step_at]
  unfold s_Book_overtime_step bookP
  simp (disch := walk_at "d") [rowsT_len, e, e', amount_ok (show 0 ≤ t by omega) h1, h0]
theorem step_in (hr : ∀ r ∈ rows, RowOk rows.length r) {i t : Nat} (hi : i < rows.length) (ht : t < 10) {x : Int} (hx : atI (rowAt rows i) (t : Int) = some x) : F_Book_overtime_step [bookP k a ss rows, .int i, .int t] = .ok (.sh (if x = rows.length then .non else .int x)) := by
  have e : ¬ (i : Int) < 0 := by omega
  have e' : ¬ rows.length ≤ i := by omega
  have h2 : ¬ (10 : Int) ≤ t := by omega
  rw [F_Book_overtime_step_at]
  unfold s_Book_overtime_step bookP
  by_cases h : x = rows.length
  · simp (disch := walk_at "d") [rowsT_len, e, e', amount_ok (show (0 : Int) ≤ t by omega) (show (t : Int) ≤ 10 ^ 30 by omega), h2, rowT_at hi, hx, h]
  · simp (disch := walk_at "d") [rowsT_len, e, e', amount_ok (show (0 : Int) ≤ t by omega) (show (t : Int) ≤ 10 ^ 30 by omega), h2, rowT_at hi, hx, h]
end
end K03

/-! the law's rows -/
namespace K03
open PySem L2 L3
local macro_rules | `(tactic| walk_at "d") => `(tactic| first | assumption | omega | (simp only [szl, List.length_map, List.length_append, List.length_cons, List.length_nil, List.length_range, List.length_replicate, rngP_length]; omega) | exact Eq.refl _ | (simp; done) | decide)
def el (l : List Int) (i : Nat) : Int := l.getD i 0
theorem el_at {l : List Int} {i : Nat} (h : i < l.length) : atI l (i : Int) = some (el l i) := atI_getD h
theorem el_mem {l : List Int} {i : Nat} (h : i < l.length) : el l i ∈ l := by
  unfold el
  rw [getD_of h]
  exact List.getElem_mem h
theorem el_app {l : List Int} {x : Int} {i : Nat} : el (l ++ [x]) i = if i < l.length then el l i else if i = l.length then x else 0 := by
  unfold el
  simp only [List.getD_eq_getElem?_getD, List.getElem?_append]
  by_cases h : i < l.length
  · simp [h]
  · rw [if_neg h, if_neg h]
    by_cases h2 : i = l.length
    · simp [h2]
    · rw [if_neg h2, List.getElem?_eq_none (by simp; omega)]
      rfl
theorem nums_ok' {c s m N : Int} {n : Nat} (hN : N = n) (hm : 0 < m) (hm2 : m < 2 ^ 200) (hn : n < 1000000) : F_p_law_numbers [.int c, .int s, .int N, .int m] = .ok (.own ((nums c s n m).map fun i => .sh (.int i))) := by
  subst hN
  exact nums_ok hm hm2 hn
structure RowI (c : Int) (w3 : Prop) (low row : List Int) (h : Int) (j : Nat) : Prop where
  len : row.length = j
  rng : ∀ x ∈ row, 0 ≤ x ∧ x ≤ c
  hr : 0 ≤ h ∧ h ≤ c
  lo : ¬ w3 → ∀ i < j, el low i ≤ el row i ∧ el row i ≤ h
  mo : ¬ w3 → ∀ i, i + 1 < j → el row i ≤ el row (i + 1)
def rEnv (cell c way : Int) (rows : OV) (low : List Int) (st : Option OV) (ups row : List Int) (h : Int) : L3.Env := [some (.sh (.int cell)), some (.sh (.int c)), some (.sh (.int way)), some rows, some (.sh (.lst (low.map .int))), st, some (.sh (.lst (ups.map .int))), some (.own (row.map fun x => .sh (.int x))), some (.sh (.int h)), none, none]
theorem r_turn {cell c way : Int} {rows : OV} {low ups row : List Int} {st : Option OV} {h : Int} {j : Nat} (hc : 0 ≤ c) (hj : j < 10) (hu : ups.length = 10) (hup : ∀ x ∈ ups, 0 ≤ x) (hl : low.length = 10) (hlo : ∀ x ∈ low, 0 ≤ x ∧ x ≤ c) (I : RowI c (way % 4 = 3) low row h j) :
    ∃ row' h', Turn (.nm 9) [9] b_p_law_rows_1 (.int (0 + (j : Int))) (rEnv cell c way rows low st ups row h) (rEnv cell c way rows low st ups row' h') ∧ RowI c (way % 4 = 3) low row' h' (j + 1) := by
  have eu := el_at (l := ups) (i := j) (by omega)
  have el1 := el_at (l := low) (i := j) (by omega)
  have hu0 := hup _ (el_mem (l := ups) (i := j) (by omega))
  have hl0 := hlo _ (el_mem (l := low) (i := j) (by omega))
  have hrow := I.len
  have fin : ∀ h', 0 ≤ h' → h' ≤ c → (¬ way % 4 = 3 → h ≤ h' ∧ el low j ≤ h') → RowI c (way % 4 = 3) low (row ++ [h']) h' (j + 1) := by
    intro h' h0 h1 h2
    refine ⟨by simp [I.len], fun x hx => ?_, ⟨h0, h1⟩, fun w i hi => ?_, fun w i hi => ?_⟩
    · rcases List.mem_append.mp hx with hx | hx
      · exact I.rng x hx
      · rw [List.mem_singleton.mp hx]; exact ⟨h0, h1⟩
    · rw [el_app]
      obtain ⟨g1, g2⟩ := h2 w
      by_cases c1 : i < row.length
      · rw [if_pos c1]
        have := I.lo w i (by omega)
        omega
      · have c2 : i = row.length := by omega
        rw [if_neg c1, if_pos c2, c2, hrow]
        omega
    · rw [el_app, el_app]
      obtain ⟨g1, g2⟩ := h2 w
      rw [if_pos (by omega)]
      by_cases c1 : i + 1 < row.length
      · rw [if_pos c1]
        exact I.mo w i (by omega)
      · rw [if_neg c1, if_pos (by omega)]
        have := (I.lo w i (by omega)).2
        omega
  by_cases w : way % 4 = 3
  · have hm := Int.emod_nonneg (el ups j) (show c + 1 ≠ 0 by omega)
    have hm2 := Int.emod_lt_of_pos (el ups j) (show 0 < c + 1 by omega)
    refine ⟨row ++ [el ups j % (c + 1)], el ups j % (c + 1), .of ?_, fin _ hm (by omega) fun z => absurd w z⟩
    unfold b_p_law_rows_1 rEnv
    simp (disch := walk_at "d") [w, eu]
  · have hd : 0 ≤ el ups j / 2 := by omega
    have I2 := I.hr
    refine ⟨row ++ [if (if el low j > h + el ups j / 2 then el low j else h + el ups j / 2) < c then (if el low j > h + el ups j / 2 then el low j else h + el ups j / 2) else c], if (if el low j > h + el ups j / 2 then el low j else h + el ups j / 2) < c then (if el low j > h + el ups j / 2 then el low j else h + el ups j / 2) else c, .of ?_, fin _ ?_ ?_ fun _ => ?_⟩
    · unfold b_p_law_rows_1 rEnv
      simp (disch := walk_at "d") [w, eu, el1]
    · split <;> (try split) <;> omega
    · split <;> (try split) <;> omega
    · split <;> (try split) <;> omega
theorem row_made {cell c way : Int} {rows : OV} {low ups : List Int} {st : Option OV} (hc : 0 ≤ c) (hu : ups.length = 10) (hup : ∀ x ∈ ups, 0 ≤ x) (hl : low.length = 10) (hlo : ∀ x ∈ low, 0 ≤ x ∧ x ≤ c) :
    ∃ row h, forGo (.nm 9) [9] b_p_law_rows_1 (rngP 0 10) (rEnv cell c way rows low st ups [] 0) = .nx (rEnv cell c way rows low st ups row h) ∧ RowI c (way % 4 = 3) low row h 10 := by
  obtain ⟨ρ', e, row, h, rfl, I⟩ := forGo_inv (T := .nm 9) (fg := [9]) (fb := b_p_law_rows_1) (f := fun (k : Nat) => PV.int (0 + (k : Int))) (fun j ρ => ∃ row h, ρ = rEnv cell c way rows low st ups row h ∧ RowI c (way % 4 = 3) low row h j) (List.range 10) 0 (rEnv cell c way rows low st ups [] 0)
    ⟨[], 0, rfl, rfl, fun x hx => (by cases hx), ⟨by omega, hc⟩, fun _ i hi => (by omega), fun _ i hi => (by omega)⟩ fun i x ρ hx ⟨row, h, e, I⟩ => by
      obtain ⟨hj, rfl⟩ := List.getElem?_eq_some_iff.mp hx
      simp only [List.length_range] at hj
      subst e
      simp only [List.getElem_range]
      rw [Nat.zero_add] at I ⊢
      obtain ⟨row', h', t, I'⟩ := r_turn (cell := cell) (rows := rows) (st := st) hc hj hu hup hl hlo I
      exact ⟨_, t, row', h', rfl, I'⟩
  exact ⟨row, h, e, I⟩
structure RowsI (c : Nat) (w3 : Prop) (rows : List (List Int)) (low : List Int) (k : Nat) : Prop where
  len : rows.length = k
  ok : ∀ r ∈ rows, RowOk c r
  lw : RowOk c low
  mo : ¬ w3 → ∀ r ∈ rows, ∀ i, i + 1 < 10 → el r i ≤ el r (i + 1)
  up : ¬ w3 → ∀ a b, a ≤ b → b < k → ∀ i < 10, el (rowAt rows a) i ≤ el (rowAt rows b) i
  lo : ¬ w3 → ∀ a, a < k → ∀ i < 10, el (rowAt rows a) i ≤ el low i
def rowsO (rows : List (List Int)) : OV := .own (rows.map fun r => .own (r.map fun x => .sh (.int x)))
def oEnv (cell c way : Int) (rows : List (List Int)) (low : List Int) : L3.Env := [some (.sh (.int cell)), some (.sh (.int c)), some (.sh (.int way)), some (rowsO rows), some (.sh (.lst (low.map .int))), none, none, none, none, none, none]
theorem rowAt_app {rows : List (List Int)} {r : List Int} {a : Nat} (h : a ≤ rows.length) : rowAt (rows ++ [r]) a = if a < rows.length then rowAt rows a else r := by
  unfold rowAt
  simp only [List.getD_eq_getElem?_getD, List.getElem?_append]
  by_cases c : a < rows.length
  · simp [c]
  · have : a = rows.length := by omega
    simp [this]
theorem rows_turn {cell way : Int} {c : Nat} {rows : List (List Int)} {low : List Int} {k : Nat} (hc : c ≤ 12) (hk : k < c) (I : RowsI c (way % 4 = 3) rows low k) :
    ∃ rows' low', Turn (.nm 5) [5, 6, 7, 8, 9] b_p_law_rows_2 (.int (0 + (k : Int))) (oEnv cell c way rows low) (oEnv cell c way rows' low') ∧ RowsI c (way % 4 = 3) rows' low' (k + 1) := by
  have hm : (0 : Int) < if way % 2 = 0 then 3 else (c : Int) + 1 := by split <;> omega
  have hm2 : (if way % 2 = 0 then 3 else (c : Int) + 1) < 2 ^ 200 := by split <;> omega
  have en := nums_ok' (c := cell) (s := 60 + (k : Int)) (N := 10) (n := 10) rfl hm hm2 (by omega)
  have un := nums_len (c := cell) (s := 60 + (k : Int)) (n := 10) hm
  have um := nums_mem (c := cell) (s := 60 + (k : Int)) (n := 10) hm
  generalize nums cell (60 + (k : Int)) 10 (if way % 2 = 0 then 3 else (c : Int) + 1) = ups at en un um
  obtain ⟨row, h, e, R⟩ := row_made (cell := cell) (c := c) (way := way) (rows := rowsO rows) (low := low) (ups := ups) (st := some (.sh (.int k))) (by omega) un (fun x hx => (um x hx).1) I.lw.1 I.lw.2
  refine ⟨rows ++ [row], row, .of ?_, ?_⟩
  · have hl := I.len
    have es : shs (row.map fun x => OV.sh (.int x)) = some (row.map .int) := by
      have := shs_map (row.map PV.int)
      rwa [List.map_map] at this
    unfold b_p_law_rows_2
    simp only [rEnv, oEnv, rowsO, List.map_nil] at e ⊢
    simp (disch := walk_at "d") [ifR_int, en, e, apl2, es]
  · have ok : RowOk c row := ⟨R.len, R.rng⟩
    refine ⟨by simp [I.len], fun r hr => ?_, ok, fun w r hr => ?_, fun w a b hab hb i hi => ?_, fun w a ha i hi => ?_⟩
    · rcases List.mem_append.mp hr with hr | hr
      · exact I.ok r hr
      · rw [List.mem_singleton.mp hr]; exact ok
    · rcases List.mem_append.mp hr with hr | hr
      · exact I.mo w r hr
      · rw [List.mem_singleton.mp hr]; exact R.mo w
    · have hl := I.len
      rw [rowAt_app (by omega), rowAt_app (by omega)]
      by_cases c1 : b < rows.length
      · rw [if_pos c1, if_pos (by omega)]
        exact I.up w a b hab (by omega) i hi
      · rw [if_neg c1]
        split
        · have h1 := I.lo w a (by omega) i hi
          have h2 := (R.lo w i hi).1
          omega
        · exact Int.le_refl _
    · have hl := I.len
      rw [rowAt_app (by omega)]
      split
      · have h1 := I.lo w a (by omega) i hi
        have h2 := (R.lo w i hi).1
        omega
      · exact Int.le_refl _
theorem RowsI.honest {c : Nat} {w3 : Prop} {rows : List (List Int)} {low : List Int} (I : RowsI c w3 rows low c) (w : ¬ w3) : Honest rows := by
  have hl := I.len
  have ent_le : ∀ (r r' : List Int) (i j : Nat), el r i ≤ el r' j → ent r i ≤ ent r' j := fun r r' i j h => by
    unfold ent
    have h : r.getD i 0 ≤ r'.getD j 0 := h
    omega
  intro r hr t ht
  refine ⟨fun a b => a ≤ b, fun a b ha hb hab => ⟨by omega, fun h1 h2 t ht => ?_⟩, ?_⟩
  · exact ent_le _ _ _ _ (I.up w a b hab (by omega) t ht)
  · exact ent_le _ _ _ _ (I.mo w r hr t (by omega))
def zeros : List PV := (List.replicate 10 (0 : Int)).map .int
theorem rows_ok {cell way : Int} {c : Nat} (hc : c ≤ 12) : ∃ rows, F_p_law_rows [.int cell, .int c, .int way] = .ok (rowsO rows) ∧ rows.length = c ∧ (∀ r ∈ rows, RowOk c r) ∧ (way % 4 = 2 → Honest rows) := by
  have hz : RowOk c (List.replicate 10 0) := ⟨rfl, fun x hx => by rw [List.eq_of_mem_replicate hx]; omega⟩
  obtain ⟨ρ', e, rows, low, rfl, I⟩ := forGo_inv (T := .nm 5) (fg := [5, 6, 7, 8, 9]) (fb := b_p_law_rows_2) (f := fun (k : Nat) => PV.int (0 + (k : Int))) (fun j ρ => ∃ rows low, ρ = oEnv cell c way rows low ∧ RowsI c (way % 4 = 3) rows low j) (List.range c) 0 (oEnv cell c way [] (List.replicate 10 0))
    ⟨[], List.replicate 10 0, rfl, rfl, fun x hx => (by cases hx), hz, fun _ x hx => (by cases hx), fun _ a b _ hb => (by omega), fun _ a ha => (by omega)⟩ fun i x ρ hx ⟨rows, low, e, I⟩ => by
      obtain ⟨hj, rfl⟩ := List.getElem?_eq_some_iff.mp hx
      simp only [List.length_range] at hj
      subst e
      simp only [List.getElem_range]
      rw [Nat.zero_add] at I ⊢
      obtain ⟨rows', low', t, I'⟩ := rows_turn (cell := cell) hc hj I
      exact ⟨_, t, rows', low', rfl, I'⟩
  rw [Nat.zero_add, List.length_range] at I
  rw [← rngP_eq] at e
  have e0 : List.flatten (List.replicate (Int.toNat 10) [PV.int 0]) = (List.replicate 10 (0 : Int)).map .int := rfl
  have em : pyMul (.lst [.int 0]) (.int 10) = .ok (.lst zeros) := by
    show (if -(2 ^ 63) ≤ (10 : Int) ∧ (10 : Int) < 2 ^ 63 ∧ [PV.int 0].length * (10 : Int).toNat ≤ sizeLine then R.ok (PV.lst (List.replicate (10 : Int).toNat [PV.int 0]).flatten) else R.no) = _
    rw [if_pos (by simp [szl]), e0]
    rfl
  have hl := I.len
  by_cases w : way % 4 = 1 ∧ 0 < c
  · obtain ⟨w1, w2⟩ := w
    have en := nums_ok' (c := cell) (s := 90) (N := 3) (n := 3) (m := 1000) rfl (by omega) (by omega) (by omega)
    have un := nums_len (c := cell) (s := 90) (n := 3) (m := 1000) (by omega)
    have um := nums_mem (c := cell) (s := 90) (n := 3) (m := 1000) (by omega)
    generalize nums cell 90 3 1000 = sp at en un um
    have g0 := um _ (el_mem (l := sp) (i := 0) (by omega))
    have g1 := um _ (el_mem (l := sp) (i := 1) (by omega))
    have g2 := um _ (el_mem (l := sp) (i := 2) (by omega))
    have a0 := el_at (l := sp) (i := 0) (by omega)
    have a1 := el_at (l := sp) (i := 1) (by omega)
    have a2 := el_at (l := sp) (i := 2) (by omega)
    have i0 : (el sp 0 % (c : Int)).toNat < rows.length := by
      have := Int.emod_lt_of_pos (el sp 0) (show (0 : Int) < c by omega)
      have := Int.emod_nonneg (el sp 0) (show (c : Int) ≠ 0 by omega)
      omega
    have q0 := Int.emod_nonneg (el sp 0) (show (c : Int) ≠ 0 by omega)
    have q1 := Int.emod_lt_of_pos (el sp 0) (show (0 : Int) < c by omega)
    have q2 := Int.emod_nonneg (el sp 2) (show (c : Int) + 1 ≠ 0 by omega)
    have q3 := Int.emod_lt_of_pos (el sp 2) (show (0 : Int) < (c : Int) + 1 by omega)
    have rok := I.ok _ (List.getElem_mem i0)
    refine ⟨rows.set (el sp 0 % (c : Int)).toNat ((rows[(el sp 0 % (c : Int)).toNat]).set (el sp 1 % 10).toNat (el sp 2 % ((c : Int) + 1))), ?_, by simp [hl], fun r hr => ?_, fun z => by omega⟩
    · rw [F_p_law_rows_at]
      unfold s_p_law_rows
      simp only [oEnv, rowsO, List.map_nil, show List.map PV.int (List.replicate 10 0) = zeros from rfl] at e ⊢
      have b0 : atI sp 0 = some (el sp 0) := a0
      have b1 : atI sp 1 = some (el sp 1) := a1
      have b2 : atI sp 2 = some (el sp 2) := a2
      have p1 : el sp 1 % 10 < ((rows[(el sp 0 % (c : Int)).toNat]).length : Int) := by rw [rok.1]; omega
      simp (disch := first | (simp only [List.length_map, hl]; omega) | walk_at "d") [em, e, w1, w2, en, b0, b1, b2, i0]
    · rcases List.mem_or_eq_of_mem_set hr with hr | rfl
      · exact I.ok r hr
      · refine ⟨by rw [List.length_set]; exact rok.1, fun x hx => ?_⟩
        rcases List.mem_or_eq_of_mem_set hx with hx | rfl
        · exact rok.2 x hx
        · omega
  · have w' : (decide (way % 4 = 1) && decide (0 < c)) = false := by
      rw [← Bool.not_eq_true]
      simpa using w
    refine ⟨rows, ?_, I.len, I.ok, fun z => I.honest (by omega)⟩
    rw [F_p_law_rows_at]
    unfold s_p_law_rows
    simp only [oEnv, rowsO, List.map_nil, show List.map PV.int (List.replicate 10 0) = zeros from rfl] at e ⊢
    simp (disch := walk_at "d") [em, e, w']
end K03

/-! the law's looks at a book -/
namespace K03
open PySem L2 L3
local macro_rules | `(tactic| walk_at "d") => `(tactic| first | assumption | omega | (simp only [szl, List.length_map, List.length_append, List.length_cons, List.length_nil, List.length_range, List.length_replicate, rngP_length]; omega) | exact Eq.refl _ | (simp; done) | decide)
@[simp] theorem is_int {x y : Int} : F_p_law_is [.int x, .int y] = .ok (.sh (.bl (decide (x = y)))) := by
  rw [F_p_law_is_at]
  unfold s_p_law_is
  simp
@[simp] theorem is_non {y : Int} : F_p_law_is [.non, .int y] = .ok (.sh (.bl false)) := by
  rw [F_p_law_is_at]
  unfold s_p_law_is
  simp
theorem pair_ok {x y u v : Int} {q : PV} (hq : q = .tup [.int u, .int v] ∨ q = .lst [.int u, .int v]) : F_p_law_pair [.tup [.int x, .int y], q] = .ok (.sh (.bl (decide (x = u) && decide (y = v)))) := by
  rw [F_p_law_pair_at]
  unfold s_p_law_pair
  rcases hq with rfl | rfl <;> simp
theorem pair_same {p : Int × Int} : F_p_law_pair [pairT p, pairT p] = .ok (.sh (.bl true)) := by
  unfold pairT
  rw [pair_ok (.inl rfl)]
  simp
section
variable {k : Str} {a : Int} {ss : List (Int × Int)} {rows : List (List Int)}
theorem charged_ok {n d : Int} (hk : k ∈ kinds) (ha : k = "plain" → a = 0) : F_p_law_charged [.str k, .int a, .int n, .int d] = .ok (.sh (.lst [.int (chg k a n d).1, .int (chg k a n d).2])) := by
  rw [F_p_law_charged_at]
  unfold s_p_law_charged chg
  simp only [kinds, List.mem_cons, List.not_mem_nil, or_false] at hk
  have h1 : ¬ (("plain" : Str) = "delay") := by decide
  have h2 : ¬ (("plain" : Str) = "bonus") := by decide
  have h3 : ¬ (("delay" : Str) = "plain") := by decide
  have h4 : ¬ (("delay" : Str) = "bonus") := by decide
  have h5 : ¬ (("bonus" : Str) = "plain") := by decide
  have h6 : ¬ (("bonus" : Str) = "delay") := by decide
  rcases hk with rfl | rfl | rfl <;> simp (disch := walk_at "d") [h1, h2, h3, h4, h5, h6, up0]
def lpEnv (ss : List (Int × Int)) (n : Nat) (w : List (Int × Int)) (x y : Option OV) : L3.Env := [some (.sh (.lst (stgP ss))), some (.sh (.int n)), some (.own (w.map fun p => .sh (pairT p))), x, y, none]
theorem lp_row (hs : SsOk ss) {n i : Nat} (hi : i < ss.length) {w : List (Int × Int)} (hw : w.length < 1000) : Turn (.nm 3) [3, 4] b_p_law_phases_2 (.int (0 + (i : Int))) (lpEnv ss n w none none) (lpEnv ss n (w ++ (List.range (stAt ss i).1.toNat).map fun (d : Nat) => ((i : Int), (stAt ss i).1 - (d : Int))) none none) := by
  refine .of ?_
  have hb := hs.at hi
  have key := (forGo_foldN (T := .nm 4) (fg := [4]) (fb := b_p_law_phases_1) (f := fun (j : Nat) => PV.int (0 + (j : Int))) (fun w => lpEnv ss n w (some (.sh (.int i))) none) (fun w (d : Nat) => w ++ [((i : Int), (stAt ss i).1 - (d : Int))])
    (fun j b => b.length ≤ w.length + j ∧ j ≤ 6) (List.range (stAt ss i).1.toNat) 0 w ⟨by omega, by omega⟩ fun j x b hx hb2 => by
      obtain ⟨hj, rfl⟩ := List.getElem?_eq_some_iff.mp hx
      simp only [List.length_range] at hj
      refine ⟨⟨by rw [List.length_append]; simp; omega, by omega⟩, .of ?_⟩
      unfold b_p_law_phases_1 lpEnv
      simp (disch := walk_at "d") [stg_at hi, stgOf, pairT]).1
  rw [foldl_app, ← rngP_eq] at key
  unfold b_p_law_phases_2
  simp only [lpEnv] at key ⊢
  simp (disch := walk_at "d") [stg_at hi, stgOf, key]
  rw [← List.map_eq_flatMap, List.map_map]
theorem lp_all (hs : SsOk ss) {n : Nat} : forGo (.nm 3) [3, 4] b_p_law_phases_2 (rngP 0 ss.length) (lpEnv ss n [] none none) = .nx (lpEnv ss n (phsL ss) none none) := by
  have key := (forGo_foldN (T := .nm 3) (fg := [3, 4]) (fb := b_p_law_phases_2) (f := fun (j : Nat) => PV.int (0 + (j : Int))) (fun w => lpEnv ss n w none none) (fun w (i : Nat) => w ++ (List.range (stAt ss i).1.toNat).map fun (d : Nat) => ((i : Int), (stAt ss i).1 - (d : Int)))
    (fun j b => b.length ≤ 6 * j ∧ j ≤ 3) (List.range ss.length) 0 [] ⟨by simp, by omega⟩ fun j x b hx hb => by
      obtain ⟨hj, rfl⟩ := List.getElem?_eq_some_iff.mp hx
      simp only [List.length_range] at hj
      have h3 := hs.1
      have h2 := hs.at (i := (List.range ss.length)[j]) (by simpa using hj)
      refine ⟨⟨?_, by omega⟩, lp_row hs (by simpa using hj) (by omega)⟩
      rw [List.length_append]
      simp only [List.length_map, List.length_range] at h2 ⊢
      omega).1
  rw [foldl_app, ← rngP_eq] at key
  exact key
theorem phs_len_le (hs : SsOk ss) {n : Nat} (hn : n ≤ 12) : (phs ss n).length ≤ 31 := by
  have := phsL_le hs
  simp only [phs, phsS, List.length_append, List.length_map, List.length_range, List.length_cons, List.length_nil]
  omega
theorem law_phases_ok (hs : SsOk ss) {n : Nat} (hn : n ≤ 12) : F_p_law_phases [.lst (stgP ss), .int n] = .ok (.sh (.lst ((phs ss n).map pairT))) := by
  rw [F_p_law_phases_at]
  unfold s_p_law_phases
  have h1 := lp_all (n := n) hs
  have hl := phsL_le hs
  have h3 := hs.1
  have lc : ∀ ρ : L3.Env, ρ.length = 4 → ∀ w x, fLc (.nm 5) [5] (iRg rng1R (aCons (eVar 1) aNil)) tYesB c_p_law_phases_1 [w, some (.sh (.int n)), x, none, none, none] = .ok (.own ((List.range n).map fun (d : Nat) => .sh (pairT (-1, (d : Int))))) := by
    intro ρ _ w x
    refine fLc_at (ps := rngP 0 n) (by simp (disch := walk_at "d")) (by (simp only [szl, rngP_length]; omega)) ?_
    rw [rngP_eq]
    refine lcGo_map (f := fun (k : Nat) => PV.int (0 + (k : Int))) _ fun t ht => ?_
    unfold c_p_law_phases_1
    simp (disch := walk_at "d") [pairT]
  simp only [lpEnv, List.map_nil] at h1 ⊢
  simp (disch := walk_at "d") [stg_len, h1, lc [none, none, none, none] rfl, pairs_fun]
  simp [phs, phsS, pairT]
  rfl
/-! the order of the phases -/
def nextPh (ss : List (Int × Int)) (p : Int × Int) : Int × Int := if 1 < p.2 then (p.1, p.2 - 1) else stPh ss (p.1.toNat + 1)
def Adj (R : Int × Int → Int × Int → Prop) : List (Int × Int) → Prop
  | a :: b :: l => R a b ∧ Adj R (b :: l)
  | _ => True
theorem Adj.get {R : Int × Int → Int × Int → Prop} : ∀ {l : List (Int × Int)} {i : Nat} {a b : Int × Int}, Adj R l → l[i]? = some a → l[i + 1]? = some b → R a b
  | [], _, _, _, _, h, _ => by simp at h
  | [x], 0, _, _, _, _, h => by simp at h
  | [x], i + 1, _, _, _, h, _ => by simp at h
  | x :: y :: l, 0, a, b, h, h1, h2 => by
    simp at h1 h2
    subst h1 h2
    exact h.1
  | x :: y :: l, i + 1, a, b, h, h1, h2 => Adj.get (l := y :: l) (i := i) h.2 (by simpa using h1) (by simpa using h2)
theorem Adj.app {R : Int × Int → Int × Int → Prop} : ∀ {l r : List (Int × Int)}, Adj R l → Adj R r → (∀ a ∈ l.getLast?, ∀ b ∈ r.head?, R a b) → Adj R (l ++ r)
  | [], r, _, h, _ => h
  | [x], [], _, _, _ => trivial
  | [x], y :: r, _, h, k => ⟨k x (by simp) y (by simp), h⟩
  | x :: y :: l, r, h, g, k => ⟨h.1, Adj.app (l := y :: l) h.2 g fun a ha b hb => k a (by simpa [List.getLast?_cons_cons] using ha) b hb⟩
def phRow (ss : List (Int × Int)) (i : Nat) : List (Int × Int) := (List.range (stAt ss i).1.toNat).map fun (d : Nat) => ((i : Int), (stAt ss i).1 - (d : Int))
theorem adj_map {R : Int × Int → Int × Int → Prop} {f : Nat → Int × Int} : ∀ (m s : Nat), (∀ d, s ≤ d → d + 1 < s + m → R (f d) (f (d + 1))) → Adj R ((List.range' s m).map f)
  | 0, _, _ => trivial
  | 1, _, _ => trivial
  | m + 2, s, h => by
    have ih := adj_map (f := f) (m + 1) (s + 1) fun d h1 h2 => h d (by omega) (by omega)
    exact ⟨h s (Nat.le_refl _) (by omega), ih⟩
theorem phRow_adj (hs : SsOk ss) {i : Nat} (hi : i < ss.length) : Adj (fun p q => q = nextPh ss p) (phRow ss i) := by
  have hb := hs.at hi
  unfold phRow
  rw [List.range_eq_range']
  refine adj_map _ _ fun d _ hd => ?_
  unfold nextPh
  rw [if_pos (by dsimp only; omega)]
  simp only [Prod.mk.injEq, true_and]
  omega
theorem phRow_head (hs : SsOk ss) {i : Nat} (hi : i < ss.length) : (phRow ss i).head? = some (stPh ss i) := by
  have hb := hs.at hi
  obtain ⟨m, hm⟩ : ∃ m, (stAt ss i).1.toNat = m + 1 := ⟨(stAt ss i).1.toNat - 1, by omega⟩
  unfold phRow stPh
  rw [hm, List.range_succ_eq_map, if_pos hi]
  simp
theorem phRow_last (hs : SsOk ss) {i : Nat} (hi : i < ss.length) : (phRow ss i).getLast? = some ((i : Int), 1) := by
  have hb := hs.at hi
  obtain ⟨m, hm⟩ : ∃ m, (stAt ss i).1.toNat = m + 1 := ⟨(stAt ss i).1.toNat - 1, by omega⟩
  unfold phRow
  rw [hm, List.range_succ, List.map_append]
  simp
  omega
theorem phs_tail (hs : SsOk ss) : ∀ (m i : Nat), i + m = ss.length → Adj (fun p q => p.1 < ss.length → q = nextPh ss p) ((List.range' i m).flatMap (phRow ss) ++ [((ss.length : Int), 0)]) ∧ ((List.range' i m).flatMap (phRow ss) ++ [((ss.length : Int), (0 : Int))]).head? = some (stPh ss i)
  | 0, i, h => by
    have : i = ss.length := by omega
    subst this
    refine ⟨trivial, ?_⟩
    simp [stPh]
  | m + 1, i, h => by
    obtain ⟨h1, h2⟩ := phs_tail hs m (i + 1) (by omega)
    have hi : i < ss.length := by omega
    rw [List.range'_succ, List.flatMap_cons, List.append_assoc]
    have weak : ∀ l : List (Int × Int), Adj (fun p q => q = nextPh ss p) l → Adj (fun p q => p.1 < ss.length → q = nextPh ss p) l := by
      intro l
      induction l with
      | nil => exact fun _ => trivial
      | cons a l ih =>
        cases l with
        | nil => exact fun _ => trivial
        | cons b l => exact fun h => ⟨fun _ => h.1, ih h.2⟩
    refine ⟨Adj.app (weak _ (phRow_adj hs hi)) h1 fun a ha b hb => fun _ => ?_, ?_⟩
    · rw [phRow_last hs hi] at ha
      rw [h2] at hb
      simp only [Option.mem_def, Option.some.injEq] at ha hb
      subst ha hb
      simp [nextPh]
    · have := phRow_head hs hi
      cases e : phRow ss i with
      | nil => rw [e] at this; cases this
      | cons x l => rw [e] at this; simpa using this
theorem phsS_eq : phsS ss = (List.range' 0 ss.length).flatMap (phRow ss) ++ [((ss.length : Int), 0)] := by
  unfold phsS phsL
  rw [← List.range_eq_range']
  rfl
theorem phsS_adj (hs : SsOk ss) : Adj (fun p q => p.1 < ss.length → q = nextPh ss p) (phsS ss) := by
  rw [phsS_eq]
  exact (phs_tail hs ss.length 0 (by omega)).1
theorem phs_head (hs : SsOk ss) {n : Nat} : (phs ss n)[0]? = some (stPh ss 0) := by
  have := (phs_tail hs ss.length 0 (by omega)).2
  rw [← phsS_eq] at this
  unfold phs
  cases e : phsS ss with
  | nil => rw [e] at this; cases this
  | cons x l => rw [e] at this; simpa using this
/-- what stands in the list of phases -/
theorem phsL_mem {s l : Int} : (s, l) ∈ phsL ss ↔ ∃ i : Nat, i < ss.length ∧ s = i ∧ 1 ≤ l ∧ l ≤ (stAt ss i).1 := by
  unfold phsL
  simp only [List.mem_flatMap, List.mem_range, List.mem_map, Prod.mk.injEq]
  constructor
  · rintro ⟨i, hi, d, hd, rfl, rfl⟩
    exact ⟨i, hi, rfl, by omega, by omega⟩
  · rintro ⟨i, hi, rfl, h1, h2⟩
    exact ⟨i, hi, ((stAt ss i).1 - l).toNat, by omega, rfl, by omega⟩
theorem phs_mem {n : Nat} {s l : Int} : (s, l) ∈ phs ss n ↔ (∃ i : Nat, i < ss.length ∧ s = i ∧ 1 ≤ l ∧ l ≤ (stAt ss i).1) ∨ (s = ss.length ∧ l = 0) ∨ (s = -1 ∧ 0 ≤ l ∧ l < n) := by
  unfold phs phsS
  simp only [List.mem_append, phsL_mem, List.mem_singleton, Prod.mk.injEq, List.mem_map, List.mem_range, or_assoc]
  refine or_congr Iff.rfl (or_congr Iff.rfl ⟨?_, ?_⟩)
  · rintro ⟨d, hd, rfl, rfl⟩
    omega
  · rintro ⟨rfl, h1, h2⟩
    exact ⟨l.toNat, by omega, rfl, by omega⟩
theorem phs_next (hs : SsOk ss) {n j : Nat} {s l : Int} (h : (phs ss n)[j]? = some (s, l)) (h0 : 0 ≤ s) (h1 : s < ss.length) : (phs ss n)[j + 1]? = some (nextPh ss (s, l)) := by
  have hm : (s, l) ∈ phs ss n := List.mem_of_getElem? h
  have hj : j < (phsS ss).length := by
    unfold phs at h
    rw [List.getElem?_append] at h
    split at h
    · assumption
    · have := List.mem_of_getElem? h
      simp only [List.mem_map, Prod.mk.injEq] at this
      obtain ⟨d, _, e, _⟩ := this
      omega
  have hlast : j + 1 < (phsS ss).length := by
    by_cases c : j + 1 < (phsS ss).length
    · exact c
    · have e : j = (phsL ss).length := by simp [phsS] at hj c; omega
      unfold phs at h
      rw [List.getElem?_append_left hj] at h
      unfold phsS at h
      rw [e, List.getElem?_append_right (Nat.le_refl _), Nat.sub_self] at h
      simp at h
      omega
  unfold phs at h ⊢
  rw [List.getElem?_append_left hj] at h
  rw [List.getElem?_append_left hlast]
  obtain ⟨q, hq⟩ : ∃ q, (phsS ss)[j + 1]? = some q := ⟨_, List.getElem?_eq_getElem hlast⟩
  rw [hq, Adj.get (phsS_adj hs) h hq h1]
end
end K03

/-! the law's looks at a book, on -/
namespace K03
open PySem L2 L3
local macro_rules | `(tactic| walk_at "d") => `(tactic| first | assumption | omega | (simp only [szl, List.length_map, List.length_append, List.length_cons, List.length_nil, List.length_range, List.length_replicate, rngP_length]; omega) | exact Eq.refl _ | (simp; done) | decide)
@[simp] theorem idx_pair0 {p : Int × Int} : idxR (pairT p) (.int 0) = .ok (.int p.1) := by simp [pairT]
@[simp] theorem idx_pair1 {p : Int × Int} : idxR (pairT p) (.int 1) = .ok (.int p.2) := by simp [pairT]
@[simp] theorem isi_pair {p : Int × Int} : isiP (tbT "tuple") ibN (pairT p) = .ok (.bl true) := by simp [pairT]
@[simp] theorem len_pair {p : Int × Int} : bLen [pairT p] = .ok (.int 2) := by simp [pairT]
section
variable {k : Str} {a : Int} {ss : List (Int × Int)} {rows : List (List Int)} (hs : SsOk ss) (hn : rows.length ≤ 12)
include hs hn in
theorem no_phase_ok {p : Int × Int} (h : p.1 < 0 ∨ p ∉ phs ss rows.length) : F_p_law_no_phase [bookP k a ss rows, pairT p] = .ok (.sh (.bl true)) := by
  have h1 := moved_no (k := k) (a := a) hs hn h
  rw [F_p_law_no_phase_at]
  unfold s_p_law_no_phase
  simp only [bookP, nphP] at h1 ⊢
  simp (disch := walk_at "d") [h1, List.lookup, Option.map, eq_cln 1 _ cln_pairT cln_pairT]
include hs hn in
theorem moves_turn {T : List OV} (hT : OV.pvs T = (phs ss rows.length).map pairT) {j : Nat} (hj : j < (phs ss rows.length).length) : Turn (.nm 5) [5, 6, 7, 8, 9] b_p_law_moves_1 (.int (0 + (j : Int)))
    [some (.sh (bookP k a ss rows)), some (.sh (.lst (stgP ss))), some (.sh (.int rows.length)), some (.sh (.lst ((phs ss rows.length).map pairT))), some (.own T), none, none, none, none, none]
    [some (.sh (bookP k a ss rows)), some (.sh (.lst (stgP ss))), some (.sh (.int rows.length)), some (.sh (.lst ((phs ss rows.length).map pairT))), some (.own T), none, none, none, none, none] := by
  obtain ⟨p, hp⟩ : ∃ p, (phs ss rows.length)[j]? = some p := ⟨_, List.getElem?_eq_getElem hj⟩
  have e0 : atI (phs ss rows.length) (j : Int) = some p := by rw [atI_natP]; exact hp
  obtain ⟨s, l⟩ := p
  have hm : (s, l) ∈ phs ss rows.length := List.mem_of_getElem? hp
  refine .of ?_
  unfold b_p_law_moves_1
  rcases phs_mem.mp hm with ⟨i, hi, rfl, l1, l2⟩ | ⟨rfl, rfl⟩ | ⟨rfl, l1, l2⟩
  · have en := phs_next hs hp (by omega) (by omega)
    have e1 : atI (phs ss rows.length) ((j : Int) + 1) = some (nextPh ss ((i : Int), l)) := by
      have : (j : Int) + 1 = ((j + 1 : Nat) : Int) := by omega
      rw [this, atI_natP]
      exact en
    have n0 : ¬ (i : Int) < 0 := by omega
    have sg := stg_at hi
    by_cases c : 1 < l
    · have mv := moved_more (k := k) (a := a) hs hn n0 c hm
      have c1 : ¬ l = 1 := by omega
      have nx : nextPh ss ((i : Int), l) = ((i : Int), l - 1) := by simp [nextPh, c]
      simp only [bookP] at mv ⊢
      simp (disch := walk_at "d") [hT, e0, e1, n0, hi, c1, stg_len, sg, stgOf, capR_flat, pair_same, mv, nx]
    · have c1 : l = 1 := by omega
      subst c1
      have mv := moved_last (k := k) (a := a) hs hn hi hm
      have nx : nextPh ss ((i : Int), 1) = stPh ss (i + 1) := by simp [nextPh]
      simp only [bookP] at mv ⊢
      simp (disch := walk_at "d") [hT, e0, e1, n0, hi, stg_len, sg, stgOf, capR_flat, pair_same, mv, nx]
  · have n0 : ¬ (ss.length : Int) < 0 := by omega
    have mv := moved_zero (k := k) (a := a) hs hn n0 hm
    simp only [bookP] at mv ⊢
    simp (disch := walk_at "d") [hT, e0, n0, stg_len, capR_flat, pair_same, mv]
  · have np := no_phase_ok (k := k) (a := a) hs hn (p := (-1, l)) (.inl (by show (-1 : Int) < 0; omega))
    simp only [bookP] at np ⊢
    simp (disch := walk_at "d") [hT, e0, capR_flat, pair_same, np]
include hs hn in
theorem moves_ok : F_p_law_moves [bookP k a ss rows, .lst (stgP ss), .int rows.length] = .ok (.sh (.bl true)) := by
  rw [F_p_law_moves_at]
  unfold s_p_law_moves
  have h1 := law_phases_ok hs hn
  have h2 := phases_ok (k := k) (a := a) hs hn
  have h3 := opening_ok (k := k) (a := a) (ss := ss) (rows := rows)
  have hl := phs_len_le hs hn
  have e0 : atI (phs ss rows.length) 0 = some (stPh ss 0) := by
    have := phs_head hs (n := rows.length)
    rw [← atI_natP] at this
    exact this
  have loop : forGo (.nm 5) [5, 6, 7, 8, 9] b_p_law_moves_1 (rngP 0 (phs ss rows.length).length) [some (.sh (bookP k a ss rows)), some (.sh (.lst (stgP ss))), some (.sh (.int rows.length)), some (.sh (.lst ((phs ss rows.length).map pairT))), some (.own ((phs ss rows.length).map fun p => .sh (pairT p))), none, none, none, none, none] = .nx [some (.sh (bookP k a ss rows)), some (.sh (.lst (stgP ss))), some (.sh (.int rows.length)), some (.sh (.lst ((phs ss rows.length).map pairT))), some (.own ((phs ss rows.length).map fun p => .sh (pairT p))), none, none, none, none, none] := by
    rw [rngP_eq]
    exact forGo_same _ fun j hj => moves_turn (k := k) (a := a) hs hn (by simp) (by simpa using hj)
  have q1 := no_phase_ok (k := k) (a := a) hs hn (p := ((ss.length : Int), 1)) (.inr (by rw [phs_mem]; rintro (⟨i, _, h, _⟩ | ⟨_, h⟩ | ⟨h, _⟩) <;> omega))
  have q2 := no_phase_ok (k := k) (a := a) hs hn (p := ((ss.length : Int) + 1, 0)) (.inr (by rw [phs_mem]; rintro (⟨i, _, h, _⟩ | ⟨h, _⟩ | ⟨h, _⟩) <;> omega))
  have q3 := no_phase_ok (k := k) (a := a) hs hn (p := (0, 7)) (.inr (by
    rw [phs_mem]
    rintro (⟨i, hi, h, _, h4⟩ | ⟨_, h⟩ | ⟨h, _⟩)
    · have := hs.at hi
      omega
    · omega
    · omega))
  have q4 := no_phase_ok (k := k) (a := a) hs hn (p := (-2, 0)) (.inl (by show (-2 : Int) < 0; omega))
  simp only [bookP] at h2 h3 loop q1 q2 q3 q4 ⊢
  simp only [show pairT ((ss.length : Int), 1) = .tup [.int ss.length, .int 1] from rfl, show pairT ((ss.length : Int) + 1, 0) = .tup [.int (ss.length + 1), .int 0] from rfl, show pairT (0, 7) = .tup [.int 0, .int 7] from rfl, show pairT (-2, 0) = .tup [.int (-2), .int 0] from rfl] at q1 q2 q3 q4
  simp (disch := walk_at "d") [h1, h2, h3, e0, pair_same, loop, stg_len, q1, q2, q3, q4]
/-! overtime steps -/
theorem no_state_ok {s : Int} (h : s < 0 ∨ (rows.length : Int) ≤ s) : F_p_law_no_state [bookP k a ss rows, .int s] = .ok (.sh (.bl true)) := by
  have h1 := step_no (k := k) (a := a) (ss := ss) (rows := rows) (s := s) (t := .int (-1)) h
  have e3 : (.tup [.int (-1), .int s] : PV) = pairT (-1, s) := rfl
  rw [F_p_law_no_state_at]
  unfold s_p_law_no_state
  simp only [bookP, nphP] at h1 ⊢
  simp (disch := walk_at "d") [h1, List.lookup, Option.map, e3, eq_cln 1 _ cln_pairT cln_pairT]
theorem steps_turn {i : Nat} (hr : ∀ r ∈ rows, RowOk rows.length r) (hi : i < rows.length) {g : PV} {x : Option OV} {t : Int} (h0 : 0 ≤ t) (h1 : t ≤ 10 ^ 30) : Turn (.nm 4) [4, 5, 6] b_p_law_steps_1 (.int t)
    [some (.sh (bookP k a ss rows)), some (.sh (.lst (rowsP rows))), some (.sh g), some (.sh (.int i)), none, none, none, x]
    [some (.sh (bookP k a ss rows)), some (.sh (.lst (rowsP rows))), some (.sh g), some (.sh (.int i)), none, none, none, x] := by
  have hl : (rowsP rows).length = rows.length := by simp [rowsP]
  refine .of ?_
  unfold b_p_law_steps_1
  by_cases c : t < 10
  · obtain ⟨n, rfl⟩ : ∃ n : Nat, t = n := ⟨t.toNat, by omega⟩
    obtain ⟨y, e1, y0, y1, _⟩ := (row_ok hr hi).at (t := n) (by omega)
    have st := step_in (k := k) (a := a) (ss := ss) hr hi (by omega) e1
    by_cases d : y = rows.length
    · rw [if_pos d] at st
      simp only [bookP] at st ⊢
      simp (disch := walk_at "d") [c, row_at hi, e1, st, hl, d]
    · rw [if_neg d] at st
      simp only [bookP] at st ⊢
      simp (disch := walk_at "d") [c, row_at hi, e1, st, hl, d]
  · have st := step_late (k := k) (a := a) (ss := ss) hi (show 10 ≤ t by omega) h1
    simp only [bookP] at st ⊢
    simp (disch := walk_at "d") [c, st, hl]
theorem steps_row {i : Nat} (hr : ∀ r ∈ rows, RowOk rows.length r) (hi : i < rows.length) {g : Int} (h0 : 0 ≤ g) (h1 : g ≤ 10 ^ 30) : Turn (.nm 3) [3, 4, 5, 6, 7] b_p_law_steps_2 (.int (0 + (i : Int)))
    [some (.sh (bookP k a ss rows)), some (.sh (.lst (rowsP rows))), some (.sh (.int g)), none, none, none, none, none]
    [some (.sh (bookP k a ss rows)), some (.sh (.lst (rowsP rows))), some (.sh (.int g)), none, none, none, none, none] := by
  have loop : forGo (.nm 4) [4, 5, 6] b_p_law_steps_1 (rngP 0 13 ++ [.int g]) [some (.sh (bookP k a ss rows)), some (.sh (.lst (rowsP rows))), some (.sh (.int g)), some (.sh (.int i)), none, none, none, none] = .nx [some (.sh (bookP k a ss rows)), some (.sh (.lst (rowsP rows))), some (.sh (.int g)), some (.sh (.int i)), none, none, none, none] := by
    have e : rngP 0 13 ++ [PV.int g] = (((List.range 13).map fun (k : Nat) => (0 : Int) + (k : Int)) ++ [g]).map PV.int := by rw [rngP_eq]; simp
    rw [e]
    refine forGo_same _ fun t ht => ?_
    refine steps_turn hr hi ?_ ?_
    · rcases List.mem_append.mp ht with ht | ht
      · obtain ⟨d, _, rfl⟩ := List.mem_map.mp ht; omega
      · rw [List.mem_singleton.mp ht]; exact h0
    · rcases List.mem_append.mp ht with ht | ht
      · obtain ⟨d, hd, rfl⟩ := List.mem_map.mp ht
        have : d < 13 := by simpa using hd
        omega
      · rw [List.mem_singleton.mp ht]; exact h1
  have st := step_amount (k := k) (a := a) (ss := ss) (rows := rows) (i := i) (t := 10 ^ 30 + 1 + i) hi (by omega)
  refine .of ?_
  unfold b_p_law_steps_2
  simp only [bookP, badA] at loop st ⊢
  rw [show (10 : Int) ^ 30 = 1000000000000000000000000000000 by rfl] at st
  simp only [show (1000000000000000000000000000000 : Int) + 1 = 1000000000000000000000000000001 by rfl] at st
  simp (disch := walk_at "d") [loop, st, List.lookup]
theorem steps_ok (hr : ∀ r ∈ rows, RowOk rows.length r) (hn : rows.length ≤ 12) {g : Int} (h0 : 0 ≤ g) (h1 : g ≤ 10 ^ 30) : F_p_law_steps [bookP k a ss rows, .lst (rowsP rows), .int g] = .ok (.sh (.bl true)) := by
  have hl : (rowsP rows).length = rows.length := by simp [rowsP]
  have loop : forGo (.nm 3) [3, 4, 5, 6, 7] b_p_law_steps_2 (rngP 0 rows.length) [some (.sh (bookP k a ss rows)), some (.sh (.lst (rowsP rows))), some (.sh (.int g)), none, none, none, none, none] = .nx [some (.sh (bookP k a ss rows)), some (.sh (.lst (rowsP rows))), some (.sh (.int g)), none, none, none, none, none] := by
    rw [rngP_eq]
    exact forGo_same _ fun i hi => steps_row hr (by simpa using hi) h0 h1
  have q1 := no_state_ok (k := k) (a := a) (ss := ss) (rows := rows) (s := rows.length) (.inr (Int.le_refl _))
  have q2 := no_state_ok (k := k) (a := a) (ss := ss) (rows := rows) (s := -1) (.inl (by omega))
  rw [F_p_law_steps_at]
  unfold s_p_law_steps
  simp only [bookP] at loop q1 q2 ⊢
  simp (disch := walk_at "d") [hl, loop, q1, q2]
end
end K03

/-! equality, refusals -/
namespace K03
open PySem L2 L3
local macro_rules | `(tactic| walk_at "d") => `(tactic| first | assumption | omega | (simp only [szl, List.length_map, List.length_append, List.length_cons, List.length_nil, List.length_range, List.length_replicate, rngP_length]; omega) | exact Eq.refl _ | (simp; done) | decide)
theorem strOk_kinds {k : Str} (h : k ∈ kinds) : PyData.strOk k = true := by
  simp only [kinds, List.mem_cons, List.not_mem_nil, or_false] at h
  rcases h with rfl | rfl | rfl <;> decide +kernel
theorem stgP_inj : ∀ {s t : List (Int × Int)}, stgP s = stgP t ↔ s = t
  | [], [] => by simp
  | [], b :: t => by simp [stgP]
  | a :: s, [] => by simp [stgP]
  | (a1, a2) :: s, (b1, b2) :: t => by
    have := stgP_inj (s := s) (t := t)
    simp only [stgP] at this
    simp [stgP, this]
theorem intsP_inj : ∀ {s t : List Int}, s.map PV.int = t.map PV.int ↔ s = t
  | [], [] => by simp
  | [], b :: t => by simp
  | a :: s, [] => by simp
  | a :: s, b :: t => by simp [intsP_inj (s := s) (t := t)]
theorem rowsT_inj : ∀ {s t : List (List Int)}, rowsT s = rowsT t ↔ s = t
  | [], [] => by simp
  | [], b :: t => by simp [rowsT]
  | a :: s, [] => by simp [rowsT]
  | a :: s, b :: t => by
    have := rowsT_inj (s := s) (t := t)
    simp only [rowsT] at this
    simp [rowsT, this, intsP_inj]
theorem cln_ints {n : Nat} {l : List Int} : (l.map PV.int).all (cln n) = true := by
  rw [List.all_map]
  refine List.all_eq_true.mpr fun x _ => ?_
  cases n <;> simp [cln]
theorem cln_stg {n : Nat} {ss : List (Int × Int)} : (stgP ss).all (cln (n + 1)) = true := by
  unfold stgP
  rw [List.all_map]
  refine List.all_eq_true.mpr fun x _ => ?_
  cases n <;> simp [cln]
theorem cln_rowsT {n : Nat} {rows : List (List Int)} : (rowsT rows).all (cln (n + 1)) = true := by
  unfold rowsT
  rw [List.all_map]
  refine List.all_eq_true.mpr fun x _ => ?_
  have := cln_ints (n := n) (l := x)
  simpa [cln] using this
theorem cln_rowsP {n : Nat} {rows : List (List Int)} : (rowsP rows).all (cln (n + 1)) = true := by
  unfold rowsP
  rw [List.all_map]
  refine List.all_eq_true.mpr fun x _ => ?_
  have := cln_ints (n := n) (l := x)
  simpa [cln] using this
theorem rowsP_inj : ∀ {s t : List (List Int)}, rowsP s = rowsP t ↔ s = t
  | [], [] => by simp
  | [], b :: t => by simp [rowsP]
  | a :: s, [] => by simp [rowsP]
  | a :: s, b :: t => by
    have := rowsP_inj (s := s) (t := t)
    simp only [rowsP] at this
    simp [rowsP, this, intsP_inj]
section
variable {k k' : Str} {a a' : Int} {ss ss' : List (Int × Int)} {rows rows' : List (List Int)}
theorem isi_book : isiP tb_Book ic_Book (bookP k a ss rows) = .ok (.bl true) := by
  show R.of ((ic_Book 4).map PV.bl) = _
  simp
theorem isi_book_tup {l : List PV} : isiP tb_Book ic_Book (.tup l) = .ok (.bl false) := by kernel_rfl
theorem beq_book (hk : k ∈ kinds) (hk' : k' ∈ kinds) : F_Book_eq [bookP k a ss rows, bookP k' a' ss' rows'] = .ok (.sh (.bl (decide (k = k' ∧ a = a' ∧ ss = ss' ∧ rows = rows')))) := by
  have h1 := isi_book (k := k') (a := a') (ss := ss') (rows := rows')
  have c1 : cln 3 (.tup [.str k, .int a, .tup (stgP ss), .tup (rowsT rows)]) = true := by
    simp [cln, strOk_kinds hk]
    exact ⟨by simpa using cln_stg (n := 0), by simpa using cln_rowsT (n := 0)⟩
  have c2 : cln 3 (.tup [.str k', .int a', .tup (stgP ss'), .tup (rowsT rows')]) = true := by
    simp [cln, strOk_kinds hk']
    exact ⟨by simpa using cln_stg (n := 0), by simpa using cln_rowsT (n := 0)⟩
  have h2 := eq_cln 3 (by omega) c1 c2
  rw [F_Book_eq_at]
  unfold s_Book_eq
  simp only [bookP] at h1 ⊢
  simp (disch := walk_at "d") [h1, h2]
  simp [stgP_inj, rowsT_inj]
theorem beq_tup {l : List PV} : F_Book_eq [bookP k a ss rows, .tup l] = .ok (.sh (.bl false)) := by
  rw [F_Book_eq_at]
  unfold s_Book_eq
  simp (disch := walk_at "d") [isi_book_tup]
theorem eqo_book {neg : Bool} (hk : k ∈ kinds) (hk' : k' ∈ kinds) : eqoK 4 F_Book_eq neg (bookP k a ss rows) (bookP k' a' ss' rows') = .ok (.bl (if neg then !decide (k = k' ∧ a = a' ∧ ss = ss' ∧ rows = rows') else decide (k = k' ∧ a = a' ∧ ss = ss' ∧ rows = rows'))) := by
  show (if 4 = 4 ∧ eqY 4 (bookP k' a' ss' rows') = true then (match F_Book_eq [bookP k a ss rows, bookP k' a' ss' rows'] with
      | .ok (.sh (.bl b)) => R.ok (PV.bl (if neg then !b else b))
      | _ => .no) else .no) = _
  rw [if_pos ⟨rfl, by simp [eqY, bookP]⟩, beq_book hk hk']
theorem eqo_tup {neg : Bool} {l : List PV} : eqoK 4 F_Book_eq neg (bookP k a ss rows) (.tup l) = .ok (.bl (if neg then !false else false)) := by
  show (if 4 = 4 ∧ eqY 4 (.tup l) = true then (match F_Book_eq [bookP k a ss rows, .tup l] with
      | .ok (.sh (.bl b)) => R.ok (PV.bl (if neg then !b else b))
      | _ => .no) else .no) = _
  rw [if_pos ⟨rfl, by simp [eqY]⟩, beq_tup]
theorem refused_er {A S O : PV} {w p : Str} (h : F_Book_init [.str k, A, S, O] = .er (badP w)) : F_p_law_refused [.str k, A, S, O, .str p] = .ok (.sh (.bl (decide (w = p)))) := by
  rw [F_p_law_refused_at]
  unfold s_p_law_refused
  simp only [badP] at h
  simp (disch := walk_at "d") [h, List.lookup, Option.map]
end
/-! the bounds -/
def wrongP : PV := .lst (rowsP [[20, 20, 20, 20, 20, 20, 20, 20, 20, 20]])
theorem ins_bad {ss : List (Int × Int)} {q : Int × Int} {at_ : Nat} (hq : stgOk q = false) (h : at_ ≤ ss.length) (h3 : at_ < 3) : stOk ((ss.take at_ ++ [q] ++ ss.drop at_).take 3) = false := by
  unfold stOk
  have : q ∈ (ss.take at_ ++ [q] ++ ss.drop at_).take 3 := by
    refine List.mem_iff_getElem?.mpr ⟨at_, ?_⟩
    rw [List.getElem?_take_of_lt h3, List.append_assoc, List.getElem?_append_right (by simp; omega)]
    simp [List.length_take, Nat.min_eq_left h]
  have h2 : ((ss.take at_ ++ [q] ++ ss.drop at_).take 3).all stgOk = false := List.all_eq_false.mpr ⟨q, this, by rw [hq]; exact Bool.false_ne_true⟩
  rw [h2, Bool.and_false]
theorem stgP_ins {ss : List (Int × Int)} {q : Int × Int} {at_ : Nat} : (((stgP ss).take at_ ++ [PV.tup [PV.int q.1, PV.int q.2]]) ++ (stgP ss).drop at_).take 3 = stgP ((ss.take at_ ++ [q] ++ ss.drop at_).take 3) := by
  simp [stgP, List.map_take, List.map_drop]
def lowR (s t : Nat) (v : Int) : List (List Int) := (List.replicate 12 (List.replicate 10 0)).set s ((List.replicate 10 0).set t v)
theorem low_ok {s t : Nat} {v : Int} (hs : s < 12) (ht : t < 10) (hv : v = if t = 9 then 12 else 0) : OtOk (lowR s t v) := by
  have hl : (lowR s t v).length = 12 := by simp [lowR]
  have hm : ∀ r ∈ lowR s t v, r = List.replicate 10 0 ∨ r = (List.replicate 10 0).set t v := fun r hr => by
    rcases List.mem_or_eq_of_mem_set hr with h | h
    · exact .inl (List.eq_of_mem_replicate h)
    · exact .inr h
  have zr : RowOk 12 (List.replicate 10 0) := ⟨rfl, fun x hx => by rw [List.eq_of_mem_replicate hx]; omega⟩
  have vr : RowOk 12 ((List.replicate 10 0).set t v) := ⟨by simp, fun x hx => by
    rcases List.mem_or_eq_of_mem_set hx with h | h
    · rw [List.eq_of_mem_replicate h]; omega
    · rw [h, hv]; split <;> omega⟩
  have entz : ∀ i, ent (List.replicate 10 0) i = 0 := fun i => by
    unfold ent
    simp only [List.getD_eq_getElem?_getD, List.getElem?_replicate]
    split <;> rfl
  have entv : ∀ i < 9, ent ((List.replicate 10 0).set t v) i = 0 := fun i hi => by
    unfold ent
    simp only [List.getD_eq_getElem?_getD, List.getElem?_set, List.getElem?_replicate]
    by_cases c : t = i
    · subst c
      have : v = 0 := by rw [hv, if_neg (by omega)]
      subst this
      rw [if_pos rfl]
      split <;> rfl
    · rw [if_neg c]
      split <;> rfl
  have entn : ent ((List.replicate 10 0).set t v) 9 = 0 ∨ ent ((List.replicate 10 0).set t v) 9 = 12 := by
    unfold ent
    simp only [List.getD_eq_getElem?_getD, List.getElem?_set, List.getElem?_replicate]
    by_cases c : t = 9
    · subst c
      rw [if_pos rfl] at hv
      subst hv
      exact .inr (by simp)
    · rw [if_neg c]
      exact .inl rfl
  refine ⟨by omega, fun r hr => ?_, fun r hr i hi => ?_⟩
  · rw [hl]
    rcases hm r hr with rfl | rfl
    · exact zr
    · exact vr
  · refine ⟨fun x y => x = y ∨ y = 12, fun x y hx hy hxy => ?_, ?_⟩
    · rw [hl] at hx hy ⊢
      refine ⟨by omega, fun h1 h2 t' _ => ?_⟩
      rcases hxy with rfl | h
      · exact .inl rfl
      · omega
    · rcases hm r hr with rfl | rfl
      · exact .inl (by rw [entz, entz])
      · rw [entv i hi]
        by_cases c : i + 1 < 9
        · exact .inl (entv _ c).symm
        · have : i + 1 = 9 := by omega
          rw [this]
          rcases entn with e | e
          · exact .inl e.symm
          · exact .inr e
end K03

/-! the law's bounds -/
namespace K03
open PySem L2 L3
local macro_rules | `(tactic| walk_at "d") => `(tactic| first | assumption | omega | (simp only [szl, repP_length, List.length_map, List.length_append, List.length_cons, List.length_nil, List.length_range, List.length_replicate, rngP_length]; omega) | exact Eq.refl _ | (simp; done) | decide)
theorem rep_expr {ρ : L3.Env} {x k : Int} (h0 : 0 ≤ k) (h : k ≤ 16777216) : eBin pyMul (eFz (fLst (aCons (eCst (.int x)) aNil))) (eCst (.int k)) ρ = .ok (.lst (repP (.int x) k.toNat)) := by
  have := mul_one (p := .int x) h h0
  simp (disch := walk_at "d") [this]
theorem cap_book {m : Bool} {k : Str} {a : Int} {ss : List (Int × Int)} {rows : List (List Int)} : capR m (.ok (.obj 4 (bookO k a ss rows))) = .ok (.obj 4 (bookO k a ss rows)) := capR_flat (by rw [ovflat_obj]; exact flat_book)
def okA (k : Str) (a : Int) : Prop := ¬ (a < 0 ∨ 9 < a ∨ (k = "plain" ∧ 0 < a))
section
variable {k : Str} {a : Int} {ss : List (Int × Int)} {rows : List (List Int)} {n : List Int} (hk : k ∈ kinds) (ha : okA k a) (hs : SsOk ss) (hn : n.length = 10) (hn0 : ∀ x ∈ n, 0 ≤ x ∧ x < 1000)
def wr : PV := .lst [.lst (repP (.int 20) 10)]
theorem not_ot {r : List Int} (h : ¬ RowOk 1 r) : ¬ OtOk [r] := fun z => h (z.r r List.mem_cons_self)
theorem wr_bad : ¬ OtOk [List.replicate 10 20] := not_ot fun z => by
  have := z.2 20 (by simp)
  omega
theorem bounds_pair (hss : ss.length ≤ 3) {q : Int × Int} (hq : stgOk q = false) {x y : OV} : True := trivial
include hk ha hs hn hn0 in
theorem bounds_turn {rp : PV} {q : Int × Int} (hq : stgOk q = false) : Turn (.nm 6) [6, 7] b_p_law_bounds_1 (.tup [.int q.1, .int q.2])
    [some (.sh (.str k)), some (.sh (.int a)), some (.sh (.lst (stgP ss))), some (.sh rp), some (.sh (.lst (n.map .int))), some (.sh wr), none, none, none, none, none]
    [some (.sh (.str k)), some (.sh (.int a)), some (.sh (.lst (stgP ss))), some (.sh rp), some (.sh (.lst (n.map .int))), some (.sh wr), none, none, none, none, none] := by
  have e1 : atI n 1 = some (el n 1) := el_at (l := n) (i := 1) (by omega)
  have h3 := hs.1
  have m0 := Int.emod_nonneg (el n 1) (show (ss.length : Int) + 1 ≠ 0 by omega)
  have m1 := Int.emod_lt_of_pos (el n 1) (show (0 : Int) < (ss.length : Int) + 1 by omega)
  have e2 := stgP_ins (ss := ss) (q := q) (at_ := (el n 1 % ((ss.length : Int) + 1)).toNat)
  have hl : ((stgP ss).take (el n 1 % ((ss.length : Int) + 1)).toNat).length ≤ 3 := by rw [List.length_take, stg_len]; omega
  have hl2 : ((stgP ss).drop (el n 1 % ((ss.length : Int) + 1)).toNat).length ≤ 3 := by rw [List.length_drop, stg_len]; omega
  refine .of ?_
  unfold b_p_law_bounds_1
  by_cases c : el n 1 % ((ss.length : Int) + 1) < 3
  · have bad := ins_bad (ss := ss) hq (at_ := (el n 1 % ((ss.length : Int) + 1)).toNat) (by omega) (by omega)
    have rf := refused_er (p := "stages") (book_stages (k := k) (a := a) (O := wr) (.inl rfl) hk ha bad)
    rw [← e2] at rf
    simp only [List.append_assoc, List.cons_append, List.nil_append] at rf
    simp (disch := first | walk_at "d" | (simp only [szl, List.length_append, List.length_cons, List.length_nil]; omega)) [e1, stg_len, m0, rf, c]
  · have : ∃ b, F_p_law_refused [.str k, .int a, .lst ((((stgP ss).take (el n 1 % ((ss.length : Int) + 1)).toNat ++ [PV.tup [PV.int q.1, PV.int q.2]]) ++ (stgP ss).drop (el n 1 % ((ss.length : Int) + 1)).toNat).take 3), wr, .str "stages"] = .ok (.sh (.bl b)) := by
      rw [e2]
      cases hb : stOk ((ss.take (el n 1 % ((ss.length : Int) + 1)).toNat ++ [q] ++ ss.drop (el n 1 % ((ss.length : Int) + 1)).toNat).take 3) with
      | false => exact ⟨_, refused_er (p := "stages") (book_stages (k := k) (a := a) (O := wr) (.inl rfl) hk ha hb)⟩
      | true => exact ⟨_, refused_er (p := "stages") (book_overtime (k := k) (a := a) (rows := [List.replicate 10 20]) (.inl rfl) hk ha hb wr_bad)⟩
    obtain ⟨b, rf⟩ := this
    simp only [List.append_assoc, List.cons_append, List.nil_append] at rf
    simp (disch := first | walk_at "d" | (simp only [szl, List.length_append, List.length_cons, List.length_nil]; omega)) [e1, stg_len, m0, rf, c]
include hk ha hs in
theorem bounds_turn2 {x0 x1 x2 x3 : Option OV} {r : List Int} (hr : ¬ RowOk 1 r) : Turn (.nm 9) [9] b_p_law_bounds_2 (.lst (r.map .int))
    [some (.sh (.str k)), some (.sh (.int a)), some (.sh (.lst (stgP ss))), x0, x1, x2, none, none, x3, none, none]
    [some (.sh (.str k)), some (.sh (.int a)), some (.sh (.lst (stgP ss))), x0, x1, x2, none, none, x3, none, none] := by
  have rf := refused_er (p := "overtime") (book_overtime (k := k) (a := a) (rows := [r]) (.inl rfl) hk ha hs.b (not_ot hr))
  simp only [rowsP, List.map_cons, List.map_nil] at rf
  refine .of ?_
  unfold b_p_law_bounds_2
  simp (disch := walk_at "d") [rf]
def zO : List OV := (List.replicate 10 (0 : Int)).map fun x => .sh (.int x)
def lowO0 : List OV := (List.range 12).map fun _ => .own zO
def lowO (s t : Nat) (v : Int) : List OV := lowO0.set s (.own (zO.set t (.sh (.int v))))
theorem lowO_pv {s t : Nat} {v : Int} : OV.pvs (lowO s t v) = rowsP (lowR s t v) := by
  unfold lowO lowO0 lowR rowsP zO
  rw [pvs_eq, List.map_set, List.map_set, List.map_map]
  simp only [pv_own, pvs_eq, List.map_set, List.map_map, List.map_replicate]
  rfl
theorem low_made {ρ : L3.Env} : fLc (.nm 10) [10] (iRg rng1R (aCons (eCst (.int 12)) aNil)) tYesB c_p_law_bounds_1 ρ = .ok (.own lowO0) := by
  refine fLc_at (ps := rngP 0 12) (by simp (disch := walk_at "d")) (by (simp only [szl, rngP_length]; omega)) ?_
  rw [rngP_eq]
  refine lcGo_map (f := fun (k : Nat) => PV.int (0 + (k : Int))) _ fun t ht => ?_
  have e : mulL (.lst [.int 0]) (.int 10) = .ok ((List.replicate 10 (0 : Int)).map .int) := by
    show (if -(2 ^ 63) ≤ (10 : Int) ∧ (10 : Int) < 2 ^ 63 ∧ [PV.int 0].length * (10 : Int).toNat ≤ sizeLine then R.ok (List.replicate (10 : Int).toNat [PV.int 0]).flatten else R.no) = _
    rw [if_pos (by simp [szl])]
    rfl
  unfold c_p_law_bounds_1
  simp (disch := walk_at "d") only [fOp_at, eFz_at, fLst_at, aCons_at, aNil_at, eCst_at, cons2_ok, app1_ok, mkLst_ok, fz1_ok, pv_own, opF_ok, pvs_map, List.map_cons, List.map_nil, pv_sh, e, lst1_ok, pvs_cons, pvs_nil]
  rfl
theorem thirteen {ρ : L3.Env} : fLc (.nm 10) [10] (iRg rng1R (aCons (eCst (.int 13)) aNil)) tYesB c_p_law_bounds_2 ρ = .ok (.own ((List.replicate 13 (List.replicate 10 (0 : Int))).map fun r => .sh (.lst (r.map .int)))) := by
  refine fLc_at (ps := rngP 0 13) (by simp (disch := walk_at "d")) (by (simp only [szl, rngP_length]; omega)) ?_
  rw [rngP_eq]
  have : (List.replicate 13 (List.replicate 10 (0 : Int))) = (List.range 13).map fun _ => List.replicate 10 (0 : Int) := rfl
  rw [this, List.map_map]
  refine lcGo_map (f := fun (k : Nat) => PV.int (0 + (k : Int))) _ fun t ht => ?_
  unfold c_p_law_bounds_2
  simp (disch := walk_at "d") only [fSh_at, rep_expr, sh1_ok]
  rfl
theorem many_bad : ¬ OtOk (List.replicate 13 (List.replicate 10 0)) := fun z => by
  have := z.n
  simp at this
theorem plainn (c : Int) (h0 : c = 0 ∨ c = 1) : ∃ w, w ∉ kinds ∧ bin2 pyAdd (.ok (.str "plai")) (pyMul (.str "n") (.int (c * 2))) = .ok (.str w) := by
  rcases h0 with rfl | rfl
  · refine ⟨"plai" ++ strRep "n" 0, by decide +kernel, ?_⟩
    kernel_rfl
  · refine ⟨"plai" ++ strRep "n" 2, by decide +kernel, ?_⟩
    kernel_rfl
include hk ha hs hn hn0 in
theorem bounds_ok (hr : rows.length ≤ 12) : F_p_law_bounds [.str k, .int a, .lst (stgP ss), .lst (rowsP rows), .lst (n.map .int)] = .ok (.sh (.bl true)) := by
  have e0 : atI n 0 = some (el n 0) := el_at (l := n) (i := 0) (by omega)
  have e2 : atI n 2 = some (el n 2) := el_at (l := n) (i := 2) (by omega)
  have e3 : atI n 3 = some (el n 3) := el_at (l := n) (i := 3) (by omega)
  obtain ⟨w, hw, ew⟩ := plainn (el n 0 % 2) (by omega)
  have r1 := fun S : PV => refused_er (p := "kind") (book_kind (S := S) (O := wr) (A := .int 10) hw)
  have r2 := fun S : PV => refused_er (p := "allowance") (book_allowance (a := 10) (S := S) (O := wr) hk (.inr (.inl (by omega))))
  have r3 := refused_er (p := "allowance") (book_allowance (k := "plain") (a := 1) (S := .lst []) (O := .lst []) (by decide) (.inr (.inr ⟨rfl, by omega⟩)))
  have r4 := refused_er (p := "allowance") (book_allowance (a := -1) (S := .lst (stgP ss)) (O := .lst (rowsP rows)) hk (.inl (by omega)))
  have l1 : forGo (.nm 6) [6, 7] b_p_law_bounds_1 [.tup [.int 0, .int 1], .tup [.int 7, .int 1], .tup [.int 1, .int (-1)], .tup [.int 1, .int 61]]
    [some (.sh (.str k)), some (.sh (.int a)), some (.sh (.lst (stgP ss))), some (.sh (.lst (rowsP rows))), some (.sh (.lst (n.map .int))), some (.sh wr), none, none, none, none, none] = .nx
    [some (.sh (.str k)), some (.sh (.int a)), some (.sh (.lst (stgP ss))), some (.sh (.lst (rowsP rows))), some (.sh (.lst (n.map .int))), some (.sh wr), none, none, none, none, none] := by
    refine forGo_same (f := fun q : Int × Int => PV.tup [.int q.1, .int q.2]) [(0, 1), (7, 1), (1, -1), (1, 61)] fun q hq => bounds_turn hk ha hs hn hn0 ?_
    simp only [List.mem_cons, List.not_mem_nil, or_false] at hq
    rcases hq with rfl | rfl | rfl | rfl <;> decide
  have f4 : stOk [(1, 1), (1, 1), (1, 1), (1, 1)] = false := by decide
  have r5 := refused_er (p := "stages") (book_stages (k := k) (a := a) (O := wr) (ss := [(1, 1), (1, 1), (1, 1), (1, 1)]) (.inl rfl) hk ha f4)
  have q2 := Int.emod_nonneg (el n 2) (show (12 : Int) ≠ 0 by omega)
  have q2' := Int.emod_lt_of_pos (el n 2) (show (0 : Int) < 12 by omega)
  have q3 := Int.emod_nonneg (el n 3) (show (10 : Int) ≠ 0 by omega)
  have q3' := Int.emod_lt_of_pos (el n 3) (show (0 : Int) < 10 by omega)
  have hlow := low_ok (s := (el n 2 % 12).toNat) (t := (el n 3 % 10).toNat) (v := if el n 3 % 10 = 9 then 12 else 0) (by omega) (by omega) (by
    by_cases c : el n 3 % 10 = 9
    · rw [if_pos c, if_pos (by omega)]
    · rw [if_neg c, if_neg (by omega)])
  have b6 := book_ok (k := "delay") (a := 9) (ss := [(6, 60), (1, 0), (6, 0)]) (.inl rfl) (by decide) (by
    intro z
    rcases z with z | z | z
    · omega
    · omega
    · exact absurd z.1 (by decide)) (by decide) hlow
  rw [← lowO_pv] at b6
  have len6 : (rowsT (lowR (el n 2 % 12).toNat (el n 3 % 10).toNat (if el n 3 % 10 = 9 then 12 else 0))).length = 12 := by
    rw [rowsT_len]
    simp [lowR]
  have r7 := refused_er (p := "overtime") (book_overtime (k := k) (a := a) (rows := List.replicate 13 (List.replicate 10 0)) (.inl rfl) hk ha hs.b many_bad)
  have l2 : ∀ x, forGo (.nm 9) [9] b_p_law_bounds_2 [.lst (repP (.int 0) 9), .lst (repP (.int 0) 11), .lst (repP (.int 0) 9 ++ [.int 2]), .lst (.int (-1) :: repP (.int 0) 9)]
    [some (.sh (.str k)), some (.sh (.int a)), some (.sh (.lst (stgP ss))), some (.sh (.lst (rowsP rows))), some (.sh (.lst (n.map .int))), some (.sh wr), none, none, x, none, none] = .nx
    [some (.sh (.str k)), some (.sh (.int a)), some (.sh (.lst (stgP ss))), some (.sh (.lst (rowsP rows))), some (.sh (.lst (n.map .int))), some (.sh wr), none, none, x, none, none] := by
    intro x
    refine forGo_same (f := fun r : List Int => PV.lst (r.map .int)) [List.replicate 9 0, List.replicate 11 0, List.replicate 9 0 ++ [2], -1 :: List.replicate 9 0] fun r hr => bounds_turn2 hk ha hs ?_
    simp only [List.mem_cons, List.not_mem_nil, or_false] at hr
    rcases hr with rfl | rfl | rfl | rfl
    · intro z; have := z.1; simp at this
    · intro z; have := z.1; simp at this
    · intro z; have := z.2 2 (by simp); omega
    · intro z; have := z.2 (-1) (by simp); omega
  have hzl : lowO0.length = 12 := by simp [lowO0]
  have hz : zO.length = 10 := by simp [zO]
  have hget : ∀ i : Nat, i < 12 → lowO0[i]? = some (.own zO) := fun i hi => by
    unfold lowO0
    rw [List.getElem?_map, List.getElem?_range hi]
    rfl
  have hget2 := hget (el n 2 % 12).toNat (by omega)
  have hget3 : ∀ h : (el n 2 % 12).toNat < lowO0.length, lowO0[(el n 2 % 12).toNat]'h = .own zO := fun h => by simp [lowO0]
  simp only [stgP, List.map_cons, List.map_nil] at b6
  simp only [List.map_id'] at r7
  have wrd : (PV.lst [.lst (repP (.int 20) 10)]) = wr := rfl
  have lowd : lowO0.set (el n 2 % 12).toNat (.own (zO.set (el n 3 % 10).toNat (.sh (.int (if el n 3 % 10 = 9 then 12 else 0))))) = lowO (el n 2 % 12).toNat (el n 3 % 10).toNat (if el n 3 % 10 = 9 then 12 else 0) := rfl
  have m4 : pyMul (.lst [.tup [.int 1, .int 1]]) (.int 4) = .ok (.lst (stgP [(1, 1), (1, 1), (1, 1), (1, 1)])) := mul_one (by omega) (by omega)
  rw [F_p_law_bounds_at]
  unfold s_p_law_bounds
  simp (disch := walk_at "d") [↓rep_expr, wrd, e0, ew, r1, r2, r3, r4, l1, m4, r5, low_made, e2, e3, q2, q2', q3, q3', hzl, hz, hget2, hget3]
  simp (disch := first | (simp only [hz]; omega) | walk_at "d") only [ownR_own, st2_ok, atE_succ, atE_zero, getP_ix, hget2, getL_some, getP_nil, stG_own, upE_succ, upE_zero, setP_ix1, lowd, seqS_nx]
  have r7' : F_p_law_refused [.str k, .int a, .lst (stgP ss), .lst ((List.replicate 13 (List.replicate 10 (0 : Int))).map fun r => PV.lst (r.map .int)), .str "overtime"] = .ok (.sh (.bl true)) := r7.trans (by simp)
  have r13 := fun ρ : L3.Env => thirteen (ρ := ρ)
  generalize (List.replicate 13 (List.replicate 10 (0 : Int))) = thir at r7' r13
  simp (disch := walk_at "d") [b6, cap_book, pvf_book, len6, ↓rep_expr, r13, r7', l2]
end
end K03

/-! the law -/
namespace K03
open PySem L2 L3
local macro_rules | `(tactic| walk_at "d") => `(tactic| first | assumption | omega | (simp only [szl, repP_length, List.length_map, List.length_append, List.length_cons, List.length_nil, List.length_range, List.length_replicate, rngP_length]; omega) | exact Eq.refl _ | (simp; done) | decide)
theorem cellL {ns : List Int} (k : Nat) {K : Int} (h : K = k) : F_p_law_cell [.scr (ns.map .int), .int K] = .ok (.sh (.int (cell ns k))) := by
  subst h
  exact cell_ok
def ab (c : Int) : Int := if c < 0 then -c else c
theorem ab_nn {c : Int} : 0 ≤ ab c := by unfold ab; split <;> omega
theorem abs_ab {c : Int} : bAbs [.int c] = .ok (.int (ab c)) := rfl
section
variable {k : Str} {a : Int} {ss : List (Int × Int)} {rows : List (List Int)} {ns : List Int} (hk : k ∈ kinds) (ha : okA k a) (hs : SsOk ss)
theorem charge_turn (hk : k ∈ kinds) (ha0 : k = "plain" → a = 0) {x1 x4 x5 x6 x7 x11 x12 x13 : Option OV} {need : Int} (h0 : 0 ≤ need) : Turn (.nm 9) [9, 10] b_law_1 (.int need)
    [some (.sh (.scr (ns.map .int))), x1, some (.sh (.str k)), some (.sh (.int a)), x4, x5, x6, x7, some (.sh (bookP k a ss rows)), none, none, x11, x12, x13]
    [some (.sh (.scr (ns.map .int))), x1, some (.sh (.str k)), some (.sh (.int a)), x4, x5, x6, x7, some (.sh (bookP k a ss rows)), none, none, x11, x12, x13] := by
  have e4 := cellL (ns := ns) 4 (K := 4) rfl
  have h1 := charge_ok (k := k) (a := a) (ss := ss) (rows := rows) (n := need) (d := ab (cell ns 4) % (need + 1))
  have h2 := charged_ok (k := k) (a := a) (n := need) (d := ab (cell ns 4) % (need + 1)) hk ha0
  have h3 := fun x y u v : Int => pair_ok (x := x) (y := y) (u := u) (v := v) (.inr rfl)
  refine .of ?_
  unfold b_law_1
  simp only [bookP] at h1 ⊢
  simp (disch := walk_at "d") [e4, abs_ab, -abs_int, h1, h2, h3]
theorem copy_rows (hn : rows.length ≤ 12) {x0 x1 x2 x3 x4 x5 x7 x8 x9 x10 x11 x12 x13 : Option OV} : fLc (.nm 13) [13] (iSeq (eVar 6)) tYesB c_law_2 [x0, x1, x2, x3, x4, x5, some (.sh (.lst (rowsP rows))), x7, x8, x9, x10, x11, x12, x13] = .ok (.own (rows.map fun r => .own (r.map fun x => .sh (.int x)))) := by
  refine fLc_at (ps := rowsP rows) (by simp) (by simp [rowsP, szl]; omega) ?_
  unfold rowsP
  refine lcGo_map (f := fun r : List Int => PV.lst (r.map .int)) rows fun r _ => ?_
  unfold c_law_2
  simp
theorem tuple_rows (hn : rows.length ≤ 12) {x0 x1 x2 x3 x4 x5 x7 x8 x9 x10 x11 x12 x13 : Option OV} : fLc (.nm 13) [13] (iSeq (eVar 6)) tYesB c_law_3 [x0, x1, x2, x3, x4, x5, some (.sh (.lst (rowsP rows))), x7, x8, x9, x10, x11, x12, x13] = .ok (.own (rows.map fun r => .sh (.tup (r.map .int)))) := by
  refine fLc_at (ps := rowsP rows) (by simp) (by simp [rowsP, szl]; omega) ?_
  unfold rowsP
  refine lcGo_map (f := fun r : List Int => PV.lst (r.map .int)) rows fun r _ => ?_
  unfold c_law_3
  simp
theorem own_rows_pv : (OV.own (rows.map fun r => .own (r.map fun x => .sh (.int x)))).pv = .lst (rowsP rows) := by simp [rowsP, pvs_eq]
/-- the stages as the law draws them -/
def ssOf (n sz : List Int) : List (Int × Int) := (List.range (el n 2 % 4).toNat).map fun i => (1 + el sz i % 6, el sz i / 6 % 61)
theorem ssOf_ok {n sz : List Int} : SsOk (ssOf n sz) := by
  unfold ssOf
  refine ⟨by simp; omega, fun s hm => ?_⟩
  obtain ⟨i, _, rfl⟩ := List.mem_map.mp hm
  dsimp only
  omega
theorem made_stages {n sz : List Int} (hn : n.length = 10) (hz : sz.length = 6) {x0 x2 x3 x5 x6 x7 x8 x9 x10 x11 x12 x13 : Option OV} : fLc (.nm 12) [12] (iRg rng1R (aCons (eBin pyMod (eIdx (eVar 1) (eCst (.int 2))) (eCst (.int 4))) aNil)) tYesB c_law_1 [x0, some (.sh (.lst (n.map .int))), x2, x3, some (.sh (.lst (sz.map .int))), x5, x6, x7, x8, x9, x10, x11, x12, x13] = .ok (.own ((ssOf n sz).map fun s => .sh (.tup [.int s.1, .int s.2]))) := by
  have e2 : atI n 2 = some (el n 2) := el_at (l := n) (i := 2) (by omega)
  refine fLc_at (ps := rngP 0 (el n 2 % 4).toNat) (by simp (disch := walk_at "d") [e2]) (by simp [szl]; omega) ?_
  rw [rngP_eq]
  unfold ssOf
  rw [List.map_map]
  refine lcGo_map (f := fun (k : Nat) => PV.int (0 + (k : Int))) _ fun i hi => ?_
  have hi : i < (el n 2 % 4).toNat := by simpa using hi
  have ei := el_at (l := sz) (i := i) (by omega)
  unfold c_law_1
  simp (disch := walk_at "d") [ei]
theorem kind_at {x : Int} (h0 : 0 ≤ x) : ∃ k, k ∈ kinds ∧ atI [PV.str "plain", .str "delay", .str "bonus"] (x % 3) = some (.str k) := by
  have : x % 3 = 0 ∨ x % 3 = 1 ∨ x % 3 = 2 := by omega
  rcases this with e | e | e <;> rw [e]
  · exact ⟨"plain", by decide, by simp⟩
  · exact ⟨"delay", by decide, by simp⟩
  · exact ⟨"bonus", by decide, by simp⟩
def xRows : L3.Env → RS := sIf (bNot (eTst (eFz (fCall true F_p_law_honest [] (aCons (eVar 6) aNil))))) (sSeq (sIf (bNot (eTst (eFz (fCall true F_p_law_refused [] (aCons (eVar 2) (aCons (eVar 3) (aCons (eVar 5) (aCons (eVar 6) (aCons (eCst (.str "overtime")) aNil))))))))) (sRt (mSh (eCst (.bl false)))) sNx) (sSet 6 (mSh (eFz (fCall true F_p_law_rows [] (aCons (eFz (fCall true F_p_law_cell [] (aCons (eVar 0) (aCons (eCst (.int 2)) aNil)))) (aCons (eBin pyMod (eIdx (eVar 1) (eCst (.int 4))) (eCst (.int 5))) (aCons (eCst (.int 2)) aNil)))))))) sNx
include hk ha hs in
/-- the rows that the law goes on with -/
theorem rows_step {n : List Int} (hn : n.length = 10) (hr : ∀ r ∈ rows, RowOk rows.length r) (hl : rows.length ≤ 12) {x4 : Option OV} : ∃ rows', OtOk rows' ∧ xRows [some (.sh (.scr (ns.map .int))), some (.sh (.lst (n.map .int))), some (.sh (.str k)), some (.sh (.int a)), x4, some (.sh (.lst (stgP ss))), some (.sh (.lst (rowsP rows))), none, none, none, none, none, none, none] =
    .nx [some (.sh (.scr (ns.map .int))), some (.sh (.lst (n.map .int))), some (.sh (.str k)), some (.sh (.int a)), x4, some (.sh (.lst (stgP ss))), some (.sh (.lst (rowsP rows'))), none, none, none, none, none, none, none] := by
  obtain ⟨b, e, hb⟩ := law_honest_ok hr hl
  cases b with
  | true =>
    refine ⟨rows, ⟨hl, hr, hb.mp rfl⟩, ?_⟩
    unfold xRows
    simp (disch := walk_at "d") [e]
  | false =>
    have no : ¬ OtOk rows := fun z => by have := hb.mpr z.h; cases this
    have rf := refused_er (p := "overtime") (book_overtime (k := k) (a := a) (.inl rfl) hk ha hs.b no)
    have e4 : atI n 4 = some (el n 4) := el_at (l := n) (i := 4) (by omega)
    have ec := cellL (ns := ns) 2 (K := 2) rfl
    obtain ⟨rows', er, h1, h2, h3⟩ := rows_ok (cell := cell ns 2) (way := 2) (c := (el n 4 % 5).toNat) (by omega)
    have cst : (((el n 4 % 5).toNat : Nat) : Int) = el n 4 % 5 := by omega
    rw [cst] at er
    refine ⟨rows', ⟨by omega, by rw [h1]; exact h2, h3 (by omega)⟩, ?_⟩
    unfold xRows
    simp (disch := walk_at "d") [e, rf, e4, ec, er, rowsO, own_rows_pv, -pv_own]
def xGiven : L3.Env → RS := sIf (eTst (eBin pyGt (eB bLen (aCons (eOwn 7) aNil)) (eCst (.int 0)))) (sSt (pIx (pVar 7) (eCst (.int 0))) (eCst (.int 0)) (mSh (eCst (.int 99)))) sNx
theorem given_step {n : List Int} (hr : ∀ r ∈ rows, RowOk rows.length r) {x0 x1 x2 x3 x4 x5 x6 x8 : Option OV} : ∃ x7, xGiven [x0, x1, x2, x3, x4, x5, x6, some (.own (rows.map fun r => .own (r.map fun x => .sh (.int x)))), x8, none, none, none, none, none] = .nx [x0, x1, x2, x3, x4, x5, x6, x7, x8, none, none, none, none, none] := by
  cases rows with
  | nil =>
    refine ⟨some (.own []), ?_⟩
    unfold xGiven
    simp (disch := walk_at "d")
  | cons r rows =>
    have h1 := (hr r List.mem_cons_self).1
    refine ⟨some (.own ((OV.own ((r.map fun x => OV.sh (.int x)).set 0 (.sh (.int 99)))) :: rows.map fun r => .own (r.map fun x => .sh (.int x)))), ?_⟩
    unfold xGiven
    have z1 : ¬ ((rows.length : Int) + 1 ≤ 0) := by omega
    have z2 : (0 : Int) < (rows.length : Int) + 1 := by omega
    simp (disch := first | (simp only [List.length_map, List.length_cons, h1]; omega) | walk_at "d") [z2]
theorem ne_same (m : Nat) {p : PV} (hm : m < 63) (h : cln m p = true) : pyNe p p = .ok (.bl false) := by rw [ne_cln m hm h h]; simp
theorem cln_stgT : cln 2 (.tup (stgP ss)) = true := by simpa [cln] using cln_stg (n := 0) (ss := ss)
theorem cln_rowsTT : cln 2 (.tup (rowsT rows)) = true := by simpa [cln] using cln_rowsT (n := 0) (rows := rows)
theorem cln_rowsL : cln 2 (.lst (rowsP rows)) = true := by simpa [cln] using cln_rowsP (n := 0) (rows := rows)
end
theorem ss2_at {ss : List (Int × Int)} (hs : SsOk ss) : ∃ ss2, SsOk ss2 ∧ ss2 ≠ ss ∧ ifR (.ok (decide ((ss.length : Int) < 3))) (.ok (PV.lst (stgP ss ++ [PV.tup [.int 1, .int 0]]))) (.ok (PV.lst (stgP ss).tail)) = .ok (PV.lst (stgP ss2)) := by
  by_cases h : ss.length < 3
  · refine ⟨ss ++ [(1, 0)], ⟨by simp; omega, fun s hm => ?_⟩, fun z => ?_, ?_⟩
    · rcases List.mem_append.mp hm with hm | hm
      · exact hs.2 s hm
      · rw [List.mem_singleton.mp hm]; omega
    · have := congrArg List.length z
      simp at this
    · have h' : (ss.length : Int) < 3 := by omega
      simp [h', stgP]
  · have h' : ¬ (ss.length : Int) < 3 := by omega
    have h3 := hs.1
    refine ⟨ss.drop 1, ⟨by simp; omega, fun s hm => hs.2 s (List.mem_of_mem_drop hm)⟩, fun z => ?_, ?_⟩
    · have := congrArg List.length z
      simp at this
      omega
    · simp [h', stgP]
theorem k2_at {k : Str} : ∃ k2, k2 ∈ kinds ∧ k2 ≠ k ∧ k2 ≠ "plain" ∧ ifR (.ok (decide (k = "delay"))) (.ok (PV.str "bonus")) (.ok (PV.str "delay")) = .ok (PV.str k2) := by
  by_cases h : k = "delay"
  · exact ⟨"bonus", by decide, by rw [h]; decide, by decide, by simp [h]⟩
  · exact ⟨"delay", by decide, fun z => h z.symm, by decide, by simp [h]⟩
theorem fk {k : Str} {a : Int} {ss : List (Int × Int)} {rows : List (List Int)} : fldR "kind" ok_kind (.ok (bookP k a ss rows)) = .ok (.str k) := by unfold bookP; simp
theorem fal {k : Str} {a : Int} {ss : List (Int × Int)} {rows : List (List Int)} : fldR "allowance" ok_allowance (.ok (bookP k a ss rows)) = .ok (.int a) := by unfold bookP; simp
theorem fst {k : Str} {a : Int} {ss : List (Int × Int)} {rows : List (List Int)} : fldR "stages" ok_stages (.ok (bookP k a ss rows)) = .ok (.tup (stgP ss)) := by unfold bookP; simp
theorem fov {k : Str} {a : Int} {ss : List (Int × Int)} {rows : List (List Int)} : fldR "overtime" ok_overtime (.ok (bookP k a ss rows)) = .ok (.tup (rowsT rows)) := by unfold bookP; simp
theorem otNil : OtOk [] := ⟨by simp, (fun r hr => by cases hr), fun r hr => by cases hr⟩
theorem count_at {n : List Int} : ∃ c : Nat, c ≤ 12 ∧ (if el n 3 % 8 = 1 then 12 else el n 4 % 5) = (c : Int) := by
  by_cases h : el n 3 % 8 = 1
  · exact ⟨12, by omega, by rw [if_pos h]; rfl⟩
  · exact ⟨(el n 4 % 5).toNat, by omega, by rw [if_neg h]; omega⟩
theorem law_ok (ns : List Int) : F_law [.scr (ns.map .int)] = .ok (.sh (.bl true)) := by
  have c0 := cellL (ns := ns) 0 (K := 0) rfl
  have c1 := cellL (ns := ns) 1 (K := 1) rfl
  have c2 := cellL (ns := ns) 2 (K := 2) rfl
  have c3 := cellL (ns := ns) 3 (K := 3) rfl
  have c5 := cellL (ns := ns) 5 (K := 5) rfl
  have en := nums_ok' (c := cell ns 0) (s := 0) (N := 10) (n := 10) (m := 1000) rfl (by omega) (by omega) (by omega)
  have hn := nums_len (c := cell ns 0) (s := 0) (n := 10) (m := 1000) (by omega)
  have hn0 := nums_mem (c := cell ns 0) (s := 0) (n := 10) (m := 1000) (by omega)
  generalize nums (cell ns 0) 0 10 1000 = n at en hn hn0
  have ez := nums_ok' (c := cell ns 1) (s := 1) (N := 6) (n := 6) (m := 366) rfl (by omega) (by omega) (by omega)
  have hz := nums_len (c := cell ns 1) (s := 1) (n := 6) (m := 366) (by omega)
  generalize nums (cell ns 1) 1 6 366 = sz at ez hz
  have a0 : atI n 0 = some (el n 0) := el_at (l := n) (i := 0) (by omega)
  have a1 : atI n 1 = some (el n 1) := el_at (l := n) (i := 1) (by omega)
  have a3 : atI n 3 = some (el n 3) := el_at (l := n) (i := 3) (by omega)
  have a4 : atI n 4 = some (el n 4) := el_at (l := n) (i := 4) (by omega)
  have a5 : atI n 5 = some (el n 5) := el_at (l := n) (i := 5) (by omega)
  have a6 : atI n 6 = some (el n 6) := el_at (l := n) (i := 6) (by omega)
  obtain ⟨k, hk, ek⟩ := kind_at (hn0 _ (el_mem (l := n) (i := 0) (by omega))).1
  obtain ⟨a, ea⟩ : ∃ a, (if k = "plain" then 0 else el n 1 % 10) = a := ⟨_, rfl⟩
  have ha : okA k a := by
    unfold okA
    rw [← ea]
    split <;> intro z
    · omega
    · rename_i c; rcases z with z | z | z
      · omega
      · omega
      · exact c z.1
  have ha0 : k = "plain" → a = 0 := fun z => by rw [← ea, if_pos z]
  have mst := fun x0 x2 x3 x5 x6 x7 x8 x9 x10 x11 x12 x13 => made_stages hn hz (x0 := x0) (x2 := x2) (x3 := x3) (x5 := x5) (x6 := x6) (x7 := x7) (x8 := x8) (x9 := x9) (x10 := x10) (x11 := x11) (x12 := x12) (x13 := x13)
  have hs := ssOf_ok (n := n) (sz := sz)
  generalize ssOf n sz = ss at mst hs
  obtain ⟨c, hc, ec⟩ := count_at (n := n)
  obtain ⟨rows0, er, rl, rr, _⟩ := rows_ok (cell := cell ns 2) (way := el n 5) hc
  obtain ⟨rows, ho, exr⟩ := rows_step (ns := ns) (rows := rows0) hk ha hs hn (by rw [rl]; exact rr) (by omega) (x4 := some (.sh (.lst (sz.map .int))))
  unfold xRows at exr
  have cp := fun x0 x1 x2 x3 x4 x5 x7 x8 x9 x10 x11 x12 x13 => copy_rows ho.n (x0 := x0) (x1 := x1) (x2 := x2) (x3 := x3) (x4 := x4) (x5 := x5) (x7 := x7) (x8 := x8) (x9 := x9) (x10 := x10) (x11 := x11) (x12 := x12) (x13 := x13)
  have tp := fun x0 x1 x2 x3 x4 x5 x7 x8 x9 x10 x11 x12 x13 => tuple_rows ho.n (x0 := x0) (x1 := x1) (x2 := x2) (x3 := x3) (x4 := x4) (x5 := x5) (x7 := x7) (x8 := x8) (x9 := x9) (x10 := x10) (x11 := x11) (x12 := x12) (x13 := x13)
  have bk := book_ok (k := k) (a := a) (S := .lst (stgP ss)) (.inl rfl) hk ha hs.b ho
  have bkT := book_ok (k := k) (a := a) (S := .tup (stgP ss)) (.inr rfl) hk ha hs.b ho
  obtain ⟨x7, exg⟩ := given_step (rows := rows) ho.r (n := n) (x0 := some (.sh (.scr (ns.map .int)))) (x1 := some (.sh (.lst (n.map .int)))) (x2 := some (.sh (.str k))) (x3 := some (.sh (.int a))) (x4 := some (.sh (.lst (sz.map .int)))) (x5 := some (.sh (.lst (stgP ss)))) (x6 := some (.sh (.lst (rowsP rows)))) (x8 := some (.sh (bookP k a ss rows)))
  unfold xGiven at exg
  have n6 := hn0 _ (el_mem (l := n) (i := 6) (by omega))
  have lp := forGo_same (T := .nm 9) (fg := [9, 10]) (fb := b_law_1) (f := PV.int) [el n 6 % 12, ab (cell ns 3) % 10 ^ 20] (ρ := [some (.sh (.scr (ns.map .int))), some (.sh (.lst (n.map .int))), some (.sh (.str k)), some (.sh (.int a)), some (.sh (.lst (sz.map .int))), some (.sh (.lst (stgP ss))), some (.sh (.lst (rowsP rows))), x7, some (.sh (bookP k a ss rows)), none, none, none, none, none]) fun d hd => charge_turn hk ha0 (by
    simp only [List.mem_cons, List.not_mem_nil, or_false] at hd
    rcases hd with rfl | rfl
    · omega
    · exact Int.emod_nonneg _ (by decide))
  simp only [List.map_cons, List.map_nil] at lp
  have mv := moves_ok (k := k) (a := a) hs ho.n
  have st := fun (g : Int) (h0 : 0 ≤ g) (h1 : g ≤ 10 ^ 30) => steps_ok (k := k) (a := a) (ss := ss) ho.r ho.n h0 h1
  have p5 := Int.emod_nonneg (ab (cell ns 5)) (show (10 : Int) ^ 30 - 9 ≠ 0 by decide)
  have p5' := Int.emod_lt_of_pos (ab (cell ns 5)) (show (0 : Int) < 10 ^ 30 - 9 by decide)
  have st5 := st (ab (cell ns 5) % (10 ^ 30 - 9) + 10) (by omega) (by omega)
  obtain ⟨k2, hk2, k2n, k2p, ek2⟩ := k2_at (k := k)
  have ha2 : okA k2 a := by
    intro z
    rcases z with z | z | z
    · exact ha (.inl z)
    · exact ha (.inr (.inl z))
    · exact k2p z.1
  have bk2 := book_ok (k := k2) (a := a) (S := .lst (stgP ss)) (.inl rfl) hk2 ha2 hs.b ho
  obtain ⟨ss2, hs2, ss2n, ess2⟩ := ss2_at hs
  have bk3 := book_ok (k := k) (a := a) (S := .lst (stgP ss2)) (.inl rfl) hk ha hs2.b ho
  have bk4 := book_ok (k := k) (a := a) (S := .lst (stgP ss)) (.inl rfl) hk ha hs.b otNil
  have bnd := bounds_ok hk ha hs hn hn0 ho.n
  have hl : (rowsP rows).length = rows.length := by simp [rowsP]
  have k2n' : ¬ k = k2 := fun z => k2n z.symm
  have ss2n' : ¬ ss = ss2 := fun z => ss2n z.symm
  have eqB := fun (neg : Bool) (k' : Str) (hk' : k' ∈ kinds) (ss' : List (Int × Int)) (rows' : List (List Int)) => eqo_book (neg := neg) (k := k) (k' := k') (a := a) (a' := a) (ss := ss) (ss' := ss') (rows := rows) (rows' := rows') hk hk'
  simp only [List.map_nil, rowsP] at bk4
  simp only [show (10 : Int) ^ 30 - 9 = 999999999999999999999999999991 by rfl] at st5
  simp only [show (10 : Int) ^ 20 = 100000000000000000000 by rfl] at lp
  have hadd : pyAdd (.lst (stgP ss)) (.lst [.tup [.int 1, .int 0]]) = .ok (.lst (stgP ss ++ [.tup [.int 1, .int 0]])) := add_lst (by have := hs.1; simp only [stg_len, szl, List.length_cons, List.length_nil]; omega)
  rw [F_law_at]
  unfold s_law
  have foldR : ∀ rows : List (List Int), List.map (fun x => PV.lst (List.map (fun x => PV.int x) x)) rows = rowsP rows := fun _ => rfl
  have foldT : List.map (fun x => PV.tup (List.map (fun x => PV.int x) x)) rows = rowsT rows := rfl
  have foldB : ∀ k ss rows, PV.ins 4 (bookF k a ss rows) = bookP k a ss rows := fun _ _ _ => rfl
  have fold : List.map (fun x : Int × Int => PV.tup [.int x.1, .int x.2]) ss = stgP ss := rfl
  simp (disch := walk_at "d") [c0, en, a0, ek, a1, ea, c1, ez, ↓mst, fold, c2, a3, a4, ec, a5, er, rowsO, foldR, ↓exr, ↓cp, bk, cap_book, pvf_book, foldB, ne_same 2 (by omega) cln_rowsL, ↓exg, fk, fal, fst, fov, ne_same 2 (by omega) cln_stgT, ne_same 2 (by omega) cln_rowsTT, ↓tp, foldT, a6, c3, abs_ab, -abs_int, lp, mv, hl, c5, st5, ek2, bk2, eqB, hk2, hk, k2n', bkT, stg_len, hadd, ess2, bk3, ss2n', bk4, eqo_tup, bnd]
end K03


set_option maxHeartbeats 0 in
theorem PySem.Challenge.cw_flagfalls_k03_books_holds : PySem.Challenge.rw_flagfalls_k03_books.Holds := by
  exact K03.holds_of fun ns _ _ => K03.law_ok ns
