import PyProof.Rows.All
import Wide.All
import OpenK.AllK
import Wide.FinOn
import KE.KExcSuper
import HandS.ForExc
import HandS.ExcCtx
import KE.KExcIs
import HandS.ExcField
import HandS.ForMost
import HandS.IsInst
import HandS.Wide
import HandS.TupAny
import HandS.SortInts
import HandS.Deep
import HandS.TryOnly
import HandS.CallSlots
import HandS.Defaults
import HandS.HotCalls
import HandS.Style
import HandS.ForList
import KE.KStateDown
import Lean
import HandS.Base
import HandS.Call
import HandS.Ends
import HandS.EndBits
import HandS.More
import HandS.Words
import HandS.WordsExc
import HandS.Head0
import HandS.Head1
import HandS.Head2
import HandS.HeadEnd
import HandS.HeadHook1
import HandS.HeadHook2
import PyProof.InstEq
import HandS.Conv
import HandS.Gcd
import KE.KMathG
import HandS.RaiseMore
import KE.KOpsOwn
import HandS.Head3
import PySem.Challenge.RW_flagfalls_k02_stairs_joined
set_option Elab.async false
set_option linter.all false
set_option maxRecDepth 100000
set_option maxHeartbeats 4000000
section
/-! An own exception class over ValueError whose __init__ says super().__init__('..') and then keeps its one argument. -/
namespace X3
open PySem PySem.W PySem.Calls PyProof.Rows PySem.HandSPX
/-- __init__'s parameters, body, scope, by its field's and argument's name -/
def supA (p1 p2 : Pos) (a : Str) : Arguments := { posonlyargs := [], args := [{ arg := "self", annotation := none, pos := p1 }, { arg := a, annotation := none, pos := p2 }], vararg := none, kwonlyargs := [], kw_defaults := [], kwarg := none, defaults := [] }
def supB (msg : Str) (a : Str) (k : Nat) (p1 p2 p3 p4 p5 p6 q1 q2 q3 q4 : Pos) : List Stmt :=
  [.Expr (.Call (.Attribute (.Call (.Name "super" p1) [] [] p2) "__init__" p3) [.Constant (.str msg) k p4] [] p5) p6,
   .Assign [.Attribute (.Name "self" q1) a q2] (.Name a q3) q4]
def supS (a : Str) : Scope := { kind := .function, names := [("self", .local), (a, .local), ("__class__", .free), ("super", .globalImplicit)], isGenerator := false, isCoroutine := false, more := [] }
/-- its arguments bind as they stand -/
def BindS (f : Str) : Prop := ∀ (qual : Str) (p1 p2 : Pos) (body : List Stmt) (doc pm : Value) (an : Option Addr) (cdv ct : Value) (cc : Addr) (x v : Value),
  bindArgs (ksFn "__init__" qual (supA p1 p2 f) body (supS f) .none .none doc pm an cdv ct cc) ⟨[x, v], []⟩ = pure [(("self" : Str), x), (f, v)]
/-- the call stands on one line -/
def LineS (msg : Str) (k : Nat) (p1 p2 p3 p4 p5 : Pos) : Prop := ∀ env : Env, ∃ pl : Sem Bool, eval (.Call (.Attribute (.Call (.Name "super" p1) [] [] p2) "__init__" p3) [.Constant (.str msg) k p4] [] p5) env = (do
  let ov ← attributeBase (.Call (.Name "super" p1) [] [] p2) "__init__" env (eval (.Call (.Name "super" p1) [] [] p2) env)
  standAt p3.atName
  let (fn, fst) ← holding [ov] (getMethod ov "__init__" pl)
  callWith p5 fn fst (backTo p5 (starEach [.Constant (.str msg) k p4] env)) [])
/-- what the written part says of such a class, at C: its __init__ at fI keeps its argument as f -/
structure SupC (prog : Program) (K : Frag) (C fI : Addr) (f : Str) : Prop where
  cls : ∃ nm q N bs bm sn sub ab col dd k0 k1 k2 k3 k5, K.lookup C = some (excClassObj nm q C N bs bm true sn sub ab col dd k0 k1 k2 k3 k5 "ValueError.__new__") ∧ refsVE bm = true
  sa : findIn K (.ref C) "__setattr__" = some (some (.builtin "object.__setattr__"))
  noN : findIn K (.ref C) f = some none
  iC : findIn K (.ref C) "__init__" = some (some (.ref fI))
  tC : typeIn K (.ref fI) = some (.type "function")
  ve : subIn K (.ref C) (.type "ValueError") = some true
  sub : mroIn K C (.ref C) = some true
  sup : ks_superIn K C C "__init__" = some (some (.builtin "ValueError.__init__"))
  opq : nsIn K cStatics "thirdparty.any" = some none
  nsu : nsIn K mainGlobals "super" = some none
  top : (prog.main.scope.names.lookup ("super" : Str)).isSome = false
  ne : (f == ("self" : Str)) = false ∧ (f == ("super" : Str)) = false ∧ (f == ("__class__" : Str)) = false ∧ (f == ("__debug__" : Str)) = false
  bnd : BindS f
  fn : ∃ (qual msg : Str) (k : Nat) (oc : Value) (od : Option Addr) (doc pm : Value) (an : Option Addr) (cda cc : Addr) (ct : Value) (osl : Array (Option Value)) (p1 p2 p3 p4 p5 p6 p7 p8 q1 q2 q3 q4 : Pos),
    K.lookup fI = some ⟨oc, od, .func (ksFn "__init__" qual (supA p1 p2 f) (supB msg f k p3 p4 p5 p6 p7 p8 q1 q2 q3 q4) (supS f) .none .none doc pm an (.ref cda) ct cc), osl⟩ ∧ codeIn K (.ref cda) qual = true ∧ LineS msg k p3 p4 p5 p6 p7 ∧
    (∃ ccl cdd ccs vs file tf, K.lookup cda = some ⟨ccl, cdd, .fields vs, ccs⟩ ∧ vs[2]? = some (.str file tf) ∧ ((prog.main.file : Str) == file) = true) ∧
    ∃ cl cld csl, K.lookup cc = some ⟨cl, cld, .cell (some (.ref C)), csl⟩
/-- the exception as it stands when it is made -/
structure Made (h h' : Heap) (e C d : Addr) (f : Str) (v : Value) : Prop where
  keep : ∀ b o, h.get? b = some o → h'.get? b = some o
  new : h.objs.size ≤ e
  obj : ∃ t1, h'.get? e = some ({ cls := .ref C, dict := some d, data := .fields #[.ref t1, .none, .none, .none, .bool false, .none] } : Obj)
  dbig : h.objs.size ≤ d
  dne : d ≠ e
  ns : h'.Ns1 d (fun y => if y = f then some v else none)
section
variable {prog : Program} {w : World} {A : Around} {s : Shared} {K : Frag} {mg mb : Str → Option Value} {C fI : Addr} {f : Str}
/-- the bound built-in __init__, called -/
theorem call_mw {E : Value → Shared → Prop} {h : Heap} {g : Array GenState} {d : Drawn} {t : Nat} {os : OsState} {u x t0 C N : Addr} {nm q : Str} {bs bm : List Value} {hdct : Bool} {sn : List Str} {sub : List Value} {ab : Bool} {col : Option Bool} {dd : Option Addr} {k0 k1 k2 k3 k5 : Option Value} {rest : List Value} {Q : Value → Shared → Prop}
    (hC : h.get? C = some (excClassObj nm q C N bs bm hdct sn sub ab col dd k0 k1 k2 k3 k5 "ValueError.__new__")) (he : h.get? x = some (excO C t0)) (hu : h.get? u = some (kxs_mw "ValueError.__init__" x)) (hz : rest.length ≤ sizeLine)
    (hq : ∀ h' t1, (∀ b o, b ≠ x → h.get? b = some o → h'.get? b = some o) → h'.get? x = some (excO C t1) → Q .none ⟨h', g, d, t, os⟩) :
    wpAny (model prog w) A (call (.ref u) rest) Q E ⟨h, g, d, t, os⟩ := by
  refine wpAny_call (codeAny_of_tree ?_)
  show wpAny _ A.in1 (callAny (.ref u) ⟨rest, []⟩) _ _ _
  simp only [callAny]
  refine wpAny_bind (wpAny_load hu ?_)
  have e1 : (Value.type "method-wrapper" == Value.type "method" || Value.type "method-wrapper" == Value.type "builtin_function_or_method" || Value.type "method-wrapper" == Value.type "method-wrapper") = true := by decide
  simp only [kxs_mw, e1, if_true]
  refine KFB.if_so (by decide) ?_
  refine wpAny_bind (check_bound_init F.excBase_ValueError.toExcCallFacts hC he rfl ?_)
  refine wpAny_bind (wpAny_pure (wpAny_pure ?_))
  refine ⟨plainId_quiet F.excBase_ValueError.init.plain _, codeAny_builtin F.excBase_ValueError.initEntry ?_⟩
  exact exc_init_tree (cls := .ref C) (t0 := t0) (dv := none) (c2 := .none) (c3 := .none) (b4 := .bool false) he hz fun h' k e' _ => hq h' _ k e'

theorem init_run (T : SupC prog K C fI f) {R : Result → Shared → Prop} {x t0 : Addr} {v : Value} (X : K.In s.heap) (G : s.heap.Ns mainGlobals mg) (B : s.heap.Ns builtinsNs mb) (BB : ∀ y : Str, y ≠ "__name__" → mb y = bootBuiltins y) (hlim : s.heap.NoLimit)
    (hx : s.heap.get? x = some (excO C t0)) (hnx : K.lookup x = none) (hroom : A.depth < recursionLimit)
    (hq : ∀ h' tk dx t1, (∀ b o, b ≠ x → s.heap.get? b = some o → h'.get? b = some o) → h'.get? x = some ({ cls := .ref C, dict := some dx, data := .fields #[.ref t1, .none, .none, .none, .bool false, .none] } : Obj) → s.heap.objs.size ≤ dx → dx ≠ x →
      h'.Ns1 dx (fun y => if y = f then some v else none) → R (.ok (.ret .none)) { s with heap := h', toks := tk }) :
    codeAny (model prog w) A (.call (.ref fI) ⟨[.ref x, v], []⟩) R s := by
  obtain ⟨qual, msg, k, oc, od, doc, pm, an, cda, cc, ct, osl, p1, p2, p3, p4, p5, p6, p7, p8, q1, q2, q3, q4, ho, hcd, hline, ⟨ccl, cdd, ccs, vs, file, tf, hcode, hvs, hfile⟩, cl, cld, csl, hcell⟩ := T.fn
  obtain ⟨nm, q, N, bs, bm, sn, sub, ab, col, dd, k0, k1, k2, k3, k5, hC, hbm⟩ := T.cls
  obtain ⟨n1, n2, n3, n4⟩ := T.ne
  have hcl : clsIn K C = some { name := nm, bases := bs, mro := .ref C :: bm, ns := N, qualname := q, hasDict := true, slotNames := sn, subclasses := sub, abstract := ab, collection := col, hasDel := false } := by unfold clsIn; rw [hC] <;> rfl
  have lself : (supS f).names.lookup ("self" : Str) = some .local := by simp [supS, List.lookup]
  have larg : (supS f).names.lookup f = some .local := by simp [supS, List.lookup, n1]
  have lcls : (supS f).names.lookup ("__class__" : Str) = some .free := by
    have e : (("__class__" : Str) == f) = false := by rw [BEq.comm]; exact n3
    simp [supS, List.lookup, e, show (("__class__" : Str) == "self") = false by decide +kernel]
  have lsup : (supS f).names.lookup ("super" : Str) = some .globalImplicit := by
    have e : (("super" : Str) == f) = false := by rw [BEq.comm]; exact n2
    simp [supS, List.lookup, e, show (("super" : Str) == "self") = false by decide +kernel, show (("super" : Str) == "__class__") = false by decide +kernel]
  obtain ⟨hp, g, d, tk, os⟩ := s
  have hx' : hp.get? x = some (excO C t0) := hx
  refine ks_codeAny_call_defAt (fd := ksFn "__init__" qual (supA p1 p2 f) (supB msg f k p3 p4 p5 p6 p7 p8 q1 q2 q3 q4) (supS f) .none .none doc pm an (.ref cda) ct cc) (binds := [(("self" : Str), .ref x), (f, v)]) hroom (X _ _ ho) rfl hlim (codeRec_of X hcd) rfl
    (BindsTo.of_eq (T.bnd _ _ _ _ _ _ _ _ _ _ _ _)) ?c1 ?c2 (fun h1 hns k1' => ?_) rfl rfl rfl
  case c1 =>
    intro y hy
    simp only [supS, List.mem_cons, List.not_mem_nil, or_false] at hy
    rcases hy with rfl | rfl | rfl | rfl <;> exact fun z => nomatch z
  case c2 =>
    intro y hy
    simp only [List.mem_cons, List.not_mem_nil, or_false] at hy
    rcases hy with rfl | rfl
    · exact lself
    · exact larg
  have X1 : K.In h1 := X.keeps k1'
  have hx1 := k1' _ _ hx'
  have nself : (fun y => List.lookup y [(("self" : Str), Value.ref x), (f, v)].reverse) "self" = some (.ref x) := by
    have e : (("self" : Str) == f) = false := by rw [BEq.comm]; exact n1
    simp [List.lookup, e]
  have narg : (fun y => List.lookup y [(("self" : Str), Value.ref x), (f, v)].reverse) f = some v := by simp [List.lookup]
  have IA : InstAt h1 x (excO C t0) C none := ⟨hx1, rfl, rfl, trivial⟩
  have nsu : mg "super" = none := mg_none_of X G T.nsu
  obtain ⟨pl, hev⟩ := hline (ksEnv qual (supS f) hp.objs.size fI (.ref cda) cc)
  refine ks_wpAt_execs_cons (ks_wpAt_Expr_any (ks_wpAt_MethodCall (pl := pl) ?_ hev))
  refine ks_wpAt_super_base (s := ⟨h1, g, d, _, os⟩) lsup lcls (by decide) rfl (X1 _ _ ho) rfl rfl rfl (X1 _ _ hcode) rfl hvs hfile T.top ?_
  refine ks_loadName_global rfl lsup (loadGlobal_builtin (G.keeps k1') nsu (B.keeps k1') ((BB _ (by decide +kernel)).trans (by first | boot_by_name | rfl | kernel_rfl)) ⟨rfl, ?_⟩)
  refine wpAny_loadName_free rfl lcls rfl ⟨_, X1 _ _ hcell, rfl⟩ ?_
  refine wpAny_loadName_local rfl lself hns nself ?_
  refine ks_wpAny_isType_cls (X1 _ _ hC) rfl ⟨rfl, ?_⟩
  refine ks_wpAny_call_super (X1 _ _ hC) rfl hx1 rfl (fun c e => nomatch e) (looks_mroIn X1 T.sub) (fun h2 e2 k2 => ?_)
  have X2 : K.In h2 := X1.keeps k2
  have hx2 := k2 _ _ hx1
  have IA2 : InstAt h2 x (excO C t0) C none := ⟨hx2, rfl, rfl, trivial⟩
  have hsup : alongIn K "__init__" (((Value.ref C :: bm).dropWhile (· != .ref C)).drop 1) = some (some (.builtin "ValueError.__init__")) := by
    have z := T.sup
    unfold ks_superIn at z
    rw [hcl] at z
    exact z
  refine kxs_getMethod kxs_ValueError e2 (looks_opaque X2 T.opq) (l₀ := .ref C :: bm) (fun A' Q' E' s' k' q' => wpAny_bind ((looks_clsIn X2 hcl) A' _ E' s' k' (wpAny_pure q'))) rfl X2 hsup (IA2.type.andThen (looks_subIn X2 T.ve)) (ks_ne X2 IA2 hcl) (by decide +kernel) ?_
  have hu : (h2.push (kxs_mw "ValueError.__init__" x)).get? h2.objs.size = some (kxs_mw "ValueError.__init__" x) := Heap.get?_push_at rfl rfl
  have k3 : ∀ b o, h2.get? b = some o → (h2.push (kxs_mw "ValueError.__init__" x)).get? b = some o := fun b o e => Heap.get?_push_of_some _ e
  have xne : x ≠ h2.objs.size := Nat.ne_of_lt (Heap.lt_size hx2)
  show wpAny _ _ (callWith p7 (.ref h2.objs.size) [] (backTo p7 (starEach [.Constant (.str msg) k p6] (ksEnv qual (supS f) hp.objs.size fI (.ref cda) cc))) []) _ _ _
  refine kxs_callWith (i := "ValueError.__init__") (x := x) rfl (evalArgs_plain ?_)
  show wpAny _ _ (spliced ((false, eval (.Constant (.str msg) k p6) (ksEnv qual (supS f) hp.objs.size fI (.ref cda) cc)) :: backTo p7 (starEach [] (ksEnv qual (supS f) hp.objs.size fI (.ref cda) cc)))) _ _ _
  refine Calls.spliced_cons (Calls.Constant_str (Calls.spliced_nil ?_))
  refine ⟨hu, ?_⟩
  refine call_mw (X2.keeps k3 _ _ hC) (k3 _ _ hx2) hu (by show 1 ≤ sizeLine; rw [sizeLine_eq]; decide) fun h4 t1 k4 hx4 => ?_
  have X4 : K.In h4 := fun a o e => k4 a o (fun z => by rw [z, hnx] at e; cases e) (X2.keeps k3 a o e)
  have b1 : ∀ b o, b ≠ x → h1.get? b = some o → h4.get? b = some o := fun b o hb e => k4 b o hb (k3 _ _ (k2 _ _ e))
  have lne : hp.objs.size ≠ x := Nat.ne_of_gt (Heap.lt_size hx')
  have hns4 : h4.Ns hp.objs.size (fun y => List.lookup y [(("self" : Str), Value.ref x), (f, v)].reverse) := by
    obtain ⟨oL, es, ep, hL, r⟩ := hns
    exact ⟨oL, es, ep, b1 _ _ lne hL, r⟩
  show PySem.wpAt _ _ _ (execs [.Assign [.Attribute (.Name "self" q1) f q2] (.Name f q3) q4] (ksEnv qual (supS f) hp.objs.size fI (.ref cda) cc)) _ _ _
  refine wpAt_of_wpAny (wpAny_execs_cons (plainObj_wpAny_Assign_Attribute ?_))
  refine wpAny_Name (wpAny_loadName_local rfl larg hns4 narg ?_) n4
  refine wpAny_Name (wpAny_loadName_local rfl lself hns4 nself ?_) (by decide)
  refine set_plain X4 (ox := excO C t1) (od := none) ⟨hx4, rfl, rfl, trivial⟩ T.sa ?_
  refine PySem.HandSPX.exc_osa X4 hx4 hcl (show refsVE (.ref C :: bm) = true from hbm) rfl T.noN (fun h5 tk5 dx k5 dn dne hx5 hn5 => ?_)
  exact wpAny_execs_nil (hq h5 tk5 dx t1 (fun b o hb e => k5 b o hb (b1 b o hb (k1' _ _ e))) hx5 (Nat.le_trans (Nat.le_of_lt hns4.lt) dn) dne hn5)
/-- the class, called -/
theorem made_of (T : SupC prog K C fI f) {R : Result → Shared → Prop} {v : Value} (X : K.In s.heap) (G : s.heap.Ns mainGlobals mg) (B : s.heap.Ns builtinsNs mb) (BB : ∀ y : Str, y ≠ "__name__" → mb y = bootBuiltins y) (hlim : s.heap.NoLimit) (hroom : A.depth + 1 < recursionLimit)
    (hq : ∀ h' tk e d, Made s.heap h' e C d f v → R (.ok (.ret (.ref e))) { s with heap := h', toks := tk }) :
    codeAny (model prog w) A (.call (.ref C) ⟨[v], []⟩) R s := by
  obtain ⟨nm, q, N, bs, bm, sn, sub, ab, col, dd, k0, k1, k2, k3, k5, hC, hbm⟩ := T.cls
  obtain ⟨hp, g, d, tk, os⟩ := s
  have k : ∀ b o, hp.get? b = some o → ((hp.push (kdv_tup [v])).push (PySem.HandSPX.excO C hp.objs.size)).get? b = some o := fun b o e => Heap.get?_push_of_some _ (Heap.get?_push_of_some _ e)
  have hget : ((hp.push (kdv_tup [v])).push (PySem.HandSPX.excO C hp.objs.size)).get? (hp.objs.size + 1) = some (PySem.HandSPX.excO C hp.objs.size) := by heap_get
  have hnx : K.lookup (hp.objs.size + 1) = none := by
    cases e : K.lookup (hp.objs.size + 1) with
    | none => rfl
    | some o => exact absurd (Nat.lt_of_succ_lt (Heap.lt_size (show hp.get? _ = some o from X _ _ e))) (Nat.lt_irrefl _)
  refine PySem.HandSPX.call_own F.excBase_ValueError (fun Y => refsVE_contains Y bm hbm) (X _ _ hC) (looks_findIn X T.iC) (fun self => bind_fn X self T.tC) (by show 1 ≤ sizeLine; rw [sizeLine_eq]; decide) ?_
  refine init_run (mg := mg) (mb := mb) (s := ⟨(hp.push (kdv_tup [v])).push (PySem.HandSPX.excO C hp.objs.size), g, d, tk, os⟩) T (X.keeps k) (G.keeps k) (B.keeps k) BB (hlim.keeps k) hget hnx (by show A.depth + 1 < recursionLimit; exact hroom) fun h' tk' dx t1 k' hx dn dne hns => ?_
  have old : ∀ b o, hp.get? b = some o → h'.get? b = some o := fun b o e => k' b o (Nat.ne_of_lt (Nat.lt_succ_of_lt (Heap.lt_size e))) (k b o e)
  have z : hp.objs.size + 1 + 1 ≤ dx := by
    have q' := dn
    first
      | (simpa only [Heap.size_push] using q')
      | (rw [Heap.size_push, Heap.size_push] at q'; exact q')
  exact ⟨rfl, hq h' tk' (hp.objs.size + 1) dx ⟨old, Nat.le_succ _, ⟨t1, hx⟩, Nat.le_trans (Nat.le_trans (Nat.le_succ _) (Nat.le_succ _)) z, dne, hns⟩⟩
end
end X3

end
section
namespace X3
open PySem PySem.W PySem.Calls PyProof.Rows L2
/-! ### C(e) -/
section
variable {X : Cx} {C fI : Addr} {f : Str}
def tMkSup (C : Addr) (f : Str) (te : TE) : L2.St → Hp → XK → Prop := fun σ H Q => te σ H fun v H1 => ∀ d, H1 d = none → Q (.ref C) (some d) (upd H1 d (.xd [(f, v)]))
theorem relO_one {v : V} {u : Value} (r : RelV v u) (f g : Str) : RelO (List.lookup g [(f, v)]) (if g = f then some u else none) := by
  by_cases h : g = f
  · subst h
    have e : List.lookup g [(g, v)] = some v := by simp [List.lookup]
    rw [if_pos rfl, e]
    exact r
  · have e : List.lookup g [(f, v)] = none := by
      have z : (g == f) = false := by simpa using h
      simp [List.lookup, z]
    rw [if_neg h, e]
    trivial
theorem pmk_sup {a : Expr} {te : TE} {x : Str} {p pos : Pos} {k : Nat} (T : SupC X.prog X.K C fI f) (gC : X.mg x = some (.ref C)) (kC : keepIn X.K (.ref C) = true) (rs : Raises X (.ref C)) (hr : X.A.depth + 1 < recursionLimit) (ha : PE X a te) (hg : Gl X x := by rfl)
    (hdb : (x == ("__debug__" : Str)) = false := by decide) (he : starEach (a :: []) X.env = (false, eval a X.env) :: starEach [] X.env := by rfl) (hpl : (backTo pos (starEach [] X.env)).any (·.1) = false := by rfl) :
    L2N.PMk X (.Call (.Name x p) [a] [] pos) (tMkSup C f te) := by
  intro pins s σ H Q I h
  refine wpAny_Call_Name_kw (ld_glob I hg gC ?_ hdb)
  have hpa : PA X [a] (tCons te tNil) := pa_cons ha pa_nil he
  refine callWith_K (h₀ := X.base) I.ok.mod.kin kC (thn (hpa.run pos pins s σ H (fun vs H1 => match vs with
    | [v] => ∀ d, H1 d = none → Q (.ref C) (some d) (upd H1 d (.xd [(f, v)]))
    | _ => False) I h) fun us s1 hh => ?_) he hpl
  obtain ⟨vs, H1, I1, r1, q0⟩ := hh
  obtain ⟨v, ev, q1⟩ : ∃ v, vs = [v] ∧ ∀ d, H1 d = none → Q (.ref C) (some d) (upd H1 d (.xd [(f, v)])) := by
    match vs, q0 with
    | [v], q0 => exact ⟨v, rfl, q0⟩
  subst ev
  refine ⟨I1.kIn, ?_⟩
  cases r1 with
  | cons rv rn =>
    rename_i u us'
    cases rn
    show wpAny _ _ (call (.ref C) [u]) _ _ _
    have hlim := I1.nolimit
    obtain ⟨mb, hmb1, hmb2⟩ := I1.mod.blt
    have G1 : s1.heap.Ns mainGlobals X.mg := I1.mod.glob.keeps I1.bk
    have B1 : s1.heap.Ns builtinsNs mb := hmb1.keeps I1.bk
    obtain ⟨hp, g, dr, tk, os⟩ := s1
    refine wpAny_call (made_of (mg := X.mg) (mb := mb) T I1.kIn G1 B1 hmb2 hlim hr fun h' tk' e d M => ?_)
    show L2N.MkP X pins σ Q (.ref e) ⟨h', g, dr, tk', os⟩
    obtain ⟨t1, hoe⟩ := M.obj
    obtain ⟨G', g1, g2⟩ := restrict h' fun b => decide (b ≠ e)
    have gk : ∀ b, b ≠ e → G'.get? b = h'.get? b := fun b hb => g1 b (decide_eq_true hb)
    have ge : G'.get? e = none := g2 e (by simp)
    have old : ∀ b o, hp.get? b = some o → G'.get? b = some o := fun b o q => (gk b (Nat.ne_of_lt (Nat.lt_of_lt_of_le (Heap.lt_size q) M.new))).trans (M.keep b o q)
    have ob : ObjOk X.prog X.w (upd H1 d (.xd [(f, v)])) G' d (.xd [(f, v)]) := ⟨_, M.ns.at (fun o q => (gk d M.dne).trans q), fun y => relO_one rv f y⟩
    have J : Inv X pins σ (upd H1 d (.xd [(f, v)])) ⟨G', g, dr, tk', os⟩ := I1.laid (t' := tk') old M.dbig ob
    refine ⟨e, _, _, ⟨G', g, dr, tk', os⟩, _, .ref C, some d, rfl, J, fun b o q => ?_, ge, hoe, ⟨rfl, rfl, fun vs e => by cases e; rfl⟩, rfl, rfl, ?_, rfl, I1.bare, rs, q1 d (I1.hok.fresh M.dbig)⟩
    · by_cases hb : b = e
      · have q' : G'.get? b = some o := q
        rw [hb, ge] at q'
        cases q'
      · exact (gk b hb).symm.trans q
    · rw [upd_ne (Ne.symm M.dne)]
      exact I1.hok.fresh M.new
end
/-! ### isinstance(e, D) of the exception that a suite holds, whatever its dict -/
structure ExI (K : Frag) (D : Addr) : Prop where
  c0 : (clsIn K D).isSome = true
  ga : findIn K (.ref D) "__getattribute__" = some (some (.builtin "BaseException.__getattribute__"))
  gg : findIn K (.ref D) "__getattr__" = some none
  be : subIn K (.ref D) (.type "BaseException") = some true
  cl : findIn K (.ref D) "__class__" = some (some (.builtin "object.__class__"))
  sp : specialIn K (.builtin "object.__class__") "__get__" = some (some (.builtin "getset_descriptor.__get__"))
  tk : takesIn K (.builtin "object.__class__") = some true
  mo : mroIn K D (.type "object") = some true
def rIsX (K : Frag) (D a : Addr) : List V → Hp → VK → Prop := fun xs H Q => ∃ (c : V) (cv : Value) (b : Bool), xs = [.ref a, c] ∧ (∀ u, RelV c u → u = cv) ∧ kitOne K (.ref D) cv = some b ∧ Q (.bl b) H
theorem call_isX {X : Cx} {a D : Addr} {oe : Obj} {d : Option Addr} {fs : List (Str × V)} {pn : List (Addr × Obj)} (T : ExI X.K D) (hz : Zc (.ref D) d oe) (hf : ∃ vs, oe.data = .fields vs) :
    CallR (X.suite a ((a, oe) :: pn)) (.builtin "isinstance") (fun xs H Q => (∀ dd, d = some dd → H dd = some (.xd fs)) ∧ rIsX X.K D a xs H Q) := by
  intro pins s σ H xs us Q I r h
  obtain ⟨hd, c, cv, b, rfl, hcv, e, q⟩ := h
  cases r with
  | cons rx rr =>
    cases rr with
    | cons rt rr =>
      cases rr
      cases rx
      have ec := hcv _ rt
      subst ec
      obtain ⟨hget, _⟩ := I.pin (a, oe) (List.mem_append.mpr (.inl List.mem_cons_self))
      obtain ⟨vs, hv⟩ := hf
      have J : ∃ odo, InstAt s.heap a oe D odo := by
        obtain ⟨oc, od, oda, osl⟩ := oe
        obtain ⟨h1, h2⟩ := hz
        dsimp only at h1 h2 hv
        subst h1 h2 hv
        cases od with
        | none => exact ⟨none, hget, rfl, rfl, trivial⟩
        | some dd =>
          have hx : ObjOk X.prog X.w H s.heap dd (.xd fs) := I.hok dd _ (hd dd rfl)
          obtain ⟨mA, hns, hr⟩ := hx
          obtain ⟨o2, ho2, hl⟩ := lookIn_ns hns
          exact ⟨some o2, hget, rfl, rfl, ho2⟩
      obtain ⟨odo, J⟩ := J
      exact kia_one (kitx_exc T.c0 T.ga T.gg T.be T.cl T.sp T.tk T.mo) I.kIn J e (fun z => nomatch z) fun tk => ⟨.bl b, H, I.kept (t' := tk) fun _ _ z => z, rfl, q⟩
end X3

end
section
/-! try with any number of except clauses, each with or without a name, over exceptions whose context is None -/
namespace X3
open PySem PySem.W PySem.Calls PyProof.Rows L2
abbrev Su := Addr → Value → Option Addr → TS
/-- what stands behind a suite whose name (slot i) goes -/
def Ends.gone (D : Ends) (i : Nat) : Ends where
  nx := fun σ H => D.nx (σ.set i none) H
  rt := D.rt
  bk := fun σ H => D.bk (σ.set i none) H
  ct := fun σ H => D.ct (σ.set i none) H
/-- one clause's suite, by whether it has a name -/
def suT (o : Option Nat) (ts : Su) (a : Addr) (cls : Value) (d : Option Addr) (D : Ends) (σ : L2.St) (H : Hp) : Prop :=
  match o with
  | none => ts a cls d D σ H
  | some i => ts a cls d (Ends.gone D i) (σ.set i (some (.ref a))) H
def wH (K : Frag) (Wout : WX) (D : Ends) : List (Value × Option Nat × Su) → WX
  | [] => Wout
  | (c, o, ts) :: r => fun cls d σ H =>
    ∃ b, exmOne K cls c = some b ∧ (b = true → ∀ a, H a = none → suT o ts a cls d D σ H) ∧
      (b = false → wH K Wout D r cls d σ H)
/-- the suite under any pins -/
def SuOk (X : Cx) (l : List Stmt) (ts : Su) : Prop :=
  ∀ (a : Addr) (ob : Obj) (cls : Value) (d : Option Addr) (pl : List (Addr × Obj)), L2N.Zn cls d ob →
    (∃ vs, ob.data = .fields vs) → PSs (X.suite a ((a, ob) :: pl)) l (ts a cls d)
inductive HdOk (X : Cx) : List ExceptHandler → List (Value × Option Nat × Su) → Prop
  | nil : HdOk X [] []
  | bare {x : Str} {c : Value} {ts : Su} {b₀ : Stmt} {su : List Stmt} {p1 p2 : Pos} {hds : List ExceptHandler} {l : List (Value × Option Nat × Su)} (hc : Names X x c) (hsu : SuOk X (b₀ :: su) ts) (r : HdOk X hds l) :
      HdOk X (.ExceptHandler (some (.Name x p1)) none (b₀ :: su) p2 :: hds) ((c, none, ts) :: l)
  | named {x n : Str} {i : Nat} {c : Value} {ts : Su} {b₀ : Stmt} {su : List Stmt} {p1 p2 : Pos} {hds : List ExceptHandler} {l : List (Value × Option Nat × Su)} (hN : X.N.Nodup) (hi : X.N[i]? = some n) (hl : X.env.kindOf n = some .local) (hc : Names X x c)
      (hsu : SuOk X (b₀ :: su) ts) (r : HdOk X hds l) : HdOk X (.ExceptHandler (some (.Name x p1)) (some n) (b₀ :: su) p2 :: hds) ((c, some i, ts) :: l)
section
variable {X : Cx} {body : List Stmt} {h₀ : ExceptHandler} {hds : List ExceptHandler} {l : List (Value × Option Nat × Su)} {pos : Pos} {tb : WX → TS} {Wout : WX}
theorem ps_tryH (hs : X.stack = X.env :: X.outer) (hf : X.env.frame = some X.env.locals) (tk : L2N.Takes X Wout)
    (hb : ∀ (W : WX) (pl : List (Addr × Obj)) (xe : Value → Shared → Prop), L2N.Takes (X.tr pl xe) W → PassesOwn (model X.prog X.w) X.A X.env xe → PSs (X.tr pl xe) body (tb W))
    (hh : HdOk X (h₀ :: hds) l) : PS X (.Try body (h₀ :: hds) [] [] pos) (fun D σ H => tb (wH X.K Wout D l) D σ H) := by
  refine ⟨fun pins st σ H D I hw => ?_⟩
  have ok := I.ok
  have frm : X.A.frames = some (X.env :: X.outer) := ok.frames.trans (congrArg some hs)
  let xe1 : Value → Shared → Prop := fun e s₁ => wpAny (model X.prog X.w) X.A (noteFrame e X.env) (fun _ s₂ =>
    wpAny (model X.prog X.w) X.A (setFlight e none) (fun _ s₃ =>
      wpAny (model X.prog X.w) X.A (handleBy e X.env (h₀ :: hds)) (SP X pins D) X.xe s₃) X.xe s₂) X.xe s₁
  have catch_ : L2N.Takes (X.tr (X.pn ++ pins) xe1) (wH X.K Wout D l) := by
    rintro u s4 ⟨e, B, sI, pl, τ, H4, cls, d, eu, I4, nb, up, sky, na, os, ag, hW⟩
    subst eu
    have J : Inv X pins τ H4 sI := I4.ofTry ok
    have sky2 : Sky B (X.env :: X.outer) e (L2N.Zn cls d) X.env.locals s4.heap := hs ▸ sky
    show wpAny (model X.prog X.w) X.A (noteFrame (.ref e) X.env) _ _ _
    refine L2N.Sky.land L2N.Zn.steady frm hf sky2 fun g3 fl3 up3 => ?_
    have J3 : Inv X pins τ H4 { s4 with heap := g3 } := J.landed nb fl3.1 (up.trans up3) os ag
    obtain ⟨ob3, va3, he3, hz3, hd3⟩ := fl3.there
    have away : e ∉ frs (X.env :: X.outer) := fun hm => by
      obtain ⟨_, o2, e2, hnf⟩ := fl3.2.2.1.mem hm
      rw [he3] at e2
      cases e2
      exact hnf _ hd3
    have nL : e ≠ X.env.locals := fun z => away (List.mem_filterMap.mpr ⟨X.env, List.mem_cons_self, hf.trans (congrArg some z.symm)⟩)
    have nF : e ∉ X.fs := fun hm =>
      let ⟨v, hv, q⟩ := List.mem_filterMap.mp hm
      away (List.mem_filterMap.mpr ⟨v, List.mem_cons_of_mem _ hv, q⟩)
    have S3 := J3.suite he3 hd3 na nL nF
    have tyE : Looks (model X.prog X.w) g3 (typeOf (.ref e)) cls := fun A Q E s k q =>
      wpAny_typeOf_ref (k _ _ he3) (by rw [hz3.1]; exact q)
    have name_ : ∀ {x : Str} {c : Value} {p : Pos} {Q E : Value → Shared → Prop}, Names X x c → Q c { s4 with heap := g3 } →
        wpAny (model X.prog X.w) (X.A.mark (some (.ref e))) (eval (.Name x p) X.env) Q E { s4 with heap := g3 } := by
      intro x c p Q E nm q
      obtain ⟨n1, n2, n3 | ⟨n3, n4, n5⟩⟩ := nm
      · exact ld_glob (X := X.suite e ((e, ob3) :: (X.pn ++ pins))) S3 n1 n3 q n2
      · exact ld_blt (X := X.suite e ((e, ob3) :: (X.pn ++ pins))) S3 n1 n3 n4 q n5 n2
    have all : ∀ {hs2 : List ExceptHandler} {l2 : List (Value × Option Nat × Su)}, HdOk X hs2 l2 → wH X.K Wout D l2 cls d τ H4 →
        wpAny (model X.prog X.w) X.A (handleBy (.ref e) X.env hs2) (SP X pins D) X.xe { s4 with heap := g3 } := by
      intro hs2 l2 hk
      induction hk with
      | nil =>
        intro w
        refine wpAny_handleBy_nil ?_
        obtain ⟨_, _, _, ob, va, T, _, _, he, _, hd, h1, _⟩ := id fl3
        unfold PySem.passOn
        refine wpAny_bind (wpAny_field he hd h1 ?_)
        rw [if_neg (show ¬ ((Value.ref T == Value.none) = true) by simp)]
        have out : wpAny (model X.prog X.w) X.A (setFlight (.ref e) X.env.frame)
            (fun _ s5 => wpAny (model X.prog X.w) X.A (throw (.ref e) : Sem Flow) (SP X pins D) X.xe s5) X.xe { s4 with heap := g3 } := by
          rw [hf]
          refine PySem.HandSPX.setFlight_upZ fl3 fun g4 held up4 => wpAny_throw (tk _ _ ?_)
          exact ⟨e, B, sI, pins, τ, H4, cls, d, rfl, J, nb, (up.trans up3).trans up4,
            .inr (.inr (by rw [hs]; exact held)), na, os, ag, w⟩
        first
          | exact wpAny_bind (wpAny_pure (wpAny_bind out))
          | exact wpAny_bind out
      | @bare x c ts b₀ su p1 p2 hds3 l3 hc hsu r ih =>
        rintro ⟨b, hb1, yes, no⟩
        refine wpAny_handleBy_cons (codeAny_handlers_test ?_) (fun q => nomatch q)
        refine name_ hc ((exm_one J3.kIn tyE hb1).here ?_)
        cases b with
        | false => exact ih (no rfl)
        | true =>
          refine codeAny_handlers_suite (PySem.HandSPX.lands_againZ fl3 fun g4 fl4 up4 => ?_)
          have J4 : Inv X pins τ H4 { s4 with heap := g4 } :=
            J.landed nb fl4.1 ((up.trans up3).trans up4) os ag
          obtain ⟨ob4, va4, he4, hz4, hd4⟩ := fl4.there
          have run := (hsu e ob4 cls d (X.pn ++ pins) hz4 ⟨_, hd4⟩).run [] _ _ H4 _ (J4.suite he4 hd4 na nL nF) (yes rfl e na)
          refine wpAny_mono run (fun fl s6 q => ?_) (fun _ _ z => z.elim)
          cases fl with
          | next =>
            obtain ⟨_, _, S6, q6⟩ := q
            exact ⟨_, _, S6.unsuite ok, q6⟩
          | brk =>
            obtain ⟨_, _, S6, q6⟩ := q
            exact ⟨_, _, S6.unsuite ok, q6⟩
          | cont =>
            obtain ⟨_, _, S6, q6⟩ := q
            exact ⟨_, _, S6.unsuite ok, q6⟩
          | ret u =>
            obtain ⟨_, _, _, S6, r6, q6⟩ := q
            exact ⟨_, _, _, S6.unsuite ok, r6, q6⟩
      | @named x n i c ts b₀ su p1 p2 hds3 l3 hN hi hl hc hsu r ih =>
        rintro ⟨b, hb1, yes, no⟩
        refine wpAny_handleBy_cons (codeAny_handlers_test ?_) (fun q => nomatch q)
        refine name_ hc ((exm_one J3.kIn tyE hb1).here ?_)
        cases b with
        | false => exact ih (no rfl)
        | true =>
          refine codeAny_handlers_suite_as (PySem.HandSPX.lands_againZ fl3 fun g4 fl4 up4 => ?_)
          have J4 : Inv X pins τ H4 { s4 with heap := g4 } :=
            J.landed nb fl4.1 ((up.trans up3).trans up4) os ag
          obtain ⟨ob4, va4, he4, hz4, hd4⟩ := fl4.there
          refine store_ok (X := X.suite e ((e, ob4) :: (X.pn ++ pins))) (v := .ref e) (J4.suite he4 hd4 na nL nF) hN hi (.inl hl) rfl (fun s5 S5 => ?_) (.inr hl)
          have run := (hsu e ob4 cls d (X.pn ++ pins) hz4 ⟨_, hd4⟩).run [] s5 _ H4 _ S5 (yes rfl e na)
          refine wpAny_mono run (fun fl s6 q => ?_) (fun _ _ z => z.elim)
          have leave : ∀ {τ6 : L2.St} {H6 : Hp} {Q : Shared → Prop}, Inv (X.suite e ((e, ob4) :: (X.pn ++ pins))) [] τ6 H6 s6 →
              (∀ s7, Inv X pins (τ6.set i none) H6 s7 → Q s7) →
              wpAny (model X.prog X.w) X.A (do bindName X.env n .none; unbindBehindTheSuite X.env n p2) (fun _ s7 => Q s7) X.xe s6 :=
            fun {τ6 H6 Q} S6 k => gone_ok (S6.unsuite ok) hN hi hl k
          cases fl with
          | next =>
            obtain ⟨_, _, S6, q6⟩ := q
            exact leave S6 fun s7 J7 => ⟨_, _, J7, q6⟩
          | brk =>
            obtain ⟨_, _, S6, q6⟩ := q
            exact leave S6 fun s7 J7 => ⟨_, _, J7, q6⟩
          | cont =>
            obtain ⟨_, _, S6, q6⟩ := q
            exact leave S6 fun s7 J7 => ⟨_, _, J7, q6⟩
          | ret u =>
            obtain ⟨_, _, _, S6, r6, q6⟩ := q
            exact leave S6 fun s7 J7 => ⟨_, _, _, J7, r6, q6⟩
    exact all hh hW
  refine wpAny_Try_except (wpAny_mono ((hb _ _ xe1 catch_ PassesOwn.looking).run [] st σ H D (I.toTry _) hw) (fun fl s1 q => ?_) (fun e s1 he => he))
  cases fl with
  | next =>
    obtain ⟨_, _, I1, q1⟩ := q
    exact wpAny_execs_nil ⟨_, _, I1.ofTry ok, q1⟩
  | brk =>
    obtain ⟨_, _, I1, q1⟩ := q
    exact ⟨_, _, I1.ofTry ok, q1⟩
  | cont =>
    obtain ⟨_, _, I1, q1⟩ := q
    exact ⟨_, _, I1.ofTry ok, q1⟩
  | ret u =>
    obtain ⟨_, _, _, I1, r1, q1⟩ := q
    exact ⟨_, _, _, I1.ofTry ok, r1, q1⟩
end
end X3

end
section
/-! L3: a program's defs as plain functions over plain values. 1: values, what represents them, environments. -/
namespace L3
open PySem PySem.Spec PyProof.Rows L2
/-- a plain value: an instance is its class's number and its fields; scr: a list that is only read (the script) -/
inductive PV where
  | non | bl (b : Bool) | int (i : Int) | str (s : Str) | lst (l : List PV) | scr (l : List PV) | tup (l : List PV) | ins (c : Nat) (fs : List (Str × PV))
  deriving Inhabited
/-- the written part and where the classes stand -/
structure Gc where
  K : PySem.W.Frag
  CA : Nat → Addr
mutual
/-- v stands for the plain value, as the objects of H are -/
def Rep (G : Gc) (H : Hp) : PV → V → Prop
  | .non, v => v = .non
  | .bl b, v => v = .bl b
  | .int i, v => v = .int i
  | .str s, v => v = .str s
  | .lst l, v => ∃ a xs, v = .ref a ∧ H a = some (.lst xs) ∧ Reps G H l xs
  | .scr l, v => ∃ a xs, v = .ref a ∧ SqL G.K H a xs ∧ Reps G H l xs
  | .tup l, v => ∃ a xs, v = .ref a ∧ SqT G.K H a xs ∧ Reps G H l xs
  | .ins c fs, v => ∃ a dx vs, v = .ref a ∧ H a = some (.ins (G.CA c) dx vs) ∧ RepF G H fs vs
def Reps (G : Gc) (H : Hp) : List PV → List V → Prop
  | [], xs => xs = []
  | p :: ps, xs => ∃ x ys, xs = x :: ys ∧ Rep G H p x ∧ Reps G H ps ys
def RepF (G : Gc) (H : Hp) : List (Str × PV) → List (Str × V) → Prop
  | [], xs => xs = []
  | (f, p) :: ps, xs => ∃ x ys, xs = (f, x) :: ys ∧ Rep G H p x ∧ RepF G H ps ys
end
theorem Same.seqT {K : PySem.W.Frag} {H H' : Hp} {a : Addr} {xs : List V} (e : Same H H') (h : SqT K H a xs) : SqT K H' a xs := by
  rcases h with (h | ⟨o, h⟩) | h
  · exact .inl (.inl (e _ _ h))
  · exact .inl (.inr ⟨o, e _ _ h⟩)
  · exact .inr h
section
variable {G : Gc} {H H' : Hp}
mutual
theorem Rep.mono (e : Same H H') : ∀ {p : PV} {v : V}, Rep G H p v → Rep G H' p v
  | .non, _, h => by simpa only [Rep] using h
  | .bl _, _, h => by simpa only [Rep] using h
  | .int _, _, h => by simpa only [Rep] using h
  | .str _, _, h => by simpa only [Rep] using h
  | .lst l, v, h => by
    simp only [Rep] at h ⊢
    obtain ⟨a, xs, h1, h2, h3⟩ := h
    exact ⟨a, xs, h1, e _ _ h2, Reps.mono e h3⟩
  | .scr l, v, h => by
    simp only [Rep] at h ⊢
    obtain ⟨a, xs, h1, h2, h3⟩ := h
    exact ⟨a, xs, h1, e.seq h2, Reps.mono e h3⟩
  | .tup l, v, h => by
    simp only [Rep] at h ⊢
    obtain ⟨a, xs, h1, h2, h3⟩ := h
    exact ⟨a, xs, h1, Same.seqT e h2, Reps.mono e h3⟩
  | .ins c fs, v, h => by
    simp only [Rep] at h ⊢
    obtain ⟨a, dx, vs, h1, h2, h3⟩ := h
    exact ⟨a, dx, vs, h1, e _ _ h2, RepF.mono e h3⟩
theorem Reps.mono (e : Same H H') : ∀ {ps : List PV} {vs : List V}, Reps G H ps vs → Reps G H' ps vs
  | [], _, h => by simpa only [Reps] using h
  | p :: ps, vs, h => by
    simp only [Reps] at h ⊢
    obtain ⟨x, ys, h1, h2, h3⟩ := h
    exact ⟨x, ys, h1, Rep.mono e h2, Reps.mono e h3⟩
theorem RepF.mono (e : Same H H') : ∀ {ps : List (Str × PV)} {vs : List (Str × V)}, RepF G H ps vs → RepF G H' ps vs
  | [], _, h => by simpa only [RepF] using h
  | (f, p) :: ps, vs, h => by
    simp only [RepF] at h ⊢
    obtain ⟨x, ys, h1, h2, h3⟩ := h
    exact ⟨x, ys, h1, Rep.mono e h2, RepF.mono e h3⟩
end
theorem Reps.length : ∀ {ps : List PV} {vs : List V}, Reps G H ps vs → ps.length = vs.length
  | [], _, h => by simp only [Reps] at h; subst h; rfl
  | p :: ps, vs, h => by
    simp only [Reps] at h
    obtain ⟨x, ys, h1, _, h3⟩ := h
    subst h1
    simp only [List.length_cons, Reps.length h3]
theorem Reps.get : ∀ {ps : List PV} {vs : List V} {i : Nat} {p : PV}, Reps G H ps vs → ps[i]? = some p → ∃ v, vs[i]? = some v ∧ Rep G H p v
  | [], _, _, _, _, e => by simp at e
  | p :: ps, vs, 0, q, h, e => by
    simp only [Reps] at h
    obtain ⟨x, ys, h1, h2, _⟩ := h
    subst h1
    simp at e
    subst e
    exact ⟨x, rfl, h2⟩
  | p :: ps, vs, i + 1, q, h, e => by
    simp only [Reps] at h
    obtain ⟨x, ys, h1, _, h3⟩ := h
    subst h1
    obtain ⟨v, e1, e2⟩ := Reps.get (i := i) h3 (by simpa using e)
    exact ⟨v, by simpa using e1, e2⟩
theorem Reps.get_v : ∀ {ps : List PV} {vs : List V} {i : Nat} {v : V}, Reps G H ps vs → vs[i]? = some v → ∃ p, ps[i]? = some p ∧ Rep G H p v
  | [], _, _, _, h, e => by simp only [Reps] at h; subst h; simp at e
  | p :: ps, vs, 0, v, h, e => by
    simp only [Reps] at h
    obtain ⟨x, ys, h1, h2, _⟩ := h
    subst h1
    simp at e
    subst e
    exact ⟨p, rfl, h2⟩
  | p :: ps, vs, i + 1, v, h, e => by
    simp only [Reps] at h
    obtain ⟨x, ys, h1, _, h3⟩ := h
    subst h1
    obtain ⟨v, e1, e2⟩ := Reps.get_v (i := i) h3 (by simpa using e)
    exact ⟨v, by simpa using e1, e2⟩
theorem Reps.append : ∀ {ps qs : List PV} {vs ws : List V}, Reps G H ps vs → Reps G H qs ws → Reps G H (ps ++ qs) (vs ++ ws)
  | [], _, _, _, h, k => by simp only [Reps] at h; subst h; exact k
  | p :: ps, qs, vs, ws, h, k => by
    simp only [Reps] at h
    obtain ⟨x, ys, h1, h2, h3⟩ := h
    subst h1
    show Reps G H (p :: (ps ++ qs)) (x :: (ys ++ ws))
    simp only [Reps]
    exact ⟨x, _, rfl, h2, Reps.append h3 k⟩
theorem Reps.one {p : PV} {v : V} (h : Rep G H p v) : Reps G H [p] [v] := by
  simp only [Reps]
  exact ⟨v, [], rfl, h, rfl⟩
theorem Reps.cons {p : PV} {v : V} {ps : List PV} {vs : List V} (h : Rep G H p v) (k : Reps G H ps vs) : Reps G H (p :: ps) (v :: vs) := by
  simp only [Reps]
  exact ⟨v, vs, rfl, h, k⟩
theorem Reps.nil : Reps G H [] [] := by simp only [Reps]
theorem Reps.take : ∀ (n : Nat) {ps : List PV} {vs : List V}, Reps G H ps vs → Reps G H (ps.take n) (vs.take n)
  | 0, _, _, _ => by simp only [List.take_zero]; exact Reps.nil
  | n + 1, [], _, h => by simp only [Reps] at h; subst h; exact Reps.nil
  | n + 1, p :: ps, vs, h => by
    simp only [Reps] at h
    obtain ⟨x, ys, h1, h2, h3⟩ := h
    subst h1
    simp only [List.take_succ_cons]
    exact Reps.cons h2 (Reps.take n h3)
theorem Reps.drop : ∀ (n : Nat) {ps : List PV} {vs : List V}, Reps G H ps vs → Reps G H (ps.drop n) (vs.drop n)
  | 0, _, _, h => by simpa only [List.drop_zero] using h
  | n + 1, [], _, h => by simp only [Reps] at h; subst h; exact Reps.nil
  | n + 1, p :: ps, vs, h => by
    simp only [Reps] at h
    obtain ⟨x, ys, h1, h2, h3⟩ := h
    subst h1
    simp only [List.drop_succ_cons]
    exact Reps.drop n h3
theorem Reps.set : ∀ {ps : List PV} {vs : List V} (i : Nat) {p : PV} {v : V}, Reps G H ps vs → Rep G H p v → Reps G H (ps.set i p) (vs.set i v)
  | [], _, _, _, _, h, _ => by simp only [Reps] at h; subst h; simp only [List.set_nil]; exact Reps.nil
  | q :: ps, vs, 0, p, v, h, k => by
    simp only [Reps] at h
    obtain ⟨x, ys, h1, _, h3⟩ := h
    subst h1
    exact Reps.cons k h3
  | q :: ps, vs, i + 1, p, v, h, k => by
    simp only [Reps] at h
    obtain ⟨x, ys, h1, h2, h3⟩ := h
    subst h1
    exact Reps.cons h2 (Reps.set i h3 k)
theorem RepF.get : ∀ {ps : List (Str × PV)} {vs : List (Str × V)} {f : Str} {p : PV}, RepF G H ps vs → ps.lookup f = some p → ∃ v, vs.lookup f = some v ∧ Rep G H p v
  | [], _, _, _, _, e => by simp at e
  | (g, p) :: ps, vs, f, q, h, e => by
    simp only [RepF] at h
    obtain ⟨x, ys, h1, h2, h3⟩ := h
    subst h1
    by_cases c : (f == g) = true
    · simp only [List.lookup, c, Option.some.injEq] at e ⊢
      subst e
      exact ⟨x, rfl, h2⟩
    · have c' : (f == g) = false := by simpa using c
      simp only [List.lookup, c'] at e ⊢
      exact RepF.get h3 e
theorem RepF.none_of : ∀ {ps : List (Str × PV)} {vs : List (Str × V)} {f : Str}, RepF G H ps vs → ps.lookup f = none → vs.lookup f = none
  | [], _, _, h, _ => by simp only [RepF] at h; subst h; rfl
  | (g, p) :: ps, vs, f, h, e => by
    simp only [RepF] at h
    obtain ⟨x, ys, h1, h2, h3⟩ := h
    subst h1
    by_cases c : (f == g) = true
    · simp only [List.lookup, c] at e
      cases e
    · have c' : (f == g) = false := by simpa using c
      simp only [List.lookup, c'] at e ⊢
      exact RepF.none_of h3 e
theorem RepF.length : ∀ {ps : List (Str × PV)} {vs : List (Str × V)}, RepF G H ps vs → ps.length = vs.length
  | [], _, h => by simp only [RepF] at h; subst h; rfl
  | (_, p) :: ps, vs, h => by
    simp only [RepF] at h
    obtain ⟨x, ys, h1, _, h3⟩ := h
    subst h1
    simp only [List.length_cons, RepF.length h3]
end
/-! ### owned values: lists and instances that the def alone holds, and may change -/
inductive OV where
  | sh (p : PV) | own (l : List OV) | obj (c : Nat) (fs : List (Str × OV))
  deriving Inhabited
mutual
def OV.pv : OV → PV
  | .sh p => p
  | .own l => .lst (OV.pvs l)
  | .obj c fs => .ins c (OV.pvf fs)
def OV.pvs : List OV → List PV
  | [] => []
  | o :: l => o.pv :: OV.pvs l
def OV.pvf : List (Str × OV) → List (Str × PV)
  | [] => []
  | (f, o) :: l => (f, o.pv) :: OV.pvf l
end
mutual
/-- v stands for o; F: the places of what is owned -/
def OwnR (G : Gc) (H₀ H : Hp) : OV → V → List Addr → Prop
  | .sh p, v, F => Rep G H₀ p v ∧ F = []
  | .own l, v, F => ∃ a xs F', v = .ref a ∧ F = a :: F' ∧ H a = some (.lst xs) ∧ OwnRs G H₀ H l xs F'
  | .obj c fs, v, F => ∃ a dx vs F', v = .ref a ∧ F = a :: F' ∧ H a = some (.ins (G.CA c) dx vs) ∧ OwnRf G H₀ H fs vs F'
def OwnRs (G : Gc) (H₀ H : Hp) : List OV → List V → List Addr → Prop
  | [], xs, F => xs = [] ∧ F = []
  | o :: l, xs, F => ∃ x ys F1 F2, xs = x :: ys ∧ F = F1 ++ F2 ∧ OwnR G H₀ H o x F1 ∧ OwnRs G H₀ H l ys F2
def OwnRf (G : Gc) (H₀ H : Hp) : List (Str × OV) → List (Str × V) → List Addr → Prop
  | [], xs, F => xs = [] ∧ F = []
  | (f, o) :: l, xs, F => ∃ x ys F1 F2, xs = (f, x) :: ys ∧ F = F1 ++ F2 ∧ OwnR G H₀ H o x F1 ∧ OwnRf G H₀ H l ys F2
end
/-- the heap of what a def may read: what is frozen, and what it owns -/
def vw (H₀ H : Hp) (F : List Addr) : Hp := fun a => if a ∈ F then H a else H₀ a
section
variable {G : Gc} {H₀ H H₀' H' : Hp} {F : List Addr}
theorem same_vw (h : ∀ a ∈ F, H₀ a = none) : Same H₀ (vw H₀ H F) := fun a o e => by
  unfold vw
  rw [if_neg fun z => by rw [h a z] at e; cases e]
  exact e
theorem vw_same (z : Same H₀ H) : Same (vw H₀ H F) H := fun a o e => by
  unfold vw at e
  split at e
  · exact e
  · exact z a o e
mutual
/-- what is owned stands where it stood, if its places do -/
theorem OwnR.mono (e0 : Same H₀ H₀') : ∀ {o : OV} {v : V} {F : List Addr}, (∀ a ∈ F, H' a = H a) → OwnR G H₀ H o v F → OwnR G H₀' H' o v F
  | .sh p, v, F, _, h => by
    simp only [OwnR] at h ⊢
    exact ⟨Rep.mono e0 h.1, h.2⟩
  | .own l, v, F, k, h => by
    simp only [OwnR] at h ⊢
    obtain ⟨a, xs, F', h1, h2, h3, h4⟩ := h
    subst h2
    exact ⟨a, xs, F', h1, rfl, by rw [k a List.mem_cons_self]; exact h3, OwnRs.mono e0 (fun b hb => k b (List.mem_cons_of_mem _ hb)) h4⟩
  | .obj c fs, v, F, k, h => by
    simp only [OwnR] at h ⊢
    obtain ⟨a, dx, vs, F', h1, h2, h3, h4⟩ := h
    subst h2
    exact ⟨a, dx, vs, F', h1, rfl, by rw [k a List.mem_cons_self]; exact h3, OwnRf.mono e0 (fun b hb => k b (List.mem_cons_of_mem _ hb)) h4⟩
theorem OwnRs.mono (e0 : Same H₀ H₀') : ∀ {l : List OV} {xs : List V} {F : List Addr}, (∀ a ∈ F, H' a = H a) → OwnRs G H₀ H l xs F → OwnRs G H₀' H' l xs F
  | [], xs, F, _, h => by simpa only [OwnRs] using h
  | o :: l, xs, F, k, h => by
    simp only [OwnRs] at h ⊢
    obtain ⟨x, ys, F1, F2, h1, h2, h3, h4⟩ := h
    subst h2
    exact ⟨x, ys, F1, F2, h1, rfl, OwnR.mono e0 (fun b hb => k b (List.mem_append_left _ hb)) h3, OwnRs.mono e0 (fun b hb => k b (List.mem_append_right _ hb)) h4⟩
theorem OwnRf.mono (e0 : Same H₀ H₀') : ∀ {l : List (Str × OV)} {xs : List (Str × V)} {F : List Addr}, (∀ a ∈ F, H' a = H a) → OwnRf G H₀ H l xs F → OwnRf G H₀' H' l xs F
  | [], xs, F, _, h => by simpa only [OwnRf] using h
  | (f, o) :: l, xs, F, k, h => by
    simp only [OwnRf] at h ⊢
    obtain ⟨x, ys, F1, F2, h1, h2, h3, h4⟩ := h
    subst h2
    exact ⟨x, ys, F1, F2, h1, rfl, OwnR.mono e0 (fun b hb => k b (List.mem_append_left _ hb)) h3, OwnRf.mono e0 (fun b hb => k b (List.mem_append_right _ hb)) h4⟩
end
mutual
/-- an owned value's objects, read -/
theorem OwnR.rep {Hv : Hp} (e0 : Same H₀ Hv) : ∀ {o : OV} {v : V} {F : List Addr}, (∀ a ∈ F, Hv a = H a) → OwnR G H₀ H o v F → Rep G Hv o.pv v
  | .sh p, v, F, _, h => by
    simp only [OwnR] at h
    simp only [OV.pv]
    exact Rep.mono e0 h.1
  | .own l, v, F, k, h => by
    simp only [OwnR] at h
    simp only [OV.pv, Rep]
    obtain ⟨a, xs, F', h1, h2, h3, h4⟩ := h
    subst h2
    exact ⟨a, xs, h1, by rw [k a List.mem_cons_self]; exact h3, OwnRs.rep e0 (fun b hb => k b (List.mem_cons_of_mem _ hb)) h4⟩
  | .obj c fs, v, F, k, h => by
    simp only [OwnR] at h
    simp only [OV.pv, Rep]
    obtain ⟨a, dx, vs, F', h1, h2, h3, h4⟩ := h
    subst h2
    exact ⟨a, dx, vs, h1, by rw [k a List.mem_cons_self]; exact h3, OwnRf.rep e0 (fun b hb => k b (List.mem_cons_of_mem _ hb)) h4⟩
theorem OwnRs.rep {Hv : Hp} (e0 : Same H₀ Hv) : ∀ {l : List OV} {xs : List V} {F : List Addr}, (∀ a ∈ F, Hv a = H a) → OwnRs G H₀ H l xs F → Reps G Hv (OV.pvs l) xs
  | [], xs, F, _, h => by
    simp only [OwnRs] at h
    simp only [OV.pvs, Reps]
    exact h.1
  | o :: l, xs, F, k, h => by
    simp only [OwnRs] at h
    simp only [OV.pvs, Reps]
    obtain ⟨x, ys, F1, F2, h1, h2, h3, h4⟩ := h
    subst h2
    exact ⟨x, ys, h1, OwnR.rep e0 (fun b hb => k b (List.mem_append_left _ hb)) h3, OwnRs.rep e0 (fun b hb => k b (List.mem_append_right _ hb)) h4⟩
theorem OwnRf.rep {Hv : Hp} (e0 : Same H₀ Hv) : ∀ {l : List (Str × OV)} {xs : List (Str × V)} {F : List Addr}, (∀ a ∈ F, Hv a = H a) → OwnRf G H₀ H l xs F → RepF G Hv (OV.pvf l) xs
  | [], xs, F, _, h => by
    simp only [OwnRf] at h
    simp only [OV.pvf, RepF]
    exact h.1
  | (f, o) :: l, xs, F, k, h => by
    simp only [OwnRf] at h
    simp only [OV.pvf, RepF]
    obtain ⟨x, ys, F1, F2, h1, h2, h3, h4⟩ := h
    subst h2
    exact ⟨x, ys, h1, OwnR.rep e0 (fun b hb => k b (List.mem_append_left _ hb)) h3, OwnRf.rep e0 (fun b hb => k b (List.mem_append_right _ hb)) h4⟩
end
mutual
/-- the places stand in the heap -/
theorem OwnR.there : ∀ {o : OV} {v : V} {F : List Addr}, OwnR G H₀ H o v F → ∀ a ∈ F, ∃ u, H a = some u
  | .sh p, v, F, h, a, ha => by
    simp only [OwnR] at h
    rw [h.2] at ha
    cases ha
  | .own l, v, F, h, a, ha => by
    simp only [OwnR] at h
    obtain ⟨b, xs, F', h1, h2, h3, h4⟩ := h
    subst h2
    rcases List.mem_cons.mp ha with e | ha
    · rw [e]
      exact ⟨_, h3⟩
    · exact OwnRs.there h4 a ha
  | .obj c fs, v, F, h, a, ha => by
    simp only [OwnR] at h
    obtain ⟨b, dx, vs, F', h1, h2, h3, h4⟩ := h
    subst h2
    rcases List.mem_cons.mp ha with e | ha
    · rw [e]
      exact ⟨_, h3⟩
    · exact OwnRf.there h4 a ha
theorem OwnRs.there : ∀ {l : List OV} {xs : List V} {F : List Addr}, OwnRs G H₀ H l xs F → ∀ a ∈ F, ∃ u, H a = some u
  | [], xs, F, h, a, ha => by
    simp only [OwnRs] at h
    rw [h.2] at ha
    cases ha
  | o :: l, xs, F, h, a, ha => by
    simp only [OwnRs] at h
    obtain ⟨x, ys, F1, F2, h1, h2, h3, h4⟩ := h
    subst h2
    rcases List.mem_append.mp ha with ha | ha
    · exact OwnR.there h3 a ha
    · exact OwnRs.there h4 a ha
theorem OwnRf.there : ∀ {l : List (Str × OV)} {xs : List (Str × V)} {F : List Addr}, OwnRf G H₀ H l xs F → ∀ a ∈ F, ∃ u, H a = some u
  | [], xs, F, h, a, ha => by
    simp only [OwnRf] at h
    rw [h.2] at ha
    cases ha
  | (f, o) :: l, xs, F, h, a, ha => by
    simp only [OwnRf] at h
    obtain ⟨x, ys, F1, F2, h1, h2, h3, h4⟩ := h
    subst h2
    rcases List.mem_append.mp ha with ha | ha
    · exact OwnR.there h3 a ha
    · exact OwnRf.there h4 a ha
end
end
/-! ### environments -/
abbrev Env := List (Option OV)
def EnvR (G : Gc) (H₀ H : Hp) : Env → L2.St → List Addr → Prop
  | [], σ, F => σ = [] ∧ F = []
  | none :: ρ, σ, F => ∃ x τ, σ = x :: τ ∧ EnvR G H₀ H ρ τ F
  | some o :: ρ, σ, F => ∃ v τ F1 F2, σ = some v :: τ ∧ F = F1 ++ F2 ∧ OwnR G H₀ H o v F1 ∧ EnvR G H₀ H ρ τ F2
/-- a def's run: He what of the heap at its entry is to stay, Hz what was frozen there; fx: a slot that is to hold its value all along (self of an __init__, the exception of a suite); Hx: where that exception is seen -/
structure Fc where
  G : Gc
  He : Hp
  Hz : Hp
  fx : Option (Nat × V)
  Hx : Hp
/-- the state of a def's run: H₀ what is frozen now, F what it owns -/
structure SR (C : Fc) (H₀ : Hp) (F : List Addr) (ρ : Env) (σ : L2.St) (H : Hp) : Prop where
  e : Same C.He H
  z : Same H₀ H
  n : ∀ a, C.He a ≠ none → H₀ a = C.Hz a
  hz : Same C.Hz H₀
  env : EnvR C.G H₀ H ρ σ F
  nd : F.Nodup
  fr : ∀ a ∈ F, C.He a = none ∧ H₀ a = none
  fx : ∀ i v, C.fx = some (i, v) → σ[i]? = some (some v)
  hx : Same C.Hx H₀
/-- from one heap to a later one: nothing that stood is changed, what is frozen besides is new -/
structure Ext (H₀ H H₀' H' : Hp) : Prop where
  s : Same H H'
  s0 : Same H₀ H₀'
  z : Same H₀' H'
  n : ∀ a, H a ≠ none → H₀' a = H₀ a
theorem Ext.refl {H₀ H : Hp} (z : Same H₀ H) : Ext H₀ H H₀ H := ⟨Same.refl _, Same.refl _, z, fun _ _ => rfl⟩
theorem ne_none_of {H : Hp} {a : Addr} {o : HO} (h : H a = some o) : H a ≠ none := by rw [h]; exact fun z => nomatch z
theorem same_nn {H H' : Hp} (s : Same H H') {a : Addr} (h : H a ≠ none) : H' a ≠ none := by
  cases e : H a with
  | none => exact absurd e h
  | some o => rw [s a o e]; exact fun z => nomatch z
theorem Ext.trans {H₀ H H₁ H' H₂ H'' : Hp} (a : Ext H₀ H H₁ H') (b : Ext H₁ H' H₂ H'') : Ext H₀ H H₂ H'' :=
  ⟨a.s.trans b.s, a.s0.trans b.s0, b.z, fun c h => (b.n c (same_nn a.s h)).trans (a.n c h)⟩
section
variable {C : Fc} {G : Gc} {H₀ H₀' H H' : Hp} {F : List Addr} {ρ : Env} {σ : L2.St}
theorem EnvR.mono (e0 : Same H₀ H₀') : ∀ {ρ : Env} {σ : L2.St} {F : List Addr}, (∀ a ∈ F, H' a = H a) → EnvR G H₀ H ρ σ F → EnvR G H₀' H' ρ σ F
  | [], σ, F, _, h => h
  | none :: ρ, σ, F, k, h => by
    obtain ⟨x, τ, h1, h2⟩ := h
    exact ⟨x, τ, h1, EnvR.mono e0 k h2⟩
  | some o :: ρ, σ, F, k, h => by
    obtain ⟨v, τ, F1, F2, h1, h2, h3, h4⟩ := h
    subst h2
    exact ⟨v, τ, F1, F2, h1, rfl, OwnR.mono e0 (fun b hb => k b (List.mem_append_left _ hb)) h3, EnvR.mono e0 (fun b hb => k b (List.mem_append_right _ hb)) h4⟩
theorem EnvR.there : ∀ {ρ : Env} {σ : L2.St} {F : List Addr}, EnvR G H₀ H ρ σ F → ∀ a ∈ F, ∃ u, H a = some u
  | [], σ, F, h, a, ha => by rw [h.2] at ha; cases ha
  | none :: ρ, σ, F, h, a, ha => by
    obtain ⟨x, τ, h1, h2⟩ := h
    exact EnvR.there h2 a ha
  | some o :: ρ, σ, F, h, a, ha => by
    obtain ⟨v, τ, F1, F2, h1, h2, h3, h4⟩ := h
    subst h2
    rcases List.mem_append.mp ha with ha | ha
    · exact OwnR.there h3 a ha
    · exact EnvR.there h4 a ha
theorem SR.ext (S : SR C H₀ F ρ σ H) (E : Ext H₀ H H₀' H') : SR C H₀' F ρ σ H' := by
  have th := S.env.there
  refine ⟨S.e.trans E.s, E.z, fun a h => (E.n a (same_nn S.e h)).trans (S.n a h), S.hz.trans E.s0, EnvR.mono E.s0 (fun a ha => ?_) S.env, S.nd, fun a ha => ⟨(S.fr a ha).1, ?_⟩, S.fx, S.hx.trans E.s0⟩
  · obtain ⟨u, e⟩ := th a ha
    rw [e, E.s a u e]
  · obtain ⟨u, e⟩ := th a ha
    rw [E.n a (ne_none_of e)]
    exact (S.fr a ha).2
theorem SR.vz (S : SR C H₀ F ρ σ H) : Same H₀ (vw H₀ H F) := same_vw fun a ha => (S.fr a ha).2
theorem SR.vext (S : SR C H₀ F ρ σ H) (E : Ext H₀ H H₀' H') : Same (vw H₀ H F) (vw H₀' H' F) := fun a o e => by
  unfold vw at e ⊢
  by_cases ha : a ∈ F
  · rw [if_pos ha] at e ⊢
    exact E.s a o e
  · rw [if_neg ha] at e ⊢
    exact E.s0 a o e
/-- a slot's value -/
theorem EnvR.get : ∀ {ρ : Env} {σ : L2.St} {F : List Addr} {i : Nat} {o : OV}, EnvR G H₀ H ρ σ F → ρ[i]? = some (some o) → ∃ v F1, σ[i]? = some (some v) ∧ OwnR G H₀ H o v F1 ∧ ∀ a ∈ F1, a ∈ F
  | [], σ, F, i, o, h, e => by simp at e
  | none :: ρ, σ, F, 0, o, h, e => by simp at e
  | none :: ρ, σ, F, i + 1, o, h, e => by
    obtain ⟨x, τ, h1, h2⟩ := h
    obtain ⟨v, F1, e1, e2, e3⟩ := EnvR.get (i := i) h2 (by simpa using e)
    subst h1
    exact ⟨v, F1, by simpa using e1, e2, e3⟩
  | some o' :: ρ, σ, F, 0, o, h, e => by
    obtain ⟨v, τ, F1, F2, h1, h2, h3, h4⟩ := h
    subst h1 h2
    simp at e
    subst e
    exact ⟨v, F1, rfl, h3, fun a ha => List.mem_append_left _ ha⟩
  | some o' :: ρ, σ, F, i + 1, o, h, e => by
    obtain ⟨v, τ, F1, F2, h1, h2, h3, h4⟩ := h
    subst h1 h2
    obtain ⟨w, F3, e1, e2, e3⟩ := EnvR.get (i := i) h4 (by simpa using e)
    exact ⟨w, F3, by simpa using e1, e2, fun a ha => List.mem_append_right _ (e3 a ha)⟩
theorem EnvR.length : ∀ {ρ : Env} {σ : L2.St} {F : List Addr}, EnvR G H₀ H ρ σ F → ρ.length = σ.length
  | [], σ, F, h => by rw [h.1]; rfl
  | none :: ρ, σ, F, h => by
    obtain ⟨x, τ, h1, h2⟩ := h
    subst h1
    simp only [List.length_cons, EnvR.length h2]
  | some o :: ρ, σ, F, h => by
    obtain ⟨v, τ, F1, F2, h1, h2, h3, h4⟩ := h
    subst h1
    simp only [List.length_cons, EnvR.length h4]
/-- a slot gets a new value: its old places are given up -/
theorem EnvR.put : ∀ {ρ : Env} {σ : L2.St} {F : List Addr} (i : Nat) {o : OV} {v : V} {Fv : List Addr}, EnvR G H₀ H ρ σ F → OwnR G H₀ H o v Fv → F.Nodup → Fv.Nodup → (∀ a ∈ Fv, a ∉ F) →
    ∃ F', EnvR G H₀ H (ρ.set i (some o)) (σ.set i (some v)) F' ∧ F'.Nodup ∧ ∀ a ∈ F', a ∈ F ∨ a ∈ Fv
  | [], σ, F, i, o, v, Fv, h, r, nd, ndv, ap => by
    obtain ⟨h1, h2⟩ := h
    subst h1 h2
    exact ⟨[], ⟨by simp, rfl⟩, List.nodup_nil, fun a ha => by cases ha⟩
  | none :: ρ, σ, F, 0, o, v, Fv, h, r, nd, ndv, ap => by
    obtain ⟨x, τ, h1, h2⟩ := h
    subst h1
    exact ⟨Fv ++ F, ⟨v, τ, Fv, F, rfl, rfl, r, h2⟩, List.nodup_append.mpr ⟨ndv, nd, fun a ha b hb e => ap a ha (e ▸ hb)⟩, fun a ha => (List.mem_append.mp ha).symm⟩
  | some o' :: ρ, σ, F, 0, o, v, Fv, h, r, nd, ndv, ap => by
    obtain ⟨w, τ, F1, F2, h1, h2, h3, h4⟩ := h
    subst h1 h2
    have n2 := (List.nodup_append.mp nd).2.1
    exact ⟨Fv ++ F2, ⟨v, τ, Fv, F2, rfl, rfl, r, h4⟩, List.nodup_append.mpr ⟨ndv, n2, fun a ha b hb e => ap a ha (List.mem_append_right _ (e ▸ hb))⟩,
      fun a ha => (List.mem_append.mp ha).elim .inr fun z => .inl (List.mem_append_right _ z)⟩
  | none :: ρ, σ, F, i + 1, o, v, Fv, h, r, nd, ndv, ap => by
    obtain ⟨x, τ, h1, h2⟩ := h
    subst h1
    obtain ⟨F', e1, e2, e3⟩ := EnvR.put i h2 r nd ndv ap
    exact ⟨F', ⟨x, _, rfl, e1⟩, e2, e3⟩
  | some o' :: ρ, σ, F, i + 1, o, v, Fv, h, r, nd, ndv, ap => by
    obtain ⟨w, τ, F1, F2, h1, h2, h3, h4⟩ := h
    subst h1 h2
    obtain ⟨m1, m2, m3⟩ := List.nodup_append.mp nd
    obtain ⟨F', e1, e2, e3⟩ := EnvR.put i h4 r m2 ndv fun a ha z => ap a ha (List.mem_append_right _ z)
    refine ⟨F1 ++ F', ⟨w, _, F1, F', rfl, rfl, h3, e1⟩, List.nodup_append.mpr ⟨m1, e2, fun a ha b hb e => ?_⟩, fun a ha => ?_⟩
    · subst e
      rcases e3 a hb with z | z
      · exact m3 a ha a z rfl
      · exact ap a z (List.mem_append_left _ ha)
    · rcases List.mem_append.mp ha with z | z
      · exact .inl (List.mem_append_left _ z)
      · exact (e3 a z).imp (List.mem_append_right _) id
/-- a slot is forgotten -/
theorem EnvR.drop : ∀ {ρ : Env} {σ : L2.St} {F : List Addr} (i : Nat), EnvR G H₀ H ρ σ F → F.Nodup → ∃ F', EnvR G H₀ H (ρ.set i none) σ F' ∧ F'.Nodup ∧ ∀ a ∈ F', a ∈ F
  | [], σ, F, i, h, nd => ⟨F, by simpa using h, nd, fun _ ha => ha⟩
  | none :: ρ, σ, F, 0, h, nd => ⟨F, h, nd, fun _ ha => ha⟩
  | some o' :: ρ, σ, F, 0, h, nd => by
    obtain ⟨w, τ, F1, F2, h1, h2, h3, h4⟩ := h
    subst h2
    exact ⟨F2, ⟨_, τ, h1, h4⟩, (List.nodup_append.mp nd).2.1, fun a ha => List.mem_append_right _ ha⟩
  | none :: ρ, σ, F, i + 1, h, nd => by
    obtain ⟨x, τ, h1, h2⟩ := h
    obtain ⟨F', e1, e2, e3⟩ := EnvR.drop i h2 nd
    exact ⟨F', ⟨x, τ, h1, e1⟩, e2, e3⟩
  | some o' :: ρ, σ, F, i + 1, h, nd => by
    obtain ⟨w, τ, F1, F2, h1, h2, h3, h4⟩ := h
    subst h2
    obtain ⟨m1, m2, m3⟩ := List.nodup_append.mp nd
    obtain ⟨F', e1, e2, e3⟩ := EnvR.drop i h4 m2
    refine ⟨F1 ++ F', ⟨w, τ, F1, F', h1, rfl, h3, e1⟩, List.nodup_append.mpr ⟨m1, e2, fun a ha b hb e => m3 a ha b (e3 b hb) e⟩, fun a ha => ?_⟩
    rcases List.mem_append.mp ha with z | z
    · exact List.mem_append_left _ z
    · exact List.mem_append_right _ (e3 a z)
/-- a slot that is not known may hold anything -/
theorem EnvR.any : ∀ {ρ : Env} {σ : L2.St} {F : List Addr} (i : Nat) (x : Option V), EnvR G H₀ H ρ σ F → ρ[i]? = some none → EnvR G H₀ H ρ (σ.set i x) F
  | [], σ, F, i, x, h, e => by simp at e
  | none :: ρ, σ, F, 0, x, h, e => by
    obtain ⟨y, τ, h1, h2⟩ := h
    subst h1
    exact ⟨x, τ, rfl, h2⟩
  | some o' :: ρ, σ, F, 0, x, h, e => by simp at e
  | none :: ρ, σ, F, i + 1, x, h, e => by
    obtain ⟨y, τ, h1, h2⟩ := h
    subst h1
    exact ⟨y, _, rfl, EnvR.any i x h2 (by simpa using e)⟩
  | some o' :: ρ, σ, F, i + 1, x, h, e => by
    obtain ⟨w, τ, F1, F2, h1, h2, h3, h4⟩ := h
    subst h1 h2
    exact ⟨w, _, F1, F2, rfl, rfl, h3, EnvR.any i x h4 (by simpa using e)⟩
end
end L3

end
section
/-! L3. 2: outcomes, judgements, expressions -/
namespace L3
open PySem PySem.Spec PyProof.Rows L2
/-- an exception: its class's number, its fields -/
structure PX where
  c : Nat
  fs : List (Str × PV)
  deriving Inhabited
/-- a value, an exception, or: nothing is said -/
inductive R (α : Type) where
  | ok (a : α) | er (x : PX) | no
  deriving Inhabited
def R.bind {α β : Type} : R α → (α → R β) → R β
  | .ok a, f => f a
  | .er x, _ => .er x
  | .no, _ => .no
@[simp] theorem R.bind_ok {α β : Type} (a : α) (f : α → R β) : (R.ok a).bind f = f a := rfl
@[simp] theorem R.bind_er {α β : Type} (x : PX) (f : α → R β) : (R.er x).bind f = .er x := rfl
@[simp] theorem R.bind_no {α β : Type} (f : α → R β) : (R.no).bind f = .no := rfl
/-- of an option: nothing is said where there is none -/
def R.of {α : Type} : Option α → R α
  | some a => .ok a
  | none => .no
@[simp] theorem R.of_some {α : Type} (a : α) : R.of (some a) = .ok a := rfl
@[simp] theorem R.of_none {α : Type} : R.of (none : Option α) = .no := rfl
def RepX (G : Gc) (H : Hp) (x : PX) (cls : Value) (d : Option Addr) : Prop :=
  cls = .ref (G.CA x.c) ∧ ((x.fs = [] ∧ d = none) ∨ ∃ dd vs, d = some dd ∧ H dd = some (.xd vs) ∧ RepF G H x.fs vs)
/-- what an expression's value is seen in: what is frozen, or all that the def may read -/
def md (m : Bool) (H₀ H : Hp) (F : List Addr) : Hp := if m then H₀ else vw H₀ H F
section
variable {G : Gc} {m : Bool} {H₀ H H₀' H' : Hp} {F : List Addr} {p : Addr} {o : HO}
theorem md_H (z : Same H₀ H) : Same (md m H₀ H F) H := by
  unfold md
  cases m with
  | true => exact z
  | false => exact vw_same z
theorem z_md (fr : ∀ a ∈ F, H₀ a = none) : Same H₀ (md m H₀ H F) := by
  unfold md
  cases m with
  | true => exact Same.refl _
  | false => exact same_vw fr
theorem md_ext (E : Ext H₀ H H₀' H') : Same (md m H₀ H F) (md m H₀' H' F) := by
  unfold md
  cases m with
  | true => exact E.s0
  | false =>
    intro a o e
    change vw H₀ H F a = some o at e
    change vw H₀' H' F a = some o
    unfold vw at e ⊢
    by_cases ha : a ∈ F
    · rw [if_pos ha] at e ⊢
      exact E.s a o e
    · rw [if_neg ha] at e ⊢
      exact E.s0 a o e
theorem ext_new (z : Same H₀ H) (h : H p = none) : Ext H₀ H (upd H₀ p o) (upd H p o) := by
  have ne : ∀ b u, H b = some u → b ≠ p := fun b u e q => by rw [q, h] at e; cases e
  have ne0 : ∀ b u, H₀ b = some u → b ≠ p := fun b u e => ne b u (z b u e)
  refine ⟨fun b u e => by rw [upd_ne (ne b u e)]; exact e, fun b u e => by rw [upd_ne (ne0 b u e)]; exact e, fun b u e => ?_, fun b hb => ?_⟩
  · by_cases q : b = p
    · subst q
      rw [upd_same] at e ⊢
      exact e
    · rw [upd_ne q] at e ⊢
      exact z b u e
  · rw [upd_ne fun q => hb (by rw [q]; exact h)]
theorem md_new : md m (upd H₀ p o) (upd H p o) F p = some o := by
  unfold md
  cases m with
  | true => exact upd_same
  | false =>
    change vw _ _ F p = some o
    unfold vw
    by_cases hp : p ∈ F
    · rw [if_pos hp]; exact upd_same
    · rw [if_neg hp]; exact upd_same
end
/-! ### judgements -/
section
variable (C : Fc) (W : WX) (m : Bool)
/-- the transformer of an expression by its plain function -/
def tE (f : Env → R PV) : TE := fun σ H Q => ∃ H₀ F ρ, SR C H₀ F ρ σ H ∧ (match f ρ with
  | .ok p => ∀ v H' H₀', Ext H₀ H H₀' H' → Rep C.G (md m H₀' H' F) p v → Q v H'
  | .er x => ∀ cls d H' H₀', Ext H₀ H H₀' H' → RepX C.G H₀' x cls d → W cls d σ H'
  | .no => False)
def tTt (f : Env → R Bool) : TT := fun σ H Q => ∃ H₀ F ρ, SR C H₀ F ρ σ H ∧ (match f ρ with
  | .ok b => ∀ H' H₀', Ext H₀ H H₀' H' → Q b H'
  | .er x => ∀ cls d H' H₀', Ext H₀ H H₀' H' → RepX C.G H₀' x cls d → W cls d σ H'
  | .no => False)
def tAs (f : Env → R (List PV)) : TA := fun σ H Q => ∃ H₀ F ρ, SR C H₀ F ρ σ H ∧ (match f ρ with
  | .ok ps => ∀ vs H' H₀', Ext H₀ H H₀' H' → Reps C.G (md m H₀' H' F) ps vs → Q vs H'
  | .er x => ∀ cls d H' H₀', Ext H₀ H H₀' H' → RepX C.G H₀' x cls d → W cls d σ H'
  | .no => False)
/-- a new value that nothing else holds -/
def tF (f : Env → R OV) : TE := fun σ H Q => ∃ H₀ F ρ, SR C H₀ F ρ σ H ∧ (match f ρ with
  | .ok o => ∀ v H' H₀' Fv, Ext H₀ H H₀' H' → OwnR C.G H₀' H' o v Fv → Fv.Nodup → (∀ a ∈ Fv, H a = none ∧ H₀' a = none) → Q v H'
  | .er x => ∀ cls d H' H₀', Ext H₀ H H₀' H' → RepX C.G H₀' x cls d → W cls d σ H'
  | .no => False)
abbrev QE (X : Cx) (e : Expr) (f : Env → R PV) : Prop := PE X e (tE C W m f)
abbrev QT (X : Cx) (e : Expr) (f : Env → R Bool) : Prop := PT X e (tTt C W f)
abbrev QA (X : Cx) (es : List Expr) (f : Env → R (List PV)) : Prop := PA X es (tAs C W m f)
abbrev QF (X : Cx) (e : Expr) (f : Env → R OV) : Prop := PE X e (tF C W f)
end
theorem PE.imp {X : Cx} {e : Expr} {t t' : TE} (h : PE X e t) (k : ∀ σ H Q, t' σ H Q → t σ H Q) : PE X e t' := ⟨fun pins s σ H Q I q => h.run pins s σ H Q I (k _ _ _ q)⟩
theorem PT.imp {X : Cx} {e : Expr} {t t' : TT} (h : PT X e t) (k : ∀ σ H Q, t' σ H Q → t σ H Q) : PT X e t' := ⟨fun pins s σ H Q I q => h.run pins s σ H Q I (k _ _ _ q)⟩
theorem PW.imp {X : Cx} {e : Expr} {t t' : TT} (h : PW X e t) (k : ∀ σ H Q, t' σ H Q → t σ H Q) : PW X e t' := ⟨fun w pins s σ H Q I q => h.run w pins s σ H Q I (k _ _ _ q)⟩
theorem PA.imp {X : Cx} {es : List Expr} {t t' : TA} (h : PA X es t) (k : ∀ σ H Q, t' σ H Q → t σ H Q) : PA X es t' := ⟨fun pos pins s σ H Q I q => h.run pos pins s σ H Q I (k _ _ _ q)⟩
theorem PS.imp {X : Cx} {st : Stmt} {t t' : TS} (h : PS X st t) (k : ∀ D σ H, t' D σ H → t D σ H) : PS X st t' := ⟨fun pins s σ H D I q => h.run pins s σ H D I (k _ _ _ q)⟩
theorem PSs.imp {X : Cx} {st : List Stmt} {t t' : TS} (h : PSs X st t) (k : ∀ D σ H, t' D σ H → t D σ H) : PSs X st t' := ⟨fun pins s σ H D I q => h.run pins s σ H D I (k _ _ _ q)⟩
section
variable {C : Fc} {W : WX} {m : Bool} {X : Cx} {a b c : Expr} {pos : Pos} {σ : L2.St} {H : Hp}
/-! binding: one expression after another -/
theorem tE_bind {f : Env → R PV} {Q : VK} {g : Env → PV → R PV} {β : Prop} (h : ∃ H₀ F ρ, SR C H₀ F ρ σ H ∧
    (match f ρ with
    | .ok p => ∀ v H' H₀', Ext H₀ H H₀' H' → SR C H₀' F ρ σ H' → Rep C.G (md m H₀' H' F) p v → Q v H'
    | .er x => ∀ cls d H' H₀', Ext H₀ H H₀' H' → RepX C.G H₀' x cls d → W cls d σ H'
    | .no => False)) : tE C W m f σ H Q := by
  obtain ⟨H₀, F, ρ, S, h⟩ := h
  refine ⟨H₀, F, ρ, S, ?_⟩
  cases e : f ρ with
  | ok p =>
    rw [e] at h
    exact fun v H' H₀' E r => h v H' H₀' E (S.ext E) r
  | er x =>
    rw [e] at h
    exact h
  | no =>
    rw [e] at h
    exact h
/-- the outcome of f, gone on with by k -/
def Goes (Γ : Gc) (W : WX) {α : Type} (r : R α) (σ : L2.St) (H H₀ : Hp) (k : α → Prop) : Prop := match r with
  | .ok p => k p
  | .er x => ∀ cls d H' H₀', Ext H₀ H H₀' H' → RepX Γ H₀' x cls d → W cls d σ H'
  | .no => False
theorem Goes.bind {α β : Type} {r : R α} {g : α → R β} {H₀ : Hp} {k : β → Prop} : Goes C.G W (r.bind g) σ H H₀ k = Goes C.G W r σ H H₀ fun p => Goes C.G W (g p) σ H H₀ k := by
  cases r <;> rfl
theorem Goes.imp {α : Type} {r : R α} {H₀ : Hp} {k k' : α → Prop} (h : Goes C.G W r σ H H₀ k) (i : ∀ p, r = .ok p → k p → k' p) : Goes C.G W r σ H H₀ k' := by
  cases r with
  | ok p => exact i p rfl h
  | er x => exact h
  | no => exact h
theorem Goes.later {α : Type} {r : R α} {H₀ H' H₀' : Hp} {k : α → Prop} (E : Ext H₀ H H₀' H') (h : Goes C.G W r σ H H₀ k) : Goes C.G W r σ H' H₀' k := by
  cases r with
  | ok p => exact h
  | er x => exact fun cls d H2 H3 E2 => h cls d H2 H3 (E.trans E2)
  | no => exact h
theorem tE_iff {f : Env → R PV} {Q : VK} : tE C W m f σ H Q ↔ ∃ H₀ F ρ, SR C H₀ F ρ σ H ∧ Goes C.G W (f ρ) σ H H₀ fun p => ∀ v H' H₀', Ext H₀ H H₀' H' → Rep C.G (md m H₀' H' F) p v → Q v H' := by
  constructor <;>
  · rintro ⟨H₀, F, ρ, S, h⟩
    refine ⟨H₀, F, ρ, S, ?_⟩
    cases e : f ρ <;> (rw [e] at h; exact h)
theorem tT_iff {f : Env → R Bool} {Q : Bool → Hp → Prop} : tTt C W f σ H Q ↔ ∃ H₀ F ρ, SR C H₀ F ρ σ H ∧ Goes C.G W (f ρ) σ H H₀ fun b => ∀ H' H₀', Ext H₀ H H₀' H' → Q b H' := by
  constructor <;>
  · rintro ⟨H₀, F, ρ, S, h⟩
    refine ⟨H₀, F, ρ, S, ?_⟩
    cases e : f ρ <;> (rw [e] at h; exact h)
theorem tA_iff {f : Env → R (List PV)} {Q : List V → Hp → Prop} : tAs C W m f σ H Q ↔ ∃ H₀ F ρ, SR C H₀ F ρ σ H ∧ Goes C.G W (f ρ) σ H H₀ fun ps => ∀ vs H' H₀', Ext H₀ H H₀' H' → Reps C.G (md m H₀' H' F) ps vs → Q vs H' := by
  constructor <;>
  · rintro ⟨H₀, F, ρ, S, h⟩
    refine ⟨H₀, F, ρ, S, ?_⟩
    cases e : f ρ <;> (rw [e] at h; exact h)
theorem tF_iff {f : Env → R OV} {Q : VK} : tF C W f σ H Q ↔ ∃ H₀ F ρ, SR C H₀ F ρ σ H ∧ Goes C.G W (f ρ) σ H H₀ fun o => ∀ v H' H₀' Fv, Ext H₀ H H₀' H' → OwnR C.G H₀' H' o v Fv → Fv.Nodup → (∀ a ∈ Fv, H a = none ∧ H₀' a = none) → Q v H' := by
  constructor <;>
  · rintro ⟨H₀, F, ρ, S, h⟩
    refine ⟨H₀, F, ρ, S, ?_⟩
    cases e : f ρ <;> (rw [e] at h; exact h)
/-! ### leaves -/
/-- a name: what is frozen -/
def eVar (i : Nat) : Env → R PV := fun ρ => match ρ[i]? with
  | some (some (.sh p)) => .ok p
  | _ => .no
/-- a name: what is owned, looked at -/
def eOwn (i : Nat) : Env → R PV := fun ρ => match ρ[i]? with
  | some (some o) => .ok o.pv
  | _ => .no
def eCst (p : PV) : Env → R PV := fun _ => .ok p
theorem qVar (i : Nat) {x : Str} (hN : X.N[i]? = some x := by rfl) (hv : Vis X.env.scope x := by first | exact Or.inl rfl | exact Or.inr (Or.inl rfl) | exact Or.inr (Or.inr rfl)) (hd : (x == ("__debug__" : Str)) = false := by decide)
    (hcd : (x == ("__classdict__" : Str)) = false := by decide) : QE C W m X (.Name x pos) (eVar i) := by
  refine PE.imp (pe_var hN hv hd hcd) fun σ H Q h => ?_
  obtain ⟨H₀, F, ρ, S, h⟩ := h
  unfold eVar at h
  cases e : ρ[i]? with
  | none => rw [e] at h; exact h.elim
  | some o =>
    rw [e] at h
    match o, e, h with
    | none, _, h => exact h.elim
    | some (.own l), _, h => exact h.elim
    | some (.obj c fs), _, h => exact h.elim
    | some (.sh p), e, h =>
      obtain ⟨v, F1, e1, e2, _⟩ := S.env.get e
      simp only [OwnR] at e2
      exact ⟨v, e1, h v H H₀ (Ext.refl S.z) (Rep.mono (z_md fun a ha => (S.fr a ha).2) e2.1)⟩
theorem qOwn (i : Nat) {x : Str} (hN : X.N[i]? = some x := by rfl) (hv : Vis X.env.scope x := by first | exact Or.inl rfl | exact Or.inr (Or.inl rfl) | exact Or.inr (Or.inr rfl)) (hd : (x == ("__debug__" : Str)) = false := by decide)
    (hcd : (x == ("__classdict__" : Str)) = false := by decide) : QE C W false X (.Name x pos) (eOwn i) := by
  refine PE.imp (pe_var hN hv hd hcd) fun σ H Q h => ?_
  obtain ⟨H₀, F, ρ, S, h⟩ := h
  unfold eOwn at h
  cases e : ρ[i]? with
  | none => rw [e] at h; exact h.elim
  | some o =>
    rw [e] at h
    cases o with
    | none => exact h.elim
    | some o =>
      obtain ⟨v, F1, e1, e2, e3⟩ := S.env.get e
      refine ⟨v, e1, h v H H₀ (Ext.refl S.z) ?_⟩
      exact OwnR.rep (z_md (m := false) fun a ha => (S.fr a ha).2) (fun a ha => by change vw H₀ H F a = H a; unfold vw; rw [if_pos (e3 a ha)]) e2
theorem qInt {i : Int} {j} : QE C W m X (.Constant (.int i) j pos) (eCst (.int i)) := PE.imp pe_int fun σ H Q ⟨H₀, F, ρ, S, h⟩ => h _ H H₀ (Ext.refl S.z) (by simp only [Rep])
theorem qStr {x : Str} {j} : QE C W m X (.Constant (.str x) j pos) (eCst (.str x)) := PE.imp pe_str fun σ H Q ⟨H₀, F, ρ, S, h⟩ => h _ H H₀ (Ext.refl S.z) (by simp only [Rep])
theorem qBl {x : Bool} {j} : QE C W m X (.Constant (.bool x) j pos) (eCst (.bl x)) := PE.imp pe_bl fun σ H Q ⟨H₀, F, ρ, S, h⟩ => h _ H H₀ (Ext.refl S.z) (by simp only [Rep])
theorem qNon {j} : QE C W m X (.Constant .none j pos) (eCst .non) := PE.imp pe_non fun σ H Q ⟨H₀, F, ρ, S, h⟩ => h _ H H₀ (Ext.refl S.z) (by simp only [Rep])
/-- a constant of the module -/
theorem qGlob {x : Str} {v : V} {u : Value} {p : PV} (hm : X.mg x = some u) (r : RelV v u) (hp : ∀ H, Rep C.G H p v) (hg : Gl X x := by rfl) (hd : (x == ("__debug__" : Str)) = false := by decide) : QE C W m X (.Name x pos) (eCst p) :=
  PE.imp (pe_glob hg hm r hd) fun σ H Q ⟨H₀, F, ρ, S, h⟩ => h _ H H₀ (Ext.refl S.z) (hp _)
/-! ### operators -/
/-- what an operator by values must do -/
def Op2 (Γ : Gc) (r : R2) (g : PV → PV → R PV) : Prop := ∀ (m : Bool) (H₀ H : Hp) (F : List Addr) (p q z : PV) (x y : V) (Q : VK), Same H₀ H → Rep Γ (md m H₀ H F) p x → Rep Γ (md m H₀ H F) q y → g p q = .ok z →
  (∀ v H' H₀', Ext H₀ H H₀' H' → Rep Γ (md m H₀' H' F) z v → Q v H') → r x y H Q
/-- an operator that raises nothing -/
def Calm2 (g : PV → PV → R PV) : Prop := ∀ p q x, g p q ≠ .er x
def eBin (g : PV → PV → R PV) (fa fb : Env → R PV) : Env → R PV := fun ρ => (fa ρ).bind fun p => (fb ρ).bind fun q => g p q
theorem op2_go {r : R2} {g : PV → PV → R PV} {fa fb : Env → R PV} (hg : Calm2 g) (ho : Op2 C.G r g) {Q : VK} (h : tE C W m (eBin g fa fb) σ H Q) :
    tE C W m fa σ H fun x H1 => tE C W m fb σ H1 fun y H2 => r x y H2 Q := by
  rw [tE_iff] at h ⊢
  obtain ⟨H₀, F, ρ, S, h⟩ := h
  unfold eBin at h
  rw [Goes.bind] at h
  refine ⟨H₀, F, ρ, S, h.imp fun p _ h v H1 H₁ E1 r1 => ?_⟩
  rw [Goes.bind] at h
  rw [tE_iff]
  refine ⟨H₁, F, ρ, S.ext E1, (h.later E1).imp fun q _ h w H2 H₂ E2 r2 => ?_⟩
  cases e : g p q with
  | ok z =>
    rw [e] at h
    exact ho m H₂ H2 F p q z v w Q E2.z (Rep.mono (md_ext E2) r1) r2 e fun u H' H₀' E r => h u H' H₀' ((E1.trans E2).trans E) r
  | er x => exact absurd e (hg p q x)
  | no =>
    rw [e] at h
    exact h.elim
theorem qBin {op : Operator} {r : R2} {g : PV → PV → R PV} {fa fb : Env → R PV} (ho : OpR X (binaryOp op) r) (hg : Calm2 g) (hr : Op2 C.G r g) (ha : QE C W m X a fa) (hb : QE C W m X b fb) : QE C W m X (.BinOp a op b pos) (eBin g fa fb) :=
  PE.imp (pe_op ho ha hb) fun σ H Q h => op2_go hg hr h
theorem qCmp {op : CmpOp} {r : R2} {g : PV → PV → R PV} {fa fb : Env → R PV} (ho : OpR X (compareOp op) r) (hg : Calm2 g) (hr : Op2 C.G r g) (ha : QE C W m X a fa) (hb : QE C W m X b fb) (hm : behindInMarks op b = false := by first | exact nomark _ | rfl) : QE C W m X (.Compare a [op] [b] pos) (eBin g fa fb) :=
  PE.imp (pe_cmpR ho ha hb hm) fun σ H Q h => op2_go hg hr h
/-- a value as a test's answer -/
def eTst (f : Env → R PV) : Env → R Bool := fun ρ => (f ρ).bind fun p => match p with
  | .bl b => .ok b
  | _ => .no
theorem tst_go {f : Env → R PV} {Q : Bool → Hp → Prop} (h : tTt C W (eTst f) σ H Q) : tE C W m f σ H fun x H' => ∃ k, x = .bl k ∧ Q k H' := by
  rw [tT_iff] at h
  rw [tE_iff]
  obtain ⟨H₀, F, ρ, S, h⟩ := h
  unfold eTst at h
  rw [Goes.bind] at h
  refine ⟨H₀, F, ρ, S, h.imp fun p _ h v H1 H₁ E1 r1 => ?_⟩
  cases p with
  | bl b =>
    simp only [Rep] at r1
    exact ⟨b, r1, h H1 H₁ E1⟩
  | _ => exact (show False from h).elim
theorem qtCmp {op : CmpOp} {r : R2} {g : PV → PV → R PV} {fa fb : Env → R PV} (ho : OpR X (compareOp op) r) (hg : Calm2 g) (hr : Op2 C.G r g) (ha : QE C W m X a fa) (hb : QE C W m X b fb) (hm : behindInMarks op b = false := by first | exact nomark _ | rfl) : QT C W X (.Compare a [op] [b] pos) (eTst (eBin g fa fb)) :=
  PT.imp (pt_cmpR ho ha hb hm) fun σ H Q h => op2_go hg hr (tst_go h)
/-- any expression whose value is a bool, as a test -/
theorem qtVal {e : Expr} {f : Env → R PV} (h : QE C W m X e f) (he : ∀ whole, isTrue e X.env whole = (do let v ← whole; standAt e.pos; holding [v] (truthy v)) := by intro _; rfl) : QT C W X e (eTst f) :=
  PT.imp (pt_val h he) fun σ H Q h => tst_go h
/-- truth of any value -/
def truthR : PV → R Bool
  | .non => .ok false
  | .bl b => .ok b
  | .int i => .ok (i != 0)
  | .str s => if s.length ≤ sizeLine then .ok ((s.length : Int) != 0) else .no
  | .lst l => .ok (!l.isEmpty)
  | .scr l => .ok (!l.isEmpty)
  | .tup l => .ok (!l.isEmpty)
  | .ins _ _ => .no
def eTru (f : Env → R PV) : Env → R Bool := fun ρ => (f ρ).bind truthR
theorem qtTru {e : Expr} {f : Env → R PV} (hK : X.K = C.G.K) (h : QE C W m X e f) (he : ∀ whole, isTrue e X.env whole = (do let v ← whole; standAt e.pos; holding [v] (truthy v)) := by intro _; rfl) : QT C W X e (eTru f) := by
  refine PT.imp (pt_truth h he) fun σ H Q h => ?_
  rw [tT_iff] at h
  rw [tE_iff]
  obtain ⟨H₀, F, ρ, S, h⟩ := h
  unfold eTru at h
  rw [Goes.bind] at h
  refine ⟨H₀, F, ρ, S, h.imp fun p _ h v H1 H₁ E1 r1 => ?_⟩
  have r2 : Rep C.G H1 p v := Rep.mono (md_H E1.z) r1
  have emp : ∀ {ps : List PV} {vs : List V}, Reps C.G H1 ps vs → (!ps.isEmpty) = !vs.isEmpty := fun {ps vs} r => by
    cases ps with
    | nil => simp only [Reps] at r; subst r; rfl
    | cons p ps => simp only [Reps] at r; obtain ⟨x, ys, h1, _⟩ := r; subst h1; rfl
  rw [hK]
  cases p with
  | non => simp only [Rep] at r2; subst r2; exact ⟨false, rfl, h H1 H₁ E1⟩
  | bl b => simp only [Rep] at r2; subst r2; exact ⟨b, rfl, h H1 H₁ E1⟩
  | int i => simp only [Rep] at r2; subst r2; exact ⟨_, rfl, h H1 H₁ E1⟩
  | str s =>
    simp only [Rep] at r2
    subst r2
    simp only [truthR] at h
    split at h
    · rename_i hs
      exact ⟨_, ⟨hs, rfl⟩, h H1 H₁ E1⟩
    · exact h.elim
  | lst l =>
    simp only [Rep] at r2
    obtain ⟨a, xs, h1, h2, h3⟩ := r2
    subst h1
    exact ⟨_, .inl ⟨xs, SqL.of h2, rfl⟩, by rw [← emp h3]; exact h H1 H₁ E1⟩
  | scr l =>
    simp only [Rep] at r2
    obtain ⟨a, xs, h1, h2, h3⟩ := r2
    subst h1
    exact ⟨_, .inl ⟨xs, h2, rfl⟩, by rw [← emp h3]; exact h H1 H₁ E1⟩
  | tup l =>
    simp only [Rep] at r2
    obtain ⟨a, xs, h1, h2, h3⟩ := r2
    subst h1
    exact ⟨_, .inr (.inl ⟨xs, h2, rfl⟩), by rw [← emp h3]; exact h H1 H₁ E1⟩
  | ins c fs => exact h.elim
/-! and, or, not -/
def bAnd (fa fb : Env → R Bool) : Env → R Bool := fun ρ => (fa ρ).bind fun c => if c = true then fb ρ else .ok false
def bOr (fa fb : Env → R Bool) : Env → R Bool := fun ρ => (fa ρ).bind fun c => if c = true then .ok true else fb ρ
def bNot (fa : Env → R Bool) : Env → R Bool := fun ρ => (fa ρ).bind fun c => .ok (!c)
abbrev QW (C : Fc) (W : WX) (X : Cx) (e : Expr) (f : Env → R Bool) : Prop := PW X e (tTt C W f)
theorem qw_and1 {fa : Env → R Bool} (ha : QT C W X a fa) : QW C W X (.BoolOp .And [a] pos) fa := pw_and1 ha
theorem qw_or1 {fa : Env → R Bool} (ha : QT C W X a fa) : QW C W X (.BoolOp .Or [a] pos) fa := pw_or1 ha
theorem qw_and {rest : List Expr} {fa fb : Env → R Bool} (ha : QT C W X a fa) (hb : QW C W X (.BoolOp .And (b :: rest) pos) fb) : QW C W X (.BoolOp .And (a :: b :: rest) pos) (bAnd fa fb) := by
  refine PW.imp (pw_and ha hb) fun σ H Q h => ?_
  show tTt C W fa σ H fun c H1 => if c = true then tTt C W fb σ H1 Q else Q false H1
  rw [tT_iff] at h ⊢
  obtain ⟨H₀, F, ρ, S, h⟩ := h
  unfold bAnd at h
  rw [Goes.bind] at h
  refine ⟨H₀, F, ρ, S, h.imp fun c _ h H1 H₁ E1 => ?_⟩
  cases c with
  | true =>
    rw [if_pos rfl] at h ⊢
    rw [tT_iff]
    exact ⟨H₁, F, ρ, S.ext E1, (h.later E1).imp fun d _ h H2 H₂ E2 => h H2 H₂ (E1.trans E2)⟩
  | false =>
    rw [if_neg Bool.false_ne_true] at h ⊢
    exact h H1 H₁ E1
theorem qw_or {rest : List Expr} {fa fb : Env → R Bool} (ha : QT C W X a fa) (hb : QW C W X (.BoolOp .Or (b :: rest) pos) fb) : QW C W X (.BoolOp .Or (a :: b :: rest) pos) (bOr fa fb) := by
  refine PW.imp (pw_or ha hb) fun σ H Q h => ?_
  show tTt C W fa σ H fun c H1 => if c = true then Q true H1 else tTt C W fb σ H1 Q
  rw [tT_iff] at h ⊢
  obtain ⟨H₀, F, ρ, S, h⟩ := h
  unfold bOr at h
  rw [Goes.bind] at h
  refine ⟨H₀, F, ρ, S, h.imp fun c _ h H1 H₁ E1 => ?_⟩
  cases c with
  | true =>
    rw [if_pos rfl] at h ⊢
    exact h H1 H₁ E1
  | false =>
    rw [if_neg Bool.false_ne_true] at h ⊢
    rw [tT_iff]
    exact ⟨H₁, F, ρ, S.ext E1, (h.later E1).imp fun d _ h H2 H₂ E2 => h H2 H₂ (E1.trans E2)⟩
theorem qt_w {e : Expr} {f : Env → R Bool} (h : QW C W X e f) : QT C W X e f := h.pt
theorem qt_not {fa : Env → R Bool} (ha : QT C W X a fa) : QT C W X (.UnaryOp .Not a pos) (bNot fa) := by
  refine PT.imp (pt_not ha) fun σ H Q h => ?_
  show tTt C W fa σ H fun c H1 => Q (!c) H1
  rw [tT_iff] at h ⊢
  obtain ⟨H₀, F, ρ, S, h⟩ := h
  unfold bNot at h
  rw [Goes.bind] at h
  exact ⟨H₀, F, ρ, S, h.imp fun c _ h H1 H₁ E1 => h H1 H₁ E1⟩
/-! as values -/
def eAnd (fa fb : Env → R PV) : Env → R PV := fun ρ => (fa ρ).bind fun p => match p with
  | .bl true => fb ρ
  | .bl false => .ok (.bl false)
  | _ => .no
def eOr (fa fb : Env → R PV) : Env → R PV := fun ρ => (fa ρ).bind fun p => match p with
  | .bl true => .ok (.bl true)
  | .bl false => fb ρ
  | _ => .no
def eNot (fa : Env → R PV) : Env → R PV := fun ρ => (fa ρ).bind fun p => match p with
  | .bl b => .ok (.bl (!b))
  | _ => .no
theorem qOne {op} {f : Env → R PV} (h : QE C W m X a f) : QE C W m X (.BoolOp op [a] pos) f := pe_one h
theorem qAnd {rest : List Expr} {fa fb : Env → R PV} (ha : QE C W m X a fa) (hb : QE C W m X (.BoolOp .And (b :: rest) pos) fb) : QE C W m X (.BoolOp .And (a :: b :: rest) pos) (eAnd fa fb) := by
  refine PE.imp (pe_and ha hb) fun σ H Q h => ?_
  show tE C W m fa σ H fun x H1 => ∃ c, x = .bl c ∧ if c = true then tE C W m fb σ H1 Q else Q (.bl false) H1
  rw [tE_iff] at h ⊢
  obtain ⟨H₀, F, ρ, S, h⟩ := h
  unfold eAnd at h
  rw [Goes.bind] at h
  refine ⟨H₀, F, ρ, S, h.imp fun p _ h v H1 H₁ E1 r1 => ?_⟩
  match p, h, r1 with
  | .bl true, h, r1 =>
    simp only [Rep] at r1
    refine ⟨true, r1, ?_⟩
    rw [if_pos rfl, tE_iff]
    exact ⟨H₁, F, ρ, S.ext E1, (h.later E1).imp fun d _ h w H2 H₂ E2 => h w H2 H₂ (E1.trans E2)⟩
  | .bl false, h, r1 =>
    simp only [Rep] at r1
    refine ⟨false, r1, ?_⟩
    rw [if_neg Bool.false_ne_true]
    exact h _ H1 H₁ E1 (by simp only [Rep])
theorem qOr {rest : List Expr} {fa fb : Env → R PV} (ha : QE C W m X a fa) (hb : QE C W m X (.BoolOp .Or (b :: rest) pos) fb) : QE C W m X (.BoolOp .Or (a :: b :: rest) pos) (eOr fa fb) := by
  refine PE.imp (pe_or ha hb) fun σ H Q h => ?_
  show tE C W m fa σ H fun x H1 => ∃ c, x = .bl c ∧ if c = true then Q (.bl true) H1 else tE C W m fb σ H1 Q
  rw [tE_iff] at h ⊢
  obtain ⟨H₀, F, ρ, S, h⟩ := h
  unfold eOr at h
  rw [Goes.bind] at h
  refine ⟨H₀, F, ρ, S, h.imp fun p _ h v H1 H₁ E1 r1 => ?_⟩
  match p, h, r1 with
  | .bl false, h, r1 =>
    simp only [Rep] at r1
    refine ⟨false, r1, ?_⟩
    rw [if_neg Bool.false_ne_true, tE_iff]
    exact ⟨H₁, F, ρ, S.ext E1, (h.later E1).imp fun d _ h w H2 H₂ E2 => h w H2 H₂ (E1.trans E2)⟩
  | .bl true, h, r1 =>
    simp only [Rep] at r1
    refine ⟨true, r1, ?_⟩
    rw [if_pos rfl]
    exact h _ H1 H₁ E1 (by simp only [Rep])
theorem qNot {fa : Env → R PV} (ha : QE C W m X a fa) : QE C W m X (.UnaryOp .Not a pos) (eNot fa) := by
  refine PE.imp (pe_not ha) fun σ H Q h => ?_
  show tE C W m fa σ H fun x H1 => ∃ c, x = .bl c ∧ Q (.bl (!c)) H1
  rw [tE_iff] at h ⊢
  obtain ⟨H₀, F, ρ, S, h⟩ := h
  unfold eNot at h
  rw [Goes.bind] at h
  refine ⟨H₀, F, ρ, S, h.imp fun p _ h v H1 H₁ E1 r1 => ?_⟩
  cases p with
  | bl b =>
    simp only [Rep] at r1
    exact ⟨b, r1, h _ H1 H₁ E1 (by simp only [Rep])⟩
  | _ => exact (show False from h).elim
def eIf (fc : Env → R Bool) (fa fb : Env → R PV) : Env → R PV := fun ρ => (fc ρ).bind fun c => if c = true then fa ρ else fb ρ
theorem qIf {fc : Env → R Bool} {fa fb : Env → R PV} (hc : QT C W X c fc) (ha : QE C W m X a fa) (hb : QE C W m X b fb) : QE C W m X (.IfExp c a b pos) (eIf fc fa fb) := by
  refine PE.imp (pe_ifExp hc ha hb) fun σ H Q h => ?_
  show tTt C W fc σ H fun c H1 => if c = true then tE C W m fa σ H1 Q else tE C W m fb σ H1 Q
  rw [tE_iff] at h
  rw [tT_iff]
  obtain ⟨H₀, F, ρ, S, h⟩ := h
  unfold eIf at h
  rw [Goes.bind] at h
  refine ⟨H₀, F, ρ, S, h.imp fun d _ h H1 H₁ E1 => ?_⟩
  cases d with
  | true =>
    rw [if_pos rfl] at h ⊢
    rw [tE_iff]
    exact ⟨H₁, F, ρ, S.ext E1, (h.later E1).imp fun d _ h w H2 H₂ E2 => h w H2 H₂ (E1.trans E2)⟩
  | false =>
    rw [if_neg Bool.false_ne_true] at h ⊢
    rw [tE_iff]
    exact ⟨H₁, F, ρ, S.ext E1, (h.later E1).imp fun d _ h w H2 H₂ E2 => h w H2 H₂ (E1.trans E2)⟩
/-- a scalar may leave what is only looked at -/
def scalarR : PV → R PV
  | .lst _ => .no
  | .scr _ => .no
  | .tup _ => .no
  | .ins _ _ => .no
  | p => .ok p
def eSca (f : Env → R PV) : Env → R PV := fun ρ => (f ρ).bind scalarR
theorem qSca {f : Env → R PV} (h : QE C W false X a f) : QE C W m X a (eSca f) := by
  refine PE.imp h fun σ H Q h => ?_
  rw [tE_iff] at h ⊢
  obtain ⟨H₀, F, ρ, S, h⟩ := h
  unfold eSca at h
  rw [Goes.bind] at h
  refine ⟨H₀, F, ρ, S, h.imp fun p _ h v H1 H₁ E1 r1 => ?_⟩
  cases p with
  | lst l => exact h.elim
  | scr l => exact h.elim
  | tup l => exact h.elim
  | ins c fs => exact h.elim
  | non => exact h v H1 H₁ E1 (by simpa only [Rep] using r1)
  | bl b => exact h v H1 H₁ E1 (by simpa only [Rep] using r1)
  | int b => exact h v H1 H₁ E1 (by simpa only [Rep] using r1)
  | str b => exact h v H1 H₁ E1 (by simpa only [Rep] using r1)
/-- what is frozen may be looked at -/
theorem qBor {f : Env → R PV} (h : QE C W true X a f) : QE C W false X a f := by
  refine PE.imp h fun σ H Q h => ?_
  rw [tE_iff] at h ⊢
  obtain ⟨H₀, F, ρ, S, h⟩ := h
  exact ⟨H₀, F, ρ, S, h.imp fun p _ h v H1 H₁ E1 r1 => h v H1 H₁ E1 (Rep.mono (z_md (m := false) fun a ha => ((S.ext E1).fr a ha).2) r1)⟩
/-! ### argument lists, displays -/
def aNil : Env → R (List PV) := fun _ => .ok []
def aCons (f : Env → R PV) (r : Env → R (List PV)) : Env → R (List PV) := fun ρ => (f ρ).bind fun p => (r ρ).bind fun ps => .ok (p :: ps)
theorem qaNil : QA C W m X [] aNil := PA.imp pa_nil fun σ H Q ⟨H₀, F, ρ, S, h⟩ => h _ H H₀ (Ext.refl S.z) Reps.nil
theorem qaCons {es : List Expr} {f : Env → R PV} {r : Env → R (List PV)} (ha : QE C W m X a f) (hr : QA C W m X es r) (hs : starEach (a :: es) X.env = (false, eval a X.env) :: starEach es X.env := by rfl) : QA C W m X (a :: es) (aCons f r) := by
  refine PA.imp (pa_cons ha hr hs) fun σ H Q h => ?_
  show tE C W m f σ H fun x H1 => tAs C W m r σ H1 fun xs H2 => Q (x :: xs) H2
  rw [tA_iff] at h
  rw [tE_iff]
  obtain ⟨H₀, F, ρ, S, h⟩ := h
  unfold aCons at h
  rw [Goes.bind] at h
  refine ⟨H₀, F, ρ, S, h.imp fun p _ h v H1 H₁ E1 r1 => ?_⟩
  rw [Goes.bind] at h
  rw [tA_iff]
  exact ⟨H₁, F, ρ, S.ext E1, (h.later E1).imp fun ps _ h ws H2 H₂ E2 r2 => h (v :: ws) H2 H₂ (E1.trans E2) (Reps.cons (Rep.mono (md_ext E2) r1) r2)⟩
def mkTup (ps : List PV) : R PV := if ps.length ≤ sizeLine then .ok (.tup ps) else .no
def mkLst (ps : List PV) : R OV := if ps.length ≤ sizeLine then .ok (.own (ps.map .sh)) else .no
def eTup (r : Env → R (List PV)) : Env → R PV := fun ρ => (r ρ).bind mkTup
def fLst (r : Env → R (List PV)) : Env → R OV := fun ρ => (r ρ).bind mkLst
theorem qTup {es : List Expr} {x1} {r : Env → R (List PV)} (h : QA C W m X es r) : QE C W m X (.Tuple es x1 pos) (eTup r) := by
  refine PE.imp (pe_tup h) fun σ H Q h => ?_
  show tAs C W m r σ H fun xs H1 => xs.length ≤ sizeLine ∧ ∀ p, H1 p = none → Q (.ref p) (upd H1 p (.tup xs))
  rw [tE_iff] at h
  rw [tA_iff]
  obtain ⟨H₀, F, ρ, S, h⟩ := h
  unfold eTup at h
  rw [Goes.bind] at h
  refine ⟨H₀, F, ρ, S, h.imp fun ps _ h vs H1 H₁ E1 r1 => ?_⟩
  unfold mkTup at h
  split at h
  · rename_i hs
    refine ⟨by rw [← r1.length]; exact hs, fun p hp => ?_⟩
    have E2 : Ext H₁ H1 (upd H₁ p (.tup vs)) (upd H1 p (.tup vs)) := ext_new E1.z hp
    exact h _ _ _ (E1.trans E2) (by simp only [Rep]; exact ⟨p, vs, rfl, SqT.of md_new, Reps.mono (md_ext E2) r1⟩)
  · exact h.elim
theorem ownRs_sh : ∀ {ps : List PV} {vs : List V} {H₀ H : Hp}, Reps C.G H₀ ps vs → OwnRs C.G H₀ H (ps.map .sh) vs []
  | [], vs, H₀, H, h => by simp only [Reps] at h; subst h; simp [OwnRs]
  | p :: ps, vs, H₀, H, h => by
    simp only [Reps] at h
    obtain ⟨x, ys, h1, h2, h3⟩ := h
    subst h1
    simp only [List.map_cons, OwnRs]
    exact ⟨x, ys, [], [], rfl, rfl, by simp only [OwnR]; exact ⟨h2, trivial⟩, ownRs_sh h3⟩
/-- a new list of frozen things -/
theorem own_new {ps : List PV} {vs : List V} {H₀ H : Hp} {p : Addr} (z : Same H₀ H) (hp : H p = none) (r : Reps C.G H₀ ps vs) :
    Ext H₀ H H₀ (upd H p (.lst vs)) ∧ OwnR C.G H₀ (upd H p (.lst vs)) (.own (ps.map .sh)) (.ref p) [p] ∧ ([p] : List Addr).Nodup ∧ ∀ a ∈ [p], H a = none ∧ H₀ a = none := by
  have h0 : H₀ p = none := Same.free z hp
  refine ⟨⟨fun b u e => ?_, Same.refl _, fun b u e => ?_, fun _ _ => rfl⟩, ?_, by simp, fun a ha => ?_⟩
  · rw [upd_ne fun q => by rw [q, hp] at e; cases e]; exact e
  · rw [upd_ne fun q => by rw [q, h0] at e; cases e]; exact z b u e
  · simp only [OwnR]
    exact ⟨p, vs, [], rfl, rfl, upd_same, ownRs_sh r⟩
  · rw [List.mem_singleton.mp ha]; exact ⟨hp, h0⟩
theorem qLst {es : List Expr} {r : Env → R (List PV)} (h : QA C W true X es r) : QF C W X (.List es pos) (fLst r) := by
  refine PE.imp (pe_lst h) fun σ H Q h => ?_
  show tAs C W true r σ H fun xs H1 => xs.length ≤ sizeLine ∧ ∀ p, H1 p = none → Q (.ref p) (upd H1 p (.lst xs))
  rw [tF_iff] at h
  rw [tA_iff]
  obtain ⟨H₀, F, ρ, S, h⟩ := h
  unfold fLst at h
  rw [Goes.bind] at h
  refine ⟨H₀, F, ρ, S, h.imp fun ps _ h vs H1 H₁ E1 r1 => ?_⟩
  unfold mkLst at h
  split at h
  · rename_i hs
    refine ⟨by rw [← r1.length]; exact hs, fun p hp => ?_⟩
    obtain ⟨E2, o2, n2, f2⟩ := own_new (C := C) E1.z hp r1
    exact h _ _ _ _ (E1.trans E2) o2 n2 fun a ha => ⟨Same.free E1.s (f2 a ha).1, (f2 a ha).2⟩
  · exact h.elim
/-- what is new may be frozen -/
def eFz (f : Env → R OV) : Env → R PV := fun ρ => (f ρ).bind fun o => .ok o.pv
theorem frz_ext {o : OV} {v : V} {H H' H₀ H₀' : Hp} {Fv : List Addr} (E : Ext H₀ H H₀' H') (r : OwnR C.G H₀' H' o v Fv) (fr : ∀ a ∈ Fv, H a = none ∧ H₀' a = none) :
    Ext H₀ H (vw H₀' H' Fv) H' ∧ Rep C.G (vw H₀' H' Fv) o.pv v := by
  have z0 : Same H₀' (vw H₀' H' Fv) := same_vw fun a ha => (fr a ha).2
  refine ⟨⟨E.s, E.s0.trans z0, vw_same E.z, fun a ha => ?_⟩, OwnR.rep z0 (fun a ha => by unfold vw; rw [if_pos ha]) r⟩
  unfold vw
  rw [if_neg fun q => ha (fr a q).1]
  exact E.n a ha
theorem qFz {f : Env → R OV} (h : QF C W X a f) : QE C W m X a (eFz f) := by
  refine PE.imp h fun σ H Q h => ?_
  rw [tE_iff] at h
  rw [tF_iff]
  obtain ⟨H₀, F, ρ, S, h⟩ := h
  unfold eFz at h
  rw [Goes.bind] at h
  refine ⟨H₀, F, ρ, S, h.imp fun o _ h v H1 H₁ Fv E1 r1 n1 f1 => ?_⟩
  obtain ⟨E2, r2⟩ := frz_ext E1 r1 f1
  exact h v H1 _ E2 (Rep.mono (z_md fun a ha => ((S.ext E2).fr a ha).2) r2)
/-- what is frozen, as a new value -/
def fSh (f : Env → R PV) : Env → R OV := fun ρ => (f ρ).bind fun p => .ok (.sh p)
theorem qSh {f : Env → R PV} (h : QE C W true X a f) : QF C W X a (fSh f) := by
  refine PE.imp h fun σ H Q h => ?_
  rw [tF_iff] at h
  rw [tE_iff]
  obtain ⟨H₀, F, ρ, S, h⟩ := h
  unfold fSh at h
  rw [Goes.bind] at h
  exact ⟨H₀, F, ρ, S, h.imp fun p _ h v H1 H₁ E1 r1 => h v H1 H₁ [] E1 (by simp only [OwnR]; exact ⟨r1, trivial⟩) List.nodup_nil fun a ha => by cases ha⟩
end
end L3

end
section
/-! L3. 3: operators, subscripts, built-ins by values -/
namespace L3
open PySem PySem.Spec PyProof.Rows L2
section
variable {G : Gc} {K : PySem.W.Frag}
theorem rep_up {m : Bool} {H₀ H : Hp} {F : List Addr} {p : PV} {v : V} (z : Same H₀ H) (r : Rep G (md m H₀ H F) p v) : Rep G H p v := Rep.mono (md_H z) r
/-! ### ints -/
def intOp (c : Int → Int → Bool) (f : Int → Int → Int) : PV → PV → R PV
  | .int i, .int j => if c i j then .ok (.int (f i j)) else .no
  | _, _ => .no
theorem intOp_calm {c : Int → Int → Bool} {f : Int → Int → Int} : Calm2 (intOp c f) := by
  intro p q x
  unfold intOp
  split
  · split <;> exact fun z => nomatch z
  · exact fun z => nomatch z
theorem intOp_ok {Cn : Int → Int → Prop} {c : Int → Int → Bool} {f : Int → Int → Int} (h : ∀ i j, c i j = true → Cn i j) : Op2 G (rI Cn fun i j => .int (f i j)) (intOp c f) := by
  intro m H₀ H F p q z x y Q zz rp rq e k
  unfold intOp at e
  split at e
  · rename_i i j
    simp only [Rep] at rp rq
    split at e
    · rename_i hc
      cases e
      exact ⟨i, j, rp, rq, h i j hc, k _ H H₀ (Ext.refl zz) (by simp only [Rep])⟩
    · cases e
  · cases e
def mulOk (i j : Int) : Bool := decide (-(2 ^ 64) < i ∧ i < 2 ^ 64) || decide (-(2 ^ 64) < j ∧ j < 2 ^ 64) || decide (i.natAbs.log2 + j.natAbs.log2 < 1000000)
def pySub : PV → PV → R PV := intOp (fun _ _ => true) fun i j => i - j
def pyFdiv : PV → PV → R PV := intOp (fun _ j => decide (0 < j) && decide (j.natAbs.log2 < 9000)) fun i j => i / j
def pyMod : PV → PV → R PV := intOp (fun _ j => decide (0 < j)) fun i j => i % j
def pyPow : PV → PV → R PV := intOp (fun i j => decide (0 ≤ j) && decide (j ≤ 1000000) && decide (i.natAbs < 2 ^ 64)) fun i j => i ^ j.toNat
theorem sub_ok : Op2 G (rI (fun _ _ => True) fun i j => .int (i - j)) pySub := intOp_ok fun _ _ _ => trivial
theorem op_sub' {X : Cx} : OpR X (binaryOp .Sub) (rI (fun _ _ => True) fun i j => .int (i - j)) := by
  intro pins s σ H x y v u Q I rx ry h
  obtain ⟨i, j, h1, h2, _, q⟩ := h
  exact op_sub pins s σ H x y v u Q I rx ry ⟨i, j, h1, h2, q⟩
theorem fdiv_ok : Op2 G (rI CDivW fun i j => .int (i / j)) pyFdiv := intOp_ok fun i j h => by
  simp only [Bool.and_eq_true, decide_eq_true_eq] at h
  exact h
theorem mod_ok : Op2 G (rI (fun _ j => 0 < j) fun i j => .int (i % j)) pyMod := intOp_ok fun i j h => by simpa using h
theorem pow_ok : Op2 G (rI CPow fun i j => .int (i ^ j.toNat)) pyPow := intOp_ok fun i j h => by
  simp only [Bool.and_eq_true, decide_eq_true_eq] at h
  exact ⟨h.1.1, h.1.2, h.2⟩
theorem calm_fdiv : Calm2 pyFdiv := intOp_calm
theorem calm_mod : Calm2 pyMod := intOp_calm
theorem calm_pow : Calm2 pyPow := intOp_calm
theorem calm_sub : Calm2 pySub := intOp_calm
def intCmp (f : Int → Int → Bool) : PV → PV → R PV
  | .int i, .int j => .ok (.bl (f i j))
  | _, _ => .no
theorem intCmp_calm {f : Int → Int → Bool} : Calm2 (intCmp f) := by
  intro p q x
  unfold intCmp
  split <;> exact fun z => nomatch z
theorem intCmp_ok {f : Int → Int → Bool} : Op2 G (rI0 fun i j => .bl (f i j)) (intCmp f) := by
  intro m H₀ H F p q z x y Q zz rp rq e k
  unfold intCmp at e
  split at e
  · rename_i i j
    simp only [Rep] at rp rq
    cases e
    exact ⟨i, j, rp, rq, k _ H H₀ (Ext.refl zz) (by simp only [Rep])⟩
  · cases e
def pyLt : PV → PV → R PV := intCmp fun i j => decide (i < j)
def pyLe : PV → PV → R PV := intCmp fun i j => decide (i ≤ j)
def pyGt : PV → PV → R PV := intCmp fun i j => decide (j < i)
def pyGe : PV → PV → R PV := intCmp fun i j => decide (j ≤ i)
/-! ### + and * of ints, texts, lists, tuples -/
def pyAdd : PV → PV → R PV
  | .int i, .int j => .ok (.int (i + j))
  | .str a, .str b => if a.length + b.length ≤ sizeLine then .ok (.str (a ++ b)) else .no
  | .lst a, .lst b => if a.length + b.length ≤ sizeLine then .ok (.lst (a ++ b)) else .no
  | .tup a, .tup b => if a.length + b.length ≤ sizeLine then .ok (.tup (a ++ b)) else .no
  | _, _ => .no
def rAddAll (K : PySem.W.Frag) : R2 := fun x y H Q => (∃ i j, x = .int i ∧ y = .int j ∧ Q (.int (i + j)) H) ∨ (∃ i j, x = .str i ∧ y = .str j ∧ i.length + j.length ≤ sizeLine ∧ Q (.str (i ++ j)) H) ∨ rCat x y H Q ∨ rCatA K x y H Q
theorem op_addAll {X : Cx} : OpR X (binaryOp .Add) (rAddAll X.K) := by
  intro pins s σ H x y v u Q I rx ry h
  rcases h with h | h | h | h
  · exact op_add pins s σ H x y v u Q I rx ry h
  · exact op_add_str pins s σ H x y v u Q I rx ry h
  · exact op_cat pins s σ H x y v u Q I rx ry h
  · exact op_catA pins s σ H x y v u Q I rx ry h
theorem calm_add : Calm2 pyAdd := by
  intro p q x
  unfold pyAdd
  split <;> first | (intro z; cases z; done) | (split <;> (intro z; cases z))
theorem rep_lst_new {m : Bool} {H₀ H : Hp} {F : List Addr} {p : Addr} {l : List PV} {xs : List V} (z : Same H₀ H) (hp : H p = none) (r : Reps G (md m H₀ H F) l xs) :
    Ext H₀ H (upd H₀ p (.lst xs)) (upd H p (.lst xs)) ∧ Rep G (md m (upd H₀ p (.lst xs)) (upd H p (.lst xs)) F) (.lst l) (.ref p) := by
  have E := ext_new (o := .lst xs) z hp
  refine ⟨E, ?_⟩
  simp only [Rep]
  exact ⟨p, xs, rfl, md_new, Reps.mono (md_ext E) r⟩
theorem rep_tup_new {m : Bool} {H₀ H : Hp} {F : List Addr} {p : Addr} {l : List PV} {xs : List V} (z : Same H₀ H) (hp : H p = none) (r : Reps G (md m H₀ H F) l xs) :
    Ext H₀ H (upd H₀ p (.tup xs)) (upd H p (.tup xs)) ∧ Rep G (md m (upd H₀ p (.tup xs)) (upd H p (.tup xs)) F) (.tup l) (.ref p) := by
  have E := ext_new (o := .tup xs) z hp
  refine ⟨E, ?_⟩
  simp only [Rep]
  exact ⟨p, xs, rfl, SqT.of md_new, Reps.mono (md_ext E) r⟩
theorem Reps.nil_iff {H : Hp} {l : List PV} {xs : List V} (r : Reps G H l xs) : l = [] ↔ xs = [] := by
  cases l with
  | nil => simp only [Reps] at r; simp [r]
  | cons p ps => simp only [Reps] at r; obtain ⟨x, ys, h1, _⟩ := r; subst h1; simp
theorem add_ok : Op2 G (rAddAll G.K) pyAdd := by
  intro m H₀ H F p q z x y Q zz rp rq e k
  unfold pyAdd at e
  split at e
  · simp only [Rep] at rp rq
    cases e
    exact .inl ⟨_, _, rp, rq, k _ H H₀ (Ext.refl zz) (by simp only [Rep])⟩
  · simp only [Rep] at rp rq
    split at e
    · rename_i hs
      cases e
      exact .inr (.inl ⟨_, _, rp, rq, hs, k _ H H₀ (Ext.refl zz) (by simp only [Rep])⟩)
    · cases e
  · simp only [Rep] at rp rq
    obtain ⟨a, xs, h1, h2, h3⟩ := rp
    obtain ⟨b, ys, g1, g2, g3⟩ := rq
    split at e
    · rename_i hs
      cases e
      refine .inr (.inr (.inl ⟨a, b, xs, ys, h1, g1, md_H zz _ _ h2, md_H zz _ _ g2, by rw [← h3.length, ← g3.length]; exact hs, fun r hr => ?_⟩))
      obtain ⟨E, rr⟩ := rep_lst_new (m := m) (F := F) zz hr (h3.append g3)
      exact k _ _ _ E rr
    · cases e
  · rename_i l1 l2
    simp only [Rep] at rp rq
    obtain ⟨a, xs, h1, h2, h3⟩ := rp
    obtain ⟨b, ys, g1, g2, g3⟩ := rq
    split at e
    · rename_i hs
      cases e
      refine .inr (.inr (.inr ⟨a, b, xs, ys, h1, g1, Same.seqT (md_H zz) h2, Same.seqT (md_H zz) g2, by rw [← h3.length, ← g3.length]; exact hs, fun hx => ?_, fun hx hy => ?_, fun _ _ r hr => ?_⟩))
      · have e1 : l1 = [] := h3.nil_iff.mpr hx
        subst e1
        refine k _ H H₀ (Ext.refl zz) ?_
        simp only [Rep, List.nil_append]
        exact ⟨b, ys, rfl, g2, g3⟩
      · have e1 : l2 = [] := g3.nil_iff.mpr hy
        subst e1
        refine k _ H H₀ (Ext.refl zz) ?_
        simp only [Rep, List.append_nil]
        exact ⟨a, xs, rfl, h2, h3⟩
      · obtain ⟨E, rr⟩ := rep_tup_new (m := m) (F := F) zz hr (h3.append g3)
        exact k _ _ _ E rr
    · cases e
  · cases e
def strRep (x : Str) (n : Int) : Str := if n < 1 then Str.empty else if (n == 1 || x.length == 0) = true then x else ⟨(List.replicate n.toNat x.cps).foldl (· ++ ·) #[]⟩
def rRepS : R2 := fun x y H Q => ∃ i n, x = .str i ∧ y = .int n ∧ -1000 ≤ n ∧ n ≤ 1000 ∧ i.length ≤ 1000 ∧ (strRep i n).length ≤ sizeLine ∧ Q (.str (strRep i n)) H
theorem op_repS {X : Cx} : OpR X (binaryOp .Mult) rRepS := by
  intro pins s σ H x y v u Q I rx ry h
  obtain ⟨i, n, rfl, rfl, h1, h2, h3, h4, q⟩ := h
  obtain ⟨t, rfl⟩ := rx
  obtain ⟨t', rfl⟩ := ry
  refine PySem.P.mul_str ?_ (fun k1 k2 => ?_) (fun k1 k2 => ?_) ?_
  · have e1 : ¬ n < -(2 ^ 63 : Int) := by omega
    have e2 : ¬ n ≥ 2 ^ 63 := by omega
    rw [decide_eq_false e1, decide_eq_false e2]; rfl
  · have : (1000 : Int) < (2 ^ 63 - 1) / n := by
      refine Int.lt_of_lt_of_le (show (1000 : Int) < (2 ^ 63 - 1) / 1000 by decide) ?_
      have hn : 0 < n := by omega
      rw [Int.le_ediv_iff_mul_le hn]
      have : (2 ^ 63 - 1) / 1000 * n ≤ (2 ^ 63 - 1) / 1000 * 1000 := Int.mul_le_mul_of_nonneg_left h2 (by decide)
      refine Int.le_trans this (by decide)
    omega
  · have hm : i.length * n.toNat ≤ 1000 * 1000 := Nat.mul_le_mul h3 (by omega)
    unfold Builtin.Str.tooLong
    refine decide_eq_false ?_
    have := sizeLine_eq
    omega
  · unfold strRep at q h4
    split
    · rename_i hn
      rw [if_pos hn] at q h4
      exact ⟨by decide, ⟨.str Str.empty, H, I.tok _, ⟨_, rfl⟩, q⟩⟩
    · rename_i hn
      rw [if_neg hn] at q h4
      split
      · rename_i hc
        rw [if_pos hc] at q
        exact ⟨.str i, H, I, ⟨_, rfl⟩, q⟩
      · rename_i hc
        rw [if_neg hc] at q h4
        exact ⟨h4, ⟨.str _, H, I.tok _, ⟨_, rfl⟩, q⟩⟩
def pyMul : PV → PV → R PV
  | .str x, .int n => if -1000 ≤ n ∧ n ≤ 1000 ∧ x.length ≤ 1000 ∧ (strRep x n).length ≤ sizeLine then .ok (.str (strRep x n)) else .no
  | .int i, .int j => if mulOk i j then .ok (.int (i * j)) else .no
  | .lst l, .int k => if -(2 ^ 63) ≤ k ∧ k < 2 ^ 63 ∧ l.length * k.toNat ≤ sizeLine then .ok (.lst (List.replicate k.toNat l).flatten) else .no
  | _, _ => .no
def rMulAll : R2 := fun x y H Q => rI CMul (fun i j => .int (i * j)) x y H Q ∨ rI CMulW (fun i j => .int (i * j)) x y H Q ∨ rRep x y H Q ∨ rRepS x y H Q
theorem op_mulAll {X : Cx} : OpR X (binaryOp .Mult) rMulAll := by
  intro pins s σ H x y v u Q I rx ry h
  rcases h with h | h | h | h
  · exact op_mul pins s σ H x y v u Q I rx ry h
  · exact op_mulW pins s σ H x y v u Q I rx ry h
  · exact op_rep pins s σ H x y v u Q I rx ry h
  · exact op_repS pins s σ H x y v u Q I rx ry h
theorem calm_mul : Calm2 pyMul := by
  intro p q x
  unfold pyMul
  split <;> first | (intro z; cases z; done) | (split <;> (intro z; cases z))
theorem Reps.rep {H : Hp} {l : List PV} {xs : List V} (r : Reps G H l xs) : ∀ n : Nat, Reps G H (List.replicate n l).flatten (List.replicate n xs).flatten
  | 0 => by simp only [List.replicate_zero, List.flatten_nil]; exact Reps.nil
  | n + 1 => by simp only [List.replicate_succ, List.flatten_cons]; exact r.append (Reps.rep r n)
theorem mul_ok : Op2 G rMulAll pyMul := by
  intro m H₀ H F p q z x y Q zz rp rq e k
  unfold pyMul at e
  split at e
  · simp only [Rep] at rp rq
    split at e
    · rename_i hc
      cases e
      exact .inr (.inr (.inr ⟨_, _, rp, rq, hc.1, hc.2.1, hc.2.2.1, hc.2.2.2, k _ H H₀ (Ext.refl zz) (by simp only [Rep])⟩))
    · cases e
  · rename_i i j
    simp only [Rep] at rp rq
    split at e
    · rename_i hc
      cases e
      have kk := k (.int (i * j)) H H₀ (Ext.refl zz) (by simp only [Rep])
      unfold mulOk at hc
      simp only [Bool.or_eq_true, decide_eq_true_eq] at hc
      rcases hc with hc | hc
      · exact .inl ⟨i, j, rp, rq, hc, kk⟩
      · exact .inr (.inl ⟨i, j, rp, rq, hc, kk⟩)
    · cases e
  · rename_i l j
    simp only [Rep] at rp rq
    obtain ⟨a, xs, h1, h2, h3⟩ := rp
    split at e
    · rename_i hc
      cases e
      refine .inr (.inr (.inl ⟨a, j, xs, h1, rq, md_H zz _ _ h2, hc.1, hc.2.1, by rw [← h3.length]; exact hc.2.2, fun r hr => ?_⟩))
      obtain ⟨E, rr⟩ := rep_lst_new (m := m) (F := F) zz hr (h3.rep j.toNat)
      exact k _ _ _ E rr
    · cases e
  · cases e
/-! ### equality -/
mutual
def toPD : PV → Option PyData
  | .non => some .none
  | .bl b => some (.bool b)
  | .int i => some (.int i)
  | .str s => some (.str s)
  | .lst l => (toPDs l).map .list
  | .scr l => (toPDs l).map .list
  | .tup l => (toPDs l).map .tuple
  | .ins _ _ => none
def toPDs : List PV → Option (List PyData)
  | [] => some []
  | p :: ps => (toPD p).bind fun d => (toPDs ps).map fun ds => d :: ds
end
mutual
theorem dp_of {H : Hp} : ∀ {p : PV} {v : V} {d : PyData}, Rep G H p v → toPD p = some d → Dp G.K H v d
  | .non, v, d, r, e => by simp only [Rep] at r; simp only [toPD] at e; subst r; cases e; exact .non
  | .bl b, v, d, r, e => by simp only [Rep] at r; simp only [toPD] at e; subst r; cases e; exact .bl b
  | .int b, v, d, r, e => by simp only [Rep] at r; simp only [toPD] at e; subst r; cases e; exact .int b
  | .str b, v, d, r, e => by simp only [Rep] at r; simp only [toPD] at e; subst r; cases e; exact .str b
  | .lst l, v, d, r, e => by
    simp only [Rep] at r
    simp only [toPD] at e
    obtain ⟨a, xs, h1, h2, h3⟩ := r
    subst h1
    cases q : toPDs l with
    | none => rw [q] at e; cases e
    | some ds => rw [q] at e; cases e; exact .lst (SqL.of h2) (dps_of h3 q)
  | .scr l, v, d, r, e => by
    simp only [Rep] at r
    simp only [toPD] at e
    obtain ⟨a, xs, h1, h2, h3⟩ := r
    subst h1
    cases q : toPDs l with
    | none => rw [q] at e; cases e
    | some ds => rw [q] at e; cases e; exact .lst h2 (dps_of h3 q)
  | .tup l, v, d, r, e => by
    simp only [Rep] at r
    simp only [toPD] at e
    obtain ⟨a, xs, h1, h2, h3⟩ := r
    subst h1
    cases q : toPDs l with
    | none => rw [q] at e; cases e
    | some ds => rw [q] at e; cases e; exact .tup h2 (dps_of h3 q)
  | .ins c fs, v, d, r, e => by simp only [toPD] at e; cases e
theorem dps_of {H : Hp} : ∀ {l : List PV} {vs : List V} {ds : List PyData}, Reps G H l vs → toPDs l = some ds → DpAll G.K H vs ds
  | [], vs, ds, r, e => by simp only [Reps] at r; simp only [toPDs] at e; subst r; cases e; exact .nil
  | p :: ps, vs, ds, r, e => by
    simp only [Reps] at r
    simp only [toPDs] at e
    obtain ⟨x, ys, h1, h2, h3⟩ := r
    subst h1
    cases q : toPD p with
    | none => rw [q] at e; cases e
    | some d =>
      cases q2 : toPDs ps with
      | none => rw [q, q2] at e; cases e
      | some es => rw [q, q2] at e; cases e; exact .cons (dp_of h2 q) (dps_of h3 q2)
end
/-- the scalars that == tells apart by what they are -/
def scalP : PV → PV → Option Bool
  | .non, .non => some true
  | .non, .int _ => some false | .int _, .non => some false | .non, .bl _ => some false | .bl _, .non => some false | .non, .str _ => some false | .str _, .non => some false
  | .int i, .int j => some (decide (i = j)) | .bl i, .bl j => some (decide (i = j)) | .str i, .str j => some (decide (i = j))
  | .int _, .str _ => some false | .str _, .int _ => some false | .bl _, .str _ => some false | .str _, .bl _ => some false
  | _, _ => none
theorem scalP_ok {H : Hp} {p q : PV} {x y : V} {b : Bool} (rp : Rep G H p x) (rq : Rep G H q y) (e : scalP p q = some b) : scal x y = true ∧ decide (x = y) = b := by
  unfold scalP at e
  split at e <;> first
    | (cases e; simp only [Rep] at rp rq; subst rp; subst rq; exact ⟨rfl, by simp⟩)
    | cases e
def eqR (p q : PV) : R Bool := match scalP p q with
  | some b => .ok b
  | none => match toPD p, toPD q with
    | some d, some e => if SeqAt.shaped d = true ∧ SeqAt.shaped e = true then .ok (PyData.eqv d e) else .no
    | _, _ => .no
def pyEq (p q : PV) : R PV := (eqR p q).bind fun b => .ok (.bl b)
def pyNe (p q : PV) : R PV := (eqR p q).bind fun b => .ok (.bl (!b))
theorem eqR_calm {p q : PV} {x : PX} : eqR p q ≠ .er x := by
  unfold eqR
  split
  · exact fun z => nomatch z
  · split
    · split <;> exact fun z => nomatch z
    · exact fun z => nomatch z
theorem calm_eq : Calm2 pyEq := fun p q x => by
  unfold pyEq
  cases e : eqR p q with
  | ok b => exact fun z => nomatch z
  | er x => exact absurd e eqR_calm
  | no => exact fun z => nomatch z
theorem calm_ne : Calm2 pyNe := fun p q x => by
  unfold pyNe
  cases e : eqR p q with
  | ok b => exact fun z => nomatch z
  | er x => exact absurd e eqR_calm
  | no => exact fun z => nomatch z
def rEqAll (K : PySem.W.Frag) : R2 := fun x y H Q => rEq x y H Q ∨ rEqD K x y H Q
def rNeAll (K : PySem.W.Frag) : R2 := fun x y H Q => rNe x y H Q ∨ rNeD K x y H Q
theorem op_eqAll {X : Cx} (hu : X.A.units + 64 < cLine) : OpR X (compareOp .Eq) (rEqAll X.K) := OpR.or op_eq (op_eqD hu)
theorem op_neAll {X : Cx} (hu : X.A.units + 64 < cLine) : OpR X (compareOp .NotEq) (rNeAll X.K) := OpR.or op_ne (op_neD hu)
theorem eqR_ok {H : Hp} {p q : PV} {x y : V} {b : Bool} (rp : Rep G H p x) (rq : Rep G H q y) (e : eqR p q = .ok b) : (scal x y = true ∧ decide (x = y) = b) ∨ ∃ d f, Dp G.K H x d ∧ Dp G.K H y f ∧ SeqAt.shaped d = true ∧ SeqAt.shaped f = true ∧ PyData.eqv d f = b := by
  unfold eqR at e
  split at e
  · rename_i b' hb
    cases e
    exact .inl (scalP_ok rp rq hb)
  · split at e
    · rename_i d f h1 h2
      split at e
      · rename_i hs
        cases e
        exact .inr ⟨d, f, dp_of rp h1, dp_of rq h2, hs.1, hs.2, rfl⟩
      · cases e
    · cases e
theorem eq_ok : Op2 G (rEqAll G.K) pyEq := by
  intro m H₀ H F p q z x y Q zz rp rq e k
  unfold pyEq at e
  cases h : eqR p q with
  | er x => exact absurd h eqR_calm
  | no => rw [h] at e; cases e
  | ok b =>
    rw [h] at e
    cases e
    have kk := k (.bl b) H H₀ (Ext.refl zz) (by simp only [Rep])
    rcases eqR_ok (rep_up zz rp) (rep_up zz rq) h with ⟨h1, h2⟩ | ⟨d, f, h1, h2, h3, h4, h5⟩
    · exact .inl ⟨h1, by rw [h2]; exact kk⟩
    · exact .inr ⟨d, f, h1, h2, h3, h4, by rw [h5]; exact kk⟩
theorem ne_ok : Op2 G (rNeAll G.K) pyNe := by
  intro m H₀ H F p q z x y Q zz rp rq e k
  unfold pyNe at e
  cases h : eqR p q with
  | er x => exact absurd h eqR_calm
  | no => rw [h] at e; cases e
  | ok b =>
    rw [h] at e
    cases e
    have kk := k (.bl (!b)) H H₀ (Ext.refl zz) (by simp only [Rep])
    rcases eqR_ok (rep_up zz rp) (rep_up zz rq) h with ⟨h1, h2⟩ | ⟨d, f, h1, h2, h3, h4, h5⟩
    · exact .inl ⟨h1, by rw [h2]; exact kk⟩
    · exact .inr ⟨d, f, h1, h2, h3, h4, by rw [h5]; exact kk⟩
/-! ### in -/
def flatP : PV → Bool
  | .non | .bl _ | .int _ | .str _ => true
  | _ => false
def toV : PV → V
  | .non => .non
  | .bl b => .bl b
  | .int i => .int i
  | .str s => .str s
  | _ => .non
theorem flat_ok {H : Hp} {p : PV} {v : V} (r : Rep G H p v) (f : flatP p = true) : v = toV p ∧ flatV v = true := by
  unfold flatP at f
  split at f <;> first | (simp only [Rep] at r; subst r; exact ⟨rfl, rfl⟩) | cases f
theorem flats_ok {H : Hp} : ∀ {l : List PV} {vs : List V}, Reps G H l vs → l.all flatP = true → vs = l.map toV ∧ vs.all flatV = true
  | [], vs, r, _ => by simp only [Reps] at r; subst r; exact ⟨rfl, rfl⟩
  | p :: ps, vs, r, f => by
    simp only [Reps] at r
    obtain ⟨x, ys, h1, h2, h3⟩ := r
    subst h1
    simp only [List.all_cons, Bool.and_eq_true] at f
    obtain ⟨e1, e2⟩ := flat_ok h2 f.1
    obtain ⟨e3, e4⟩ := flats_ok h3 f.2
    refine ⟨by rw [List.map_cons, ← e1, ← e3], by rw [List.all_cons, e2, e4]; rfl⟩
/-- x in y -/
def inR : PV → PV → R Bool
  | .str a, .str b => .ok (!(Builtin.Str.occurrences b a 0 b.length 1).isEmpty)
  | p, .tup l => if flatP p = true ∧ l.all flatP = true then .ok (inV (toV p) (l.map toV)) else .no
  | p, .lst l => if flatP p = true ∧ l.all flatP = true then .ok (inV (toV p) (l.map toV)) else match toPD p, toPDs l with
    | some d, some ds => if SeqAt.shaped d = true ∧ SeqAt.shaped (.list ds) = true then .ok (ds.any fun z => PyData.eqv z d) else .no
    | _, _ => .no
  | _, _ => .no
def rInAll (K : PySem.W.Frag) (neg : Bool) : R2 := fun x y H Q => (∃ i j, x = .str i ∧ y = .str j ∧ Q (.bl (if neg then !(!(Builtin.Str.occurrences j i 0 j.length 1).isEmpty) else !(Builtin.Str.occurrences j i 0 j.length 1).isEmpty)) H) ∨ rIn K neg x y H Q ∨
  ∃ d ds, Dp K H x d ∧ Dp K H y (.list ds) ∧ SeqAt.shaped d = true ∧ SeqAt.shaped (.list ds) = true ∧ Q (.bl (if neg then !(ds.any fun z => PyData.eqv z d) else ds.any fun z => PyData.eqv z d)) H
theorem op_inAll {X : Cx} (hu : X.A.units + 65 < cLine) : OpR X (compareOp .In) (rInAll X.K false) := by
  intro pins s σ H x y v u Q I rx ry h
  rcases h with h | h | h
  · exact op_in_str pins s σ H x y v u Q I rx ry h
  · exact op_in_seq pins s σ H x y v u Q I rx ry h
  · exact op_inD hu pins s σ H x y v u Q I rx ry h
theorem op_notInAll {X : Cx} (hu : X.A.units + 65 < cLine) : OpR X (compareOp .NotIn) (rInAll X.K true) := by
  intro pins s σ H x y v u Q I rx ry h
  rcases h with h | h | h
  · exact op_notin_str pins s σ H x y v u Q I rx ry h
  · exact op_notIn_seq pins s σ H x y v u Q I rx ry h
  · exact op_notInD hu pins s σ H x y v u Q I rx ry h
def pyIn (neg : Bool) (p q : PV) : R PV := (inR p q).bind fun b => .ok (.bl (if neg then !b else b))
theorem inR_calm {p q : PV} {x : PX} : inR p q ≠ .er x := by
  unfold inR
  split
  · exact fun z => nomatch z
  · split <;> exact fun z => nomatch z
  · split
    · exact fun z => nomatch z
    · split
      · split <;> exact fun z => nomatch z
      · exact fun z => nomatch z
  · exact fun z => nomatch z
theorem calm_in {neg : Bool} : Calm2 (pyIn neg) := fun p q x => by
  unfold pyIn
  cases e : inR p q with
  | ok b => exact fun z => nomatch z
  | er x => exact absurd e inR_calm
  | no => exact fun z => nomatch z
theorem in_ok {neg : Bool} : Op2 G (rInAll G.K neg) (pyIn neg) := by
  intro m H₀ H F p q z x y Q zz rp0 rq0 e k
  have rp := rep_up zz rp0
  have rq := rep_up zz rq0
  unfold pyIn at e
  cases h : inR p q with
  | er x => exact absurd h inR_calm
  | no => rw [h] at e; cases e
  | ok b =>
    rw [h] at e
    cases e
    have kk := k (.bl (if neg then !b else b)) H H₀ (Ext.refl zz) (by simp only [Rep])
    unfold inR at h
    split at h
    · simp only [Rep] at rp rq
      cases h
      exact .inl ⟨_, _, rp, rq, kk⟩
    · simp only [Rep] at rq
      obtain ⟨a, xs, h1, h2, h3⟩ := rq
      split at h
      · rename_i hf
        cases h
        obtain ⟨e1, e2⟩ := flat_ok rp hf.1
        obtain ⟨e3, e4⟩ := flats_ok h3 hf.2
        refine .inr (.inl ⟨a, xs, h1, .inr h2, e2, e4, ?_⟩)
        rw [e1, e3]
        exact kk
      · cases h
    · simp only [Rep] at rq
      have rq' := rq
      obtain ⟨a, xs, h1, h2, h3⟩ := rq
      split at h
      · rename_i hf
        cases h
        obtain ⟨e1, e2⟩ := flat_ok rp hf.1
        obtain ⟨e3, e4⟩ := flats_ok h3 hf.2
        refine .inr (.inl ⟨a, xs, h1, .inl (SqL.of h2), e2, e4, ?_⟩)
        rw [e1, e3]
        exact kk
      · split at h
        · rename_i d ds q1 q2
          split at h
          · rename_i hs
            cases h
            subst h1
            exact .inr (.inr ⟨d, ds, dp_of rp q1, .lst (SqL.of h2) (dps_of h3 q2), hs.1, hs.2, kk⟩)
          · cases h
        · cases h
    · cases h
/-! ### subscripts -/
def idxR : PV → PV → R PV
  | .lst l, .int i => R.of (atI l i)
  | .scr l, .int i => R.of (atI l i)
  | .tup l, .int i => R.of (atI l i)
  | .str z, .int i => if z.length ≤ sizeLine then R.of ((atI z.cps.toList i).map fun c => .str ⟨#[c]⟩) else .no
  | _, _ => .no
theorem R.of_calm {α : Type} {o : Option α} {x : PX} : R.of o ≠ .er x := by cases o <;> exact fun z => nomatch z
theorem calm_idx : Calm2 idxR := by
  intro p q x
  unfold idxR
  split <;> first | exact R.of_calm | (intro z; cases z; done) | (split <;> first | exact R.of_calm | (intro z; cases z; done))
def rIxAll (K : PySem.W.Frag) : R2 := fun x y H Q => rIxL K x y H Q ∨ rIxT K x y H Q ∨ rIxS x y H Q
theorem ix_all {X : Cx} : IxR X (rIxAll X.K) := IxR.or ix_list (IxR.or ix_tup ix_str)
theorem Reps.atI {H : Hp} {l : List PV} {xs : List V} {i : Int} {p : PV} (r : Reps G H l xs) (e : L2.atI l i = some p) : ∃ v, L2.atI xs i = some v ∧ Rep G H p v := by
  unfold L2.atI at e ⊢
  rw [← r.length]
  cases q : ixN l.length i with
  | none => rw [q] at e; cases e
  | some j =>
    rw [q] at e
    exact r.get e
theorem idx_ok : Op2 G (rIxAll G.K) idxR := by
  intro m H₀ H F p q z x y Q zz rp rq e k
  unfold idxR at e
  split at e
  · rename_i l i
    simp only [Rep] at rp rq
    obtain ⟨a, xs, h1, h2, h3⟩ := rp
    cases q : L2.atI l i with
    | none => rw [q] at e; cases e
    | some w =>
      rw [q] at e
      cases e
      obtain ⟨v, e1, e2⟩ := h3.atI q
      exact .inl ⟨a, xs, i, v, h1, rq, SqL.of (md_H zz _ _ h2), e1, k v H H₀ (Ext.refl zz) e2⟩
  · rename_i l i
    simp only [Rep] at rp rq
    obtain ⟨a, xs, h1, h2, h3⟩ := rp
    cases q : L2.atI l i with
    | none => rw [q] at e; cases e
    | some w =>
      rw [q] at e
      cases e
      obtain ⟨v, e1, e2⟩ := h3.atI q
      exact .inl ⟨a, xs, i, v, h1, rq, (md_H zz).seq h2, e1, k v H H₀ (Ext.refl zz) e2⟩
  · rename_i l i
    simp only [Rep] at rp rq
    obtain ⟨a, xs, h1, h2, h3⟩ := rp
    cases q : L2.atI l i with
    | none => rw [q] at e; cases e
    | some w =>
      rw [q] at e
      cases e
      obtain ⟨v, e1, e2⟩ := h3.atI q
      exact .inr (.inl ⟨a, xs, i, v, h1, rq, Same.seqT (md_H zz) h2, e1, k v H H₀ (Ext.refl zz) e2⟩)
  · rename_i s i
    simp only [Rep] at rp rq
    split at e
    · rename_i hs
      cases q : L2.atI s.cps.toList i with
      | none => rw [q] at e; cases e
      | some w =>
        rw [q] at e
        cases e
        exact .inr (.inr ⟨s, i, w, rp, rq, hs, q, k _ H H₀ (Ext.refl zz) (by simp only [Rep])⟩)
    · cases e
  · cases e
end
section
variable {C : Fc} {W : WX} {m : Bool} {X : Cx} {a b c : Expr} {pos : Pos} {fa fb : Env → R PV}
def eIdx (fa fb : Env → R PV) : Env → R PV := eBin idxR fa fb
theorem qIdx (hK : X.K = C.G.K) (ha : QE C W m X a fa) (hb : QE C W m X b fb) (hs : PlainIx b := by exact fun _ _ => rfl) : QE C W m X (.Subscript a b pos) (eIdx fa fb) :=
  PE.imp (pe_ix ix_all ha hb hs) fun σ H Q h => op2_go calm_idx (by rw [hK]; exact idx_ok) h
theorem qAdd (hK : X.K = C.G.K) (ha : QE C W m X a fa) (hb : QE C W m X b fb) : QE C W m X (.BinOp a .Add b pos) (eBin pyAdd fa fb) := qBin op_addAll calm_add (by rw [hK]; exact add_ok) ha hb
theorem qSub (ha : QE C W m X a fa) (hb : QE C W m X b fb) : QE C W m X (.BinOp a .Sub b pos) (eBin pySub fa fb) := qBin op_sub' calm_sub sub_ok ha hb
theorem qMul (ha : QE C W m X a fa) (hb : QE C W m X b fb) : QE C W m X (.BinOp a .Mult b pos) (eBin pyMul fa fb) := qBin op_mulAll calm_mul mul_ok ha hb
theorem qFdiv (ha : QE C W m X a fa) (hb : QE C W m X b fb) : QE C W m X (.BinOp a .FloorDiv b pos) (eBin pyFdiv fa fb) := qBin op_fdivW calm_fdiv fdiv_ok ha hb
theorem qMod (ha : QE C W m X a fa) (hb : QE C W m X b fb) : QE C W m X (.BinOp a .Mod b pos) (eBin pyMod fa fb) := qBin op_mod calm_mod mod_ok ha hb
theorem qPow (ha : QE C W m X a fa) (hb : QE C W m X b fb) : QE C W m X (.BinOp a .Pow b pos) (eBin pyPow fa fb) := qBin op_pow calm_pow pow_ok ha hb
theorem qLt (ha : QE C W m X a fa) (hb : QE C W m X b fb) : QE C W m X (.Compare a [.Lt] [b] pos) (eBin pyLt fa fb) := qCmp op_lt intCmp_calm intCmp_ok ha hb
theorem qLe (ha : QE C W m X a fa) (hb : QE C W m X b fb) : QE C W m X (.Compare a [.LtE] [b] pos) (eBin pyLe fa fb) := qCmp op_le intCmp_calm intCmp_ok ha hb
theorem qGt (ha : QE C W m X a fa) (hb : QE C W m X b fb) : QE C W m X (.Compare a [.Gt] [b] pos) (eBin pyGt fa fb) := qCmp op_gt intCmp_calm intCmp_ok ha hb
theorem qGe (ha : QE C W m X a fa) (hb : QE C W m X b fb) : QE C W m X (.Compare a [.GtE] [b] pos) (eBin pyGe fa fb) := qCmp op_ge intCmp_calm intCmp_ok ha hb
theorem tLt (ha : QE C W m X a fa) (hb : QE C W m X b fb) : QT C W X (.Compare a [.Lt] [b] pos) (eTst (eBin pyLt fa fb)) := qtCmp op_lt intCmp_calm intCmp_ok ha hb
theorem tLe (ha : QE C W m X a fa) (hb : QE C W m X b fb) : QT C W X (.Compare a [.LtE] [b] pos) (eTst (eBin pyLe fa fb)) := qtCmp op_le intCmp_calm intCmp_ok ha hb
theorem tGt (ha : QE C W m X a fa) (hb : QE C W m X b fb) : QT C W X (.Compare a [.Gt] [b] pos) (eTst (eBin pyGt fa fb)) := qtCmp op_gt intCmp_calm intCmp_ok ha hb
theorem tGe (ha : QE C W m X a fa) (hb : QE C W m X b fb) : QT C W X (.Compare a [.GtE] [b] pos) (eTst (eBin pyGe fa fb)) := qtCmp op_ge intCmp_calm intCmp_ok ha hb
theorem qEq (hK : X.K = C.G.K) (hu : X.A.units + 65 < cLine) (ha : QE C W m X a fa) (hb : QE C W m X b fb) : QE C W m X (.Compare a [.Eq] [b] pos) (eBin pyEq fa fb) := qCmp (op_eqAll (by omega)) calm_eq (by rw [hK]; exact eq_ok) ha hb
theorem qNe (hK : X.K = C.G.K) (hu : X.A.units + 65 < cLine) (ha : QE C W m X a fa) (hb : QE C W m X b fb) : QE C W m X (.Compare a [.NotEq] [b] pos) (eBin pyNe fa fb) := qCmp (op_neAll (by omega)) calm_ne (by rw [hK]; exact ne_ok) ha hb
theorem tEq (hK : X.K = C.G.K) (hu : X.A.units + 65 < cLine) (ha : QE C W m X a fa) (hb : QE C W m X b fb) : QT C W X (.Compare a [.Eq] [b] pos) (eTst (eBin pyEq fa fb)) := qtCmp (op_eqAll (by omega)) calm_eq (by rw [hK]; exact eq_ok) ha hb
theorem tNe (hK : X.K = C.G.K) (hu : X.A.units + 65 < cLine) (ha : QE C W m X a fa) (hb : QE C W m X b fb) : QT C W X (.Compare a [.NotEq] [b] pos) (eTst (eBin pyNe fa fb)) := qtCmp (op_neAll (by omega)) calm_ne (by rw [hK]; exact ne_ok) ha hb
theorem qIn (hK : X.K = C.G.K) (hu : X.A.units + 65 < cLine) (ha : QE C W m X a fa) (hb : QE C W m X b fb) (hm : behindInMarks .In b = false := by rfl) : QE C W m X (.Compare a [.In] [b] pos) (eBin (pyIn false) fa fb) := qCmp (op_inAll hu) calm_in (by rw [hK]; exact in_ok) ha hb hm
theorem qNotIn (hK : X.K = C.G.K) (hu : X.A.units + 65 < cLine) (ha : QE C W m X a fa) (hb : QE C W m X b fb) (hm : behindInMarks .NotIn b = false := by rfl) : QE C W m X (.Compare a [.NotIn] [b] pos) (eBin (pyIn true) fa fb) := qCmp (op_notInAll hu) calm_in (by rw [hK]; exact in_ok) ha hb hm
theorem tIn (hK : X.K = C.G.K) (hu : X.A.units + 65 < cLine) (ha : QE C W m X a fa) (hb : QE C W m X b fb) (hm : behindInMarks .In b = false := by rfl) : QT C W X (.Compare a [.In] [b] pos) (eTst (eBin (pyIn false) fa fb)) := qtCmp (op_inAll hu) calm_in (by rw [hK]; exact in_ok) ha hb hm
theorem tNotIn (hK : X.K = C.G.K) (hu : X.A.units + 65 < cLine) (ha : QE C W m X a fa) (hb : QE C W m X b fb) (hm : behindInMarks .NotIn b = false := by rfl) : QT C W X (.Compare a [.NotIn] [b] pos) (eTst (eBin (pyIn true) fa fb)) := qtCmp (op_notInAll hu) calm_in (by rw [hK]; exact in_ok) ha hb hm
/-! is None -/
def isN : PV → Bool
  | .non => true
  | _ => false
theorem isN_ok {G : Gc} {H : Hp} {p : PV} {v : V} (r : Rep G H p v) : decide (v = .non) = isN p := by
  cases p with
  | non => simp only [Rep] at r; subst r; rfl
  | bl b => simp only [Rep] at r; subst r; rfl
  | int b => simp only [Rep] at r; subst r; rfl
  | str b => simp only [Rep] at r; subst r; rfl
  | lst l => simp only [Rep] at r; obtain ⟨a, xs, h1, _⟩ := r; subst h1; rfl
  | scr l => simp only [Rep] at r; obtain ⟨a, xs, h1, _⟩ := r; subst h1; rfl
  | tup l => simp only [Rep] at r; obtain ⟨a, xs, h1, _⟩ := r; subst h1; rfl
  | ins c fs => simp only [Rep] at r; obtain ⟨a, dx, xs, h1, _⟩ := r; subst h1; rfl
def eIsN (f : Env → R PV) : Env → R PV := fun ρ => (f ρ).bind fun p => .ok (.bl (isN p))
def eNotN (f : Env → R PV) : Env → R PV := fun ρ => (f ρ).bind fun p => .ok (.bl (!isN p))
theorem isN_go {σ : L2.St} {H : Hp} {Q : VK} (g : Bool → Bool) (h : tE C W m (fun ρ => (fa ρ).bind fun p => .ok (.bl (g (isN p)))) σ H Q) : tE C W m fa σ H fun x H1 => Q (.bl (g (decide (x = .non)))) H1 := by
  rw [tE_iff] at h ⊢
  obtain ⟨H₀, F, ρ, S, h⟩ := h
  rw [Goes.bind] at h
  refine ⟨H₀, F, ρ, S, h.imp fun p _ h v H1 H₁ E1 r1 => ?_⟩
  rw [isN_ok r1]
  exact h _ H1 H₁ E1 (by simp only [Rep])
theorem qIsN {j pos'} (ha : QE C W m X a fa) : QE C W m X (.Compare a [.Is] [.Constant .none j pos'] pos) (eIsN fa) := PE.imp (pe_cmp (pc_isN ha)) fun σ H Q h => isN_go (fun b => b) h
theorem qNotN {j pos'} (ha : QE C W m X a fa) : QE C W m X (.Compare a [.IsNot] [.Constant .none j pos'] pos) (eNotN fa) := PE.imp (pe_cmp (pc_notN ha)) fun σ H Q h => isN_go (fun b => !b) h
theorem tst_isN {σ : L2.St} {H : Hp} {Q : Bool → Hp → Prop} (g : Bool → Bool) (h : tTt C W (eTst (fun ρ => (fa ρ).bind fun p => .ok (.bl (g (isN p))))) σ H Q) : tE C W m fa σ H fun x H1 => ∃ c, V.bl (g (decide (x = .non))) = .bl c ∧ Q c H1 :=
  isN_go (m := m) (Q := fun x H1 => ∃ c, x = .bl c ∧ Q c H1) g (tst_go h)
theorem tIsN {j pos'} (ha : QE C W m X a fa) : QT C W X (.Compare a [.Is] [.Constant .none j pos'] pos) (eTst (eIsN fa)) := PT.imp (pt_cmp (pc_isN ha)) fun σ H Q h => tst_isN (fun b => b) h
theorem tNotN {j pos'} (ha : QE C W m X a fa) : QT C W X (.Compare a [.IsNot] [.Constant .none j pos'] pos) (eTst (eNotN fa)) := PT.imp (pt_cmp (pc_notN ha)) fun σ H Q h => tst_isN (fun b => !b) h
/-! -x -/
def pyNeg : PV → R PV
  | .int i => .ok (.int (-i))
  | _ => .no
def eUn (g : PV → R PV) (f : Env → R PV) : Env → R PV := fun ρ => (f ρ).bind g
theorem qNeg (ha : QE C W m X a fa) : QE C W m X (.UnaryOp .USub a pos) (eUn pyNeg fa) := by
  refine PE.imp (pe_un un_neg ha) fun σ H Q h => ?_
  show tE C W m fa σ H fun x H1 => ∃ i, x = .int i ∧ Q (.int (-i)) H1
  rw [tE_iff] at h ⊢
  obtain ⟨H₀, F, ρ, S, h⟩ := h
  unfold eUn at h
  rw [Goes.bind] at h
  refine ⟨H₀, F, ρ, S, h.imp fun p _ h v H1 H₁ E1 r1 => ?_⟩
  cases p with
  | int i =>
    simp only [Rep] at r1
    exact ⟨i, r1, h _ H1 H₁ E1 (by simp only [Rep])⟩
  | _ => exact (show False from h).elim
end
end L3

end
section
/-! L3. 4: built-ins, slices, fields, isinstance -/
namespace L3
open PySem PySem.Spec PyProof.Rows L2
/-! ### built-ins by values -/
def OpC (Γ : Gc) (r : List V → Hp → VK → Prop) (g : List PV → R PV) : Prop := ∀ (m : Bool) (H₀ H : Hp) (F : List Addr) (ps : List PV) (z : PV) (vs : List V) (Q : VK), Same H₀ H → Reps Γ (md m H₀ H F) ps vs → g ps = .ok z →
  (∀ v H' H₀', Ext H₀ H H₀' H' → Rep Γ (md m H₀' H' F) z v → Q v H') → r vs H Q
def OpF (Γ : Gc) (r : List V → Hp → VK → Prop) (g : List PV → R OV) : Prop := ∀ (H₀ H : Hp) (ps : List PV) (o : OV) (vs : List V) (Q : VK), Same H₀ H → Reps Γ H₀ ps vs → g ps = .ok o →
  (∀ v H' H₀' Fv, Ext H₀ H H₀' H' → OwnR Γ H₀' H' o v Fv → Fv.Nodup → (∀ a ∈ Fv, H a = none ∧ H₀' a = none) → Q v H') → r vs H Q
def CalmC {α : Type} (g : List PV → R α) : Prop := ∀ ps x, g ps ≠ .er x
def eB (g : List PV → R PV) (fas : Env → R (List PV)) : Env → R PV := fun ρ => (fas ρ).bind g
def fB (g : List PV → R OV) (fas : Env → R (List PV)) : Env → R OV := fun ρ => (fas ρ).bind g
section
variable {C : Fc} {W : WX} {m : Bool} {X : Cx} {a b c e : Expr} {es : List Expr} {pos p : Pos} {x : Str} {fas : Env → R (List PV)} {fa : Env → R PV} {σ : L2.St} {H : Hp}
theorem opC_go {r : List V → Hp → VK → Prop} {g : List PV → R PV} (hg : CalmC g) (ho : OpC C.G r g) {Q : VK} (h : tE C W m (eB g fas) σ H Q) : tAs C W m fas σ H fun vs H1 => r vs H1 Q := by
  rw [tE_iff] at h
  rw [tA_iff]
  obtain ⟨H₀, F, ρ, S, h⟩ := h
  unfold eB at h
  rw [Goes.bind] at h
  refine ⟨H₀, F, ρ, S, h.imp fun ps _ h vs H1 H₁ E1 r1 => ?_⟩
  cases q : g ps with
  | ok z =>
    rw [q] at h
    exact ho m H₁ H1 F ps z vs Q E1.z r1 q fun v H2 H₂ E2 r2 => h v H2 H₂ (E1.trans E2) r2
  | er x => exact absurd q (hg ps x)
  | no =>
    rw [q] at h
    exact h.elim
theorem opF_go {r : List V → Hp → VK → Prop} {g : List PV → R OV} (hg : CalmC g) (ho : OpF C.G r g) {Q : VK} (h : tF C W (fB g fas) σ H Q) : tAs C W true fas σ H fun vs H1 => r vs H1 Q := by
  rw [tF_iff] at h
  rw [tA_iff]
  obtain ⟨H₀, F, ρ, S, h⟩ := h
  unfold fB at h
  rw [Goes.bind] at h
  refine ⟨H₀, F, ρ, S, h.imp fun ps _ h vs H1 H₁ E1 r1 => ?_⟩
  cases q : g ps with
  | ok z =>
    rw [q] at h
    exact ho H₁ H1 ps z vs Q E1.z r1 q fun v H2 H₂ Fv E2 r2 n2 f2 => h v H2 H₂ Fv (E1.trans E2) r2 n2 fun a ha => ⟨Same.free E1.s (f2 a ha).1, (f2 a ha).2⟩
  | er x => exact absurd q (hg ps x)
  | no =>
    rw [q] at h
    exact h.elim
theorem qB {id : String} {r : List V → Hp → VK → Prop} {g : List PV → R PV} (hc : CallR X (.builtin id) r) (hg : CalmC g) (ho : OpC C.G r g) (hm : X.mg x = none) (hv : bootBuiltins x = some (.builtin id)) (ha : QA C W m X (e :: es) fas)
    (hgl : Gl X x := by rfl) (hn : x ≠ "__name__" := by decide) (hdb : (x == ("__debug__" : Str)) = false := by decide) (he : starEach (e :: es) X.env = (false, eval e X.env) :: starEach es X.env := by rfl) (hpl : (backTo pos (starEach es X.env)).any (·.1) = false := by rfl) :
    QE C W m X (.Call (.Name x p) (e :: es) [] pos) (eB g fas) := PE.imp (pe_callB hc hgl hm hv ha hn hdb he hpl) fun σ H Q h => opC_go hg ho h
theorem qBty {id : String} {r : List V → Hp → VK → Prop} {g : List PV → R PV} (hc : CallR X (.type id) r) (hg : CalmC g) (ho : OpC C.G r g) (hm : X.mg x = none) (hv : bootBuiltins x = some (.type id)) (ha : QA C W m X (e :: es) fas)
    (hgl : Gl X x := by rfl) (hn : x ≠ "__name__" := by decide) (hdb : (x == ("__debug__" : Str)) = false := by decide) (he : starEach (e :: es) X.env = (false, eval e X.env) :: starEach es X.env := by rfl) (hpl : (backTo pos (starEach es X.env)).any (·.1) = false := by rfl) :
    QE C W m X (.Call (.Name x p) (e :: es) [] pos) (eB g fas) := PE.imp (pe_callTy hc hgl hm hv ha hn hdb he hpl) fun σ H Q h => opC_go hg ho h
theorem qFB {id : String} {r : List V → Hp → VK → Prop} {g : List PV → R OV} (hc : CallR X (.builtin id) r) (hg : CalmC g) (ho : OpF C.G r g) (hm : X.mg x = none) (hv : bootBuiltins x = some (.builtin id)) (ha : QA C W true X (e :: es) fas)
    (hgl : Gl X x := by rfl) (hn : x ≠ "__name__" := by decide) (hdb : (x == ("__debug__" : Str)) = false := by decide) (he : starEach (e :: es) X.env = (false, eval e X.env) :: starEach es X.env := by rfl) (hpl : (backTo pos (starEach es X.env)).any (·.1) = false := by rfl) :
    QF C W X (.Call (.Name x p) (e :: es) [] pos) (fB g fas) := PE.imp (pe_callB hc hgl hm hv ha hn hdb he hpl) fun σ H Q h => opF_go hg ho h
theorem qFBty {id : String} {r : List V → Hp → VK → Prop} {g : List PV → R OV} (hc : CallR X (.type id) r) (hg : CalmC g) (ho : OpF C.G r g) (hm : X.mg x = none) (hv : bootBuiltins x = some (.type id)) (ha : QA C W true X (e :: es) fas)
    (hgl : Gl X x := by rfl) (hn : x ≠ "__name__" := by decide) (hdb : (x == ("__debug__" : Str)) = false := by decide) (he : starEach (e :: es) X.env = (false, eval e X.env) :: starEach es X.env := by rfl) (hpl : (backTo pos (starEach es X.env)).any (·.1) = false := by rfl) :
    QF C W X (.Call (.Name x p) (e :: es) [] pos) (fB g fas) := PE.imp (pe_callTy hc hgl hm hv ha hn hdb he hpl) fun σ H Q h => opF_go hg ho h
end
/-! the functions -/
def bLen : List PV → R PV
  | [.lst l] => .ok (.int l.length)
  | [.scr l] => .ok (.int l.length)
  | [.tup l] => .ok (.int l.length)
  | [.str z] => if z.length ≤ sizeLine then .ok (.int z.length) else .no
  | _ => .no
def bAbs : List PV → R PV
  | [.int i] => .ok (.int (if i < 0 then -i else i))
  | _ => .no
def bInt : List PV → R PV
  | [.int i] => .ok (.int i)
  | [.bl b] => .ok (.int (if b then 1 else 0))
  | _ => .no
def bStr : List PV → R PV
  | [.int i] => if i.natAbs.log2 < 1920 then .ok (.str (toString i)) else .no
  | [.str s] => .ok (.str s)
  | _ => .no
def toInts : List PV → Option (List Int)
  | [] => some []
  | .int i :: r => (toInts r).map (i :: ·)
  | _ => none
def toBls : List PV → Option (List Bool)
  | [] => some []
  | .bl i :: r => (toBls r).map (i :: ·)
  | _ => none
def maxL : List Int → Int
  | [] => 0
  | [a] => a
  | a :: r => max a (maxL r)
def minL : List Int → Int
  | [] => 0
  | [a] => a
  | a :: r => min a (minL r)
def bMax : List PV → R PV
  | [.int i, .int j] => .ok (.int (if j > i then j else i))
  | [.lst l] => match toInts l with
    | some (n :: ns) => .ok (.int (maxL (n :: ns)))
    | _ => .no
  | _ => .no
def bMin : List PV → R PV
  | [.int i, .int j] => .ok (.int (if j < i then j else i))
  | [.lst l] => match toInts l with
    | some (n :: ns) => .ok (.int (minL (n :: ns)))
    | _ => .no
  | _ => .no
def bSum : List PV → R PV
  | [.lst l] => match toInts l with
    | some ns => .ok (.int ns.sum)
    | _ => .no
  | _ => .no
def bAll : List PV → R PV
  | [.lst l] => match toBls l with
    | some bs => .ok (.bl (bs.all id))
    | _ => .no
  | _ => .no
def bAny : List PV → R PV
  | [.lst l] => match toBls l with
    | some bs => .ok (.bl (bs.any id))
    | _ => .no
  | _ => .no
def bTuple : List PV → R PV
  | [.lst l] => .ok (.tup l)
  | [.tup l] => .ok (.tup l)
  | _ => .no
/-- a new list -/
def bList : List PV → R OV
  | [.lst l] => .ok (.own (l.map .sh))
  | [.tup l] => .ok (.own (l.map .sh))
  | _ => .no
section
variable {G : Gc} {X : Cx}
theorem R.not_er {α : Type} {P : Prop} [Decidable P] {a : α} {x : PX} : (if P then R.ok a else R.no) ≠ .er x := by
  split <;> (intro z; cases z)
theorem calm_len : CalmC bLen := fun ps x => by unfold bLen; split <;> first | exact R.not_er | (intro z; cases z)
theorem calm_abs : CalmC bAbs := fun ps x => by unfold bAbs; split <;> (intro z; cases z)
theorem calm_int : CalmC bInt := fun ps x => by unfold bInt; split <;> (intro z; cases z)
theorem calm_str : CalmC bStr := fun ps x => by unfold bStr; split <;> first | exact R.not_er | (intro z; cases z)
theorem calm_max : CalmC bMax := fun ps x => by unfold bMax; split <;> first | (intro z; cases z; done) | (split <;> (intro z; cases z))
theorem calm_min : CalmC bMin := fun ps x => by unfold bMin; split <;> first | (intro z; cases z; done) | (split <;> (intro z; cases z))
theorem calm_sum : CalmC bSum := fun ps x => by unfold bSum; split <;> first | (intro z; cases z; done) | (split <;> (intro z; cases z))
theorem calm_all : CalmC bAll := fun ps x => by unfold bAll; split <;> first | (intro z; cases z; done) | (split <;> (intro z; cases z))
theorem calm_any : CalmC bAny := fun ps x => by unfold bAny; split <;> first | (intro z; cases z; done) | (split <;> (intro z; cases z))
theorem calm_tuple : CalmC bTuple := fun ps x => by unfold bTuple; split <;> (intro z; cases z)
theorem calm_list : CalmC bList := fun ps x => by unfold bList; split <;> (intro z; cases z)
theorem reps1 {H : Hp} {p : PV} {vs : List V} (r : Reps G H [p] vs) : ∃ v, vs = [v] ∧ Rep G H p v := by
  simp only [Reps] at r
  obtain ⟨x, ys, h1, h2, h3⟩ := r
  subst h3
  exact ⟨x, h1, h2⟩
theorem reps2 {H : Hp} {p q : PV} {vs : List V} (r : Reps G H [p, q] vs) : ∃ v w, vs = [v, w] ∧ Rep G H p v ∧ Rep G H q w := by
  simp only [Reps] at r
  obtain ⟨x, ys, h1, h2, y, zs, h3, h4, h5⟩ := r
  subst h5 h3
  exact ⟨x, y, h1, h2, h4⟩
theorem ints_ok {H : Hp} : ∀ {l : List PV} {ns : List Int} {xs : List V}, Reps G H l xs → toInts l = some ns → xs = ns.map V.int
  | [], ns, xs, r, e => by simp only [Reps] at r; subst r; cases e; rfl
  | p :: ps, ns, xs, r, e => by
    simp only [Reps] at r
    obtain ⟨x, ys, h1, h2, h3⟩ := r
    subst h1
    cases p <;> try (cases e; done)
    rename_i i
    simp only [toInts] at e
    cases q : toInts ps with
    | none => rw [q] at e; cases e
    | some ms =>
      rw [q] at e
      cases e
      simp only [Rep] at h2
      rw [h2, ints_ok h3 q]
      rfl
theorem bls_ok {H : Hp} : ∀ {l : List PV} {ns : List Bool} {xs : List V}, Reps G H l xs → toBls l = some ns → xs = ns.map V.bl
  | [], ns, xs, r, e => by simp only [Reps] at r; subst r; cases e; rfl
  | p :: ps, ns, xs, r, e => by
    simp only [Reps] at r
    obtain ⟨x, ys, h1, h2, h3⟩ := r
    subst h1
    cases p <;> try (cases e; done)
    rename_i i
    simp only [toBls] at e
    cases q : toBls ps with
    | none => rw [q] at e; cases e
    | some ms =>
      rw [q] at e
      cases e
      simp only [Rep] at h2
      rw [h2, bls_ok h3 q]
      rfl
theorem maxL_is : ∀ (n : Int) (ns : List Int) (k : Int), k ∈ n :: ns → (∀ y, y ∈ n :: ns → y ≤ k) → k = maxL (n :: ns)
  | n, [], k, h, _ => by simpa [maxL] using h
  | n, a :: r, k, h, u => by
    show k = max n (maxL (a :: r))
    have mem : ∀ (a : Int) (r : List Int), maxL (a :: r) ∈ a :: r := by
      intro a r
      induction r generalizing a with
      | nil => simp [maxL]
      | cons b t ih =>
        show max a (maxL (b :: t)) ∈ _
        rcases Int.le_total a (maxL (b :: t)) with z | z
        · rw [Int.max_eq_right z]; exact List.mem_cons_of_mem _ (ih b)
        · rw [Int.max_eq_left z]; exact List.mem_cons_self
    have up : ∀ (a : Int) (r : List Int) (y : Int), y ∈ a :: r → y ≤ maxL (a :: r) := by
      intro a r
      induction r generalizing a with
      | nil => intro y hy; simp at hy; simp [maxL, hy]
      | cons b t ih =>
        intro y hy
        show y ≤ max a (maxL (b :: t))
        rcases List.mem_cons.mp hy with e | hy
        · omega
        · have := ih b y hy; omega
    have h1 := u n List.mem_cons_self
    have h2 := u _ (List.mem_cons_of_mem _ (mem a r))
    rcases List.mem_cons.mp h with e | hk
    · omega
    · have := up a r k hk; omega
theorem minL_is : ∀ (n : Int) (ns : List Int) (k : Int), k ∈ n :: ns → (∀ y, y ∈ n :: ns → k ≤ y) → k = minL (n :: ns)
  | n, [], k, h, _ => by simpa [minL] using h
  | n, a :: r, k, h, u => by
    show k = min n (minL (a :: r))
    have mem : ∀ (a : Int) (r : List Int), minL (a :: r) ∈ a :: r := by
      intro a r
      induction r generalizing a with
      | nil => simp [minL]
      | cons b t ih =>
        show min a (minL (b :: t)) ∈ _
        rcases Int.le_total a (minL (b :: t)) with z | z
        · rw [Int.min_eq_left z]; exact List.mem_cons_self
        · rw [Int.min_eq_right z]; exact List.mem_cons_of_mem _ (ih b)
    have up : ∀ (a : Int) (r : List Int) (y : Int), y ∈ a :: r → minL (a :: r) ≤ y := by
      intro a r
      induction r generalizing a with
      | nil => intro y hy; simp at hy; simp [minL, hy]
      | cons b t ih =>
        intro y hy
        show min a (minL (b :: t)) ≤ y
        rcases List.mem_cons.mp hy with e | hy
        · omega
        · have := ih b y hy; omega
    have h1 := u n List.mem_cons_self
    have h2 := u _ (List.mem_cons_of_mem _ (mem a r))
    rcases List.mem_cons.mp h with e | hk
    · omega
    · have := up a r k hk; omega
def rLenAll (K : PySem.W.Frag) : List V → Hp → VK → Prop := fun xs H Q => (∃ p ys, xs = [.ref p] ∧ (SqL K H p ys ∨ SqT K H p ys) ∧ Q (.int ys.length) H) ∨ ∃ z, xs = [.str z] ∧ z.length ≤ sizeLine ∧ Q (.int z.length) H
theorem cr_lenAll : CallR X (.builtin "len") (rLenAll X.K) := CallR.or call_len_seq call_len_str
theorem len_ok : OpC G (rLenAll G.K) bLen := by
  intro m H₀ H F ps z vs Q zz rs e k
  unfold bLen at e
  split at e
  · obtain ⟨v, e1, r⟩ := reps1 rs
    simp only [Rep] at r
    obtain ⟨a, xs, h1, h2, h3⟩ := r
    cases e
    subst h1
    refine .inl ⟨a, xs, e1, .inl (SqL.of (md_H zz _ _ h2)), ?_⟩
    rw [← h3.length]
    exact k _ H H₀ (Ext.refl zz) (by simp only [Rep])
  · obtain ⟨v, e1, r⟩ := reps1 rs
    simp only [Rep] at r
    obtain ⟨a, xs, h1, h2, h3⟩ := r
    cases e
    subst h1
    refine .inl ⟨a, xs, e1, .inl ((md_H zz).seq h2), ?_⟩
    rw [← h3.length]
    exact k _ H H₀ (Ext.refl zz) (by simp only [Rep])
  · obtain ⟨v, e1, r⟩ := reps1 rs
    simp only [Rep] at r
    obtain ⟨a, xs, h1, h2, h3⟩ := r
    cases e
    subst h1
    refine .inl ⟨a, xs, e1, .inr (Same.seqT (md_H zz) h2), ?_⟩
    rw [← h3.length]
    exact k _ H H₀ (Ext.refl zz) (by simp only [Rep])
  · obtain ⟨v, e1, r⟩ := reps1 rs
    simp only [Rep] at r
    split at e
    · rename_i hs
      cases e
      subst r
      exact .inr ⟨_, e1, hs, k _ H H₀ (Ext.refl zz) (by simp only [Rep])⟩
    · cases e
  · cases e
theorem abs_ok : OpC G (fun xs H Q => ∃ i, xs = [.int i] ∧ Q (.int (if i < 0 then -i else i)) H) bAbs := by
  intro m H₀ H F ps z vs Q zz rs e k
  unfold bAbs at e
  split at e
  · obtain ⟨v, e1, r⟩ := reps1 rs
    simp only [Rep] at r
    subst r
    cases e
    exact ⟨_, e1, k _ H H₀ (Ext.refl zz) (by simp only [Rep])⟩
  · cases e
theorem int_ok : OpC G (fun xs H Q => (∃ i, xs = [.int i] ∧ Q (.int i) H) ∨ ∃ k, xs = [.bl k] ∧ Q (.int (if k then 1 else 0)) H) bInt := by
  intro m H₀ H F ps z vs Q zz rs e k
  unfold bInt at e
  split at e
  · obtain ⟨v, e1, r⟩ := reps1 rs
    simp only [Rep] at r
    subst r
    cases e
    exact .inl ⟨_, e1, k _ H H₀ (Ext.refl zz) (by simp only [Rep])⟩
  · obtain ⟨v, e1, r⟩ := reps1 rs
    simp only [Rep] at r
    subst r
    cases e
    exact .inr ⟨_, e1, k _ H H₀ (Ext.refl zz) (by simp only [Rep])⟩
  · cases e
def rMaxAll (K : PySem.W.Frag) : List V → Hp → VK → Prop := fun xs H Q => (∃ i j, xs = [.int i, .int j] ∧ Q (.int (if j > i then j else i)) H) ∨ rMax K xs H Q
def rMinAll (K : PySem.W.Frag) : List V → Hp → VK → Prop := fun xs H Q => (∃ i j, xs = [.int i, .int j] ∧ Q (.int (if j < i then j else i)) H) ∨ rMin K xs H Q
theorem cr_maxAll (hc : X.calm = true) : CallR X (.builtin "max") (rMaxAll X.K) := CallR.or (call_max2 hc) (cr_max hc)
theorem cr_minAll (hc : X.calm = true) : CallR X (.builtin "min") (rMinAll X.K) := CallR.or (call_min2 hc) (cr_min hc)
theorem max_ok : OpC G (rMaxAll G.K) bMax := by
  intro m H₀ H F ps z vs Q zz rs e k
  unfold bMax at e
  split at e
  · obtain ⟨v, w, e1, r, r'⟩ := reps2 rs
    simp only [Rep] at r r'
    subst r r'
    cases e
    exact .inl ⟨_, _, e1, k _ H H₀ (Ext.refl zz) (by simp only [Rep])⟩
  · obtain ⟨v, e1, r⟩ := reps1 rs
    simp only [Rep] at r
    obtain ⟨a, xs, h1, h2, h3⟩ := r
    subst h1
    split at e
    · rename_i n ns hi
      cases e
      have ex := ints_ok h3 hi
      subst ex
      refine .inr ⟨a, n :: ns, e1, SqL.of (md_H zz _ _ h2), by simp, fun j hj hu => ?_⟩
      rw [maxL_is n ns j hj hu]
      exact k _ H H₀ (Ext.refl zz) (by simp only [Rep])
    · cases e
  · cases e
theorem min_ok : OpC G (rMinAll G.K) bMin := by
  intro m H₀ H F ps z vs Q zz rs e k
  unfold bMin at e
  split at e
  · obtain ⟨v, w, e1, r, r'⟩ := reps2 rs
    simp only [Rep] at r r'
    subst r r'
    cases e
    exact .inl ⟨_, _, e1, k _ H H₀ (Ext.refl zz) (by simp only [Rep])⟩
  · obtain ⟨v, e1, r⟩ := reps1 rs
    simp only [Rep] at r
    obtain ⟨a, xs, h1, h2, h3⟩ := r
    subst h1
    split at e
    · rename_i n ns hi
      cases e
      have ex := ints_ok h3 hi
      subst ex
      refine .inr ⟨a, n :: ns, e1, SqL.of (md_H zz _ _ h2), by simp, fun j hj hu => ?_⟩
      rw [minL_is n ns j hj hu]
      exact k _ H H₀ (Ext.refl zz) (by simp only [Rep])
    · cases e
  · cases e
theorem sum_ok : OpC G (rSum G.K) bSum := by
  intro m H₀ H F ps z vs Q zz rs e k
  unfold bSum at e
  split at e
  · obtain ⟨v, e1, r⟩ := reps1 rs
    simp only [Rep] at r
    obtain ⟨a, xs, h1, h2, h3⟩ := r
    subst h1
    split at e
    · rename_i ns hi
      cases e
      have ex := ints_ok h3 hi
      subst ex
      exact ⟨a, ns, e1, SqL.of (md_H zz _ _ h2), k _ H H₀ (Ext.refl zz) (by simp only [Rep])⟩
    · cases e
  · cases e
theorem all_ok : OpC G (rAll G.K) bAll := by
  intro m H₀ H F ps z vs Q zz rs e k
  unfold bAll at e
  split at e
  · obtain ⟨v, e1, r⟩ := reps1 rs
    simp only [Rep] at r
    obtain ⟨a, xs, h1, h2, h3⟩ := r
    subst h1
    split at e
    · rename_i ns hi
      cases e
      have ex := bls_ok h3 hi
      subst ex
      exact ⟨a, ns, e1, SqL.of (md_H zz _ _ h2), k _ H H₀ (Ext.refl zz) (by simp only [Rep])⟩
    · cases e
  · cases e
theorem any_ok : OpC G (rAny G.K) bAny := by
  intro m H₀ H F ps z vs Q zz rs e k
  unfold bAny at e
  split at e
  · obtain ⟨v, e1, r⟩ := reps1 rs
    simp only [Rep] at r
    obtain ⟨a, xs, h1, h2, h3⟩ := r
    subst h1
    split at e
    · rename_i ns hi
      cases e
      have ex := bls_ok h3 hi
      subst ex
      exact ⟨a, ns, e1, SqL.of (md_H zz _ _ h2), k _ H H₀ (Ext.refl zz) (by simp only [Rep])⟩
    · cases e
  · cases e
theorem tuple_ok : OpC G (fun xs H Q => ∃ p ys, xs = [.ref p] ∧ ((SqL G.K H p ys ∧ ∀ l, H l = none → Q (.ref l) (upd H l (.tup ys))) ∨ (SqT G.K H p ys ∧ Q (.ref p) H))) bTuple := by
  intro m H₀ H F ps z vs Q zz rs e k
  unfold bTuple at e
  split at e
  · obtain ⟨v, e1, r⟩ := reps1 rs
    simp only [Rep] at r
    obtain ⟨a, xs, h1, h2, h3⟩ := r
    subst h1
    cases e
    refine ⟨a, xs, e1, .inl ⟨SqL.of (md_H zz _ _ h2), fun l hl => ?_⟩⟩
    obtain ⟨E, rr⟩ := rep_tup_new (m := m) (F := F) zz hl h3
    exact k _ _ _ E rr
  · obtain ⟨v, e1, r⟩ := reps1 rs
    have r' := r
    simp only [Rep] at r
    obtain ⟨a, xs, h1, h2, h3⟩ := r
    subst h1
    cases e
    exact ⟨a, xs, e1, .inr ⟨Same.seqT (md_H zz) h2, k _ H H₀ (Ext.refl zz) r'⟩⟩
  · cases e
theorem list_ok : OpF G (fun xs H Q => ∃ p ys, xs = [.ref p] ∧ (SqL G.K H p ys ∨ SqT G.K H p ys) ∧ ∀ l, H l = none → Q (.ref l) (upd H l (.lst ys))) bList := by
  intro H₀ H ps o vs Q zz rs e k
  unfold bList at e
  have go : ∀ {l : List PV} {xs : List V} {p : Addr}, Reps G H₀ l xs → H p = none → o = .own (l.map .sh) → Q (.ref p) (upd H p (.lst xs)) := fun {l xs p} r hp eo => by
    subst eo
    have h0 : H₀ p = none := Same.free zz hp
    refine k (.ref p) (upd H p (.lst xs)) H₀ [p] ⟨fun b u q => ?_, Same.refl _, fun b u q => ?_, fun _ _ => rfl⟩ ?_ (by simp) fun a ha => ?_
    · rw [upd_ne fun z => by rw [z, hp] at q; cases q]; exact q
    · rw [upd_ne fun z => by rw [z, h0] at q; cases q]; exact zz b u q
    · simp only [OwnR]
      exact ⟨p, xs, [], rfl, rfl, upd_same, ownRs_sh (C := ⟨G, H, H, none, H⟩) r⟩
    · rw [List.mem_singleton.mp ha]; exact ⟨hp, h0⟩
  split at e
  · obtain ⟨v, e1, r⟩ := reps1 rs
    simp only [Rep] at r
    obtain ⟨a, xs, h1, h2, h3⟩ := r
    subst h1
    cases e
    exact ⟨a, xs, e1, .inl (SqL.of (zz _ _ h2)), fun l hl => go h3 hl rfl⟩
  · obtain ⟨v, e1, r⟩ := reps1 rs
    simp only [Rep] at r
    obtain ⟨a, xs, h1, h2, h3⟩ := r
    subst h1
    cases e
    exact ⟨a, xs, e1, .inr (Same.seqT zz h2), fun l hl => go h3 hl rfl⟩
  · cases e
theorem bt_len : bootBuiltins "len" = some (.builtin "len") := by decide +kernel
theorem bt_abs : bootBuiltins "abs" = some (.builtin "abs") := by decide +kernel
theorem bt_max : bootBuiltins "max" = some (.builtin "max") := by decide +kernel
theorem bt_min : bootBuiltins "min" = some (.builtin "min") := by decide +kernel
theorem bt_sum : bootBuiltins "sum" = some (.builtin "sum") := by decide +kernel
theorem bt_all : bootBuiltins "all" = some (.builtin "all") := by decide +kernel
theorem bt_any : bootBuiltins "any" = some (.builtin "any") := by decide +kernel
theorem bt_isi : bootBuiltins "isinstance" = some (.builtin "isinstance") := by decide +kernel
theorem bt_int : bootBuiltins "int" = some (.type "int") := by decide +kernel
theorem bt_bool : bootBuiltins "bool" = some (.type "bool") := by decide +kernel
theorem bt_str : bootBuiltins "str" = some (.type "str") := by decide +kernel
theorem bt_tuple : bootBuiltins "tuple" = some (.type "tuple") := by decide +kernel
theorem bt_list : bootBuiltins "list" = some (.type "list") := by decide +kernel
theorem bt_ve : bootBuiltins "ValueError" = some (.type "ValueError") := by decide +kernel
end
section
variable {C : Fc} {W : WX} {m : Bool} {X : Cx} {a b c e : Expr} {es : List Expr} {pos p p2 : Pos} {x : Str} {fas : Env → R (List PV)} {fa : Env → R PV}
theorem qLen (hK : X.K = C.G.K) (hm : X.mg "len" = none) (ha : QA C W m X [e] fas) (hgl : Gl X "len" := by rfl) (he : starEach (e :: []) X.env = (false, eval e X.env) :: starEach [] X.env := by rfl) : QE C W m X (.Call (.Name "len" p) [e] [] pos) (eB bLen fas) := qB cr_lenAll calm_len (by rw [hK]; exact len_ok) hm bt_len ha hgl (by decide) (by decide) he rfl
theorem qAbs (hm : X.mg "abs" = none) (ha : QA C W m X [e] fas) (hgl : Gl X "abs" := by rfl) (he : starEach (e :: []) X.env = (false, eval e X.env) :: starEach [] X.env := by rfl) : QE C W m X (.Call (.Name "abs" p) [e] [] pos) (eB bAbs fas) := qB call_abs calm_abs abs_ok hm bt_abs ha hgl (by decide) (by decide) he rfl
theorem qIntB (hm : X.mg "int" = none) (ha : QA C W m X [e] fas) (hgl : Gl X "int" := by rfl) (he : starEach (e :: []) X.env = (false, eval e X.env) :: starEach [] X.env := by rfl) : QE C W m X (.Call (.Name "int" p) [e] [] pos) (eB bInt fas) := qBty call_int1 calm_int int_ok hm bt_int ha hgl (by decide) (by decide) he rfl
theorem qMax (hK : X.K = C.G.K) (hc : X.calm = true) (hm : X.mg "max" = none) (ha : QA C W m X (e :: es) fas) (hgl : Gl X "max" := by rfl) (he : starEach (e :: es) X.env = (false, eval e X.env) :: starEach es X.env := by rfl) (hpl : (backTo pos (starEach es X.env)).any (·.1) = false := by rfl) : QE C W m X (.Call (.Name "max" p) (e :: es) [] pos) (eB bMax fas) :=
  qB (cr_maxAll hc) calm_max (by rw [hK]; exact max_ok) hm bt_max ha hgl (by decide) (by decide) he hpl
theorem qMin (hK : X.K = C.G.K) (hc : X.calm = true) (hm : X.mg "min" = none) (ha : QA C W m X (e :: es) fas) (hgl : Gl X "min" := by rfl) (he : starEach (e :: es) X.env = (false, eval e X.env) :: starEach es X.env := by rfl) (hpl : (backTo pos (starEach es X.env)).any (·.1) = false := by rfl) : QE C W m X (.Call (.Name "min" p) (e :: es) [] pos) (eB bMin fas) :=
  qB (cr_minAll hc) calm_min (by rw [hK]; exact min_ok) hm bt_min ha hgl (by decide) (by decide) he hpl
theorem qSum (hK : X.K = C.G.K) (hc : X.calm = true) (hm : X.mg "sum" = none) (ha : QA C W m X [e] fas) (hgl : Gl X "sum" := by rfl) (he : starEach (e :: []) X.env = (false, eval e X.env) :: starEach [] X.env := by rfl) : QE C W m X (.Call (.Name "sum" p) [e] [] pos) (eB bSum fas) := qB (cr_sum hc) calm_sum (by rw [hK]; exact sum_ok) hm bt_sum ha hgl (by decide) (by decide) he rfl
theorem qAll (hK : X.K = C.G.K) (hc : X.calm = true) (hm : X.mg "all" = none) (ha : QA C W m X [e] fas) (hgl : Gl X "all" := by rfl) (he : starEach (e :: []) X.env = (false, eval e X.env) :: starEach [] X.env := by rfl) : QE C W m X (.Call (.Name "all" p) [e] [] pos) (eB bAll fas) := qB (cr_all hc) calm_all (by rw [hK]; exact all_ok) hm bt_all ha hgl (by decide) (by decide) he rfl
theorem qAny (hK : X.K = C.G.K) (hc : X.calm = true) (hm : X.mg "any" = none) (ha : QA C W m X [e] fas) (hgl : Gl X "any" := by rfl) (he : starEach (e :: []) X.env = (false, eval e X.env) :: starEach [] X.env := by rfl) : QE C W m X (.Call (.Name "any" p) [e] [] pos) (eB bAny fas) := qB (cr_any hc) calm_any (by rw [hK]; exact any_ok) hm bt_any ha hgl (by decide) (by decide) he rfl
theorem qTuple (hK : X.K = C.G.K) (hm : X.mg "tuple" = none) (ha : QA C W m X [e] fas) (hgl : Gl X "tuple" := by rfl) (he : starEach (e :: []) X.env = (false, eval e X.env) :: starEach [] X.env := by rfl) : QE C W m X (.Call (.Name "tuple" p) [e] [] pos) (eB bTuple fas) := qBty call_tuple_of calm_tuple (by rw [hK]; exact tuple_ok) hm bt_tuple ha hgl (by decide) (by decide) he rfl
theorem qList (hK : X.K = C.G.K) (hm : X.mg "list" = none) (ha : QA C W true X [e] fas) (hgl : Gl X "list" := by rfl) (he : starEach (e :: []) X.env = (false, eval e X.env) :: starEach [] X.env := by rfl) : QF C W X (.Call (.Name "list" p) [e] [] pos) (fB bList fas) := qFBty call_list_of calm_list (by rw [hK]; exact list_ok) hm bt_list ha hgl (by decide) (by decide) he rfl
/-! ### slices -/
def tOp3 (C : Fc) (W : WX) (m : Bool) (f : Env → R (Option Int)) : L2.TO := fun σ H Q => ∃ H₀ F ρ, SR C H₀ F ρ σ H ∧ Goes C.G W (f ρ) σ H H₀ fun i => ∀ H' H₀', Ext H₀ H H₀' H' → Q i H'
abbrev QO (C : Fc) (W : WX) (m : Bool) (X : Cx) (e : Option Expr) (f : Env → R (Option Int)) : Prop := PO X e (tOp3 C W m f)
def oNone : Env → R (Option Int) := fun _ => .ok none
def oSome (f : Env → R PV) : Env → R (Option Int) := fun ρ => (f ρ).bind fun p => match p with
  | .int i => .ok (some i)
  | _ => .no
theorem PO.imp {X : Cx} {e : Option Expr} {t t' : L2.TO} (h : PO X e t) (k : ∀ σ H Q, t' σ H Q → t σ H Q) : PO X e t' := ⟨fun pins s σ H Q I q => h.run pins s σ H Q I (k _ _ _ q)⟩
theorem qoNone : QO C W m X none oNone := PO.imp po_none fun σ H Q ⟨H₀, F, ρ, S, h⟩ => h H H₀ (Ext.refl S.z)
theorem qoSome (ha : QE C W m X e fa) : QO C W m X (some e) (oSome fa) := by
  refine PO.imp (po_some ha) fun σ H Q h => ?_
  show tE C W m fa σ H fun x H1 => ∃ i, x = .int i ∧ Q (some i) H1
  rw [tE_iff]
  obtain ⟨H₀, F, ρ, S, h⟩ := h
  unfold oSome at h
  rw [Goes.bind] at h
  refine ⟨H₀, F, ρ, S, h.imp fun p _ h v H1 H₁ E1 r1 => ?_⟩
  cases p with
  | int i =>
    simp only [Rep] at r1
    exact ⟨i, r1, h H1 H₁ E1⟩
  | _ => exact (show False from h).elim
def slR (p : PV) (lo hi : Option Int) : R PV := match p with
  | .str z => if z.length ≤ sizeLine then .ok (.str (cutS z lo hi)) else .no
  | .tup l => if HT.sIx l.length 0 lo = 0 ∧ HT.sIx l.length l.length hi = l.length then .no else .ok (.tup (cutVP l lo hi))
  | .lst l => .ok (.lst (cutVP l lo hi))
  | _ => .no
where cutVP (xs : List PV) (lo hi : Option Int) : List PV := (xs.drop (HT.sIx xs.length 0 lo)).take (HT.sIx xs.length xs.length hi - HT.sIx xs.length 0 lo)
def eSl (f : Env → R PV) (l h : Env → R (Option Int)) : Env → R PV := fun ρ => (f ρ).bind fun p => (l ρ).bind fun lo => (h ρ).bind fun hi => slR p lo hi
def rSlAll (K : PySem.W.Frag) : V → Option Int → Option Int → Hp → VK → Prop := fun x lo hi H Q => rSlL K x lo hi H Q ∨ rSlT K x lo hi H Q ∨ rSlS x lo hi H Q
theorem sl_all {X : Cx} : L2.SlR X (rSlAll X.K) := by
  intro pins s σ H x v vl vu lo hi sl Q I rx hs pl pu h
  rcases h with h | h | h
  · exact sl_list pins s σ H x v vl vu lo hi sl Q I rx hs pl pu h
  · exact sl_tup pins s σ H x v vl vu lo hi sl Q I rx hs pl pu h
  · exact sl_str pins s σ H x v vl vu lo hi sl Q I rx hs pl pu h
theorem cut_ok {G : Gc} {H : Hp} {l : List PV} {xs : List V} (r : Reps G H l xs) (lo hi : Option Int) : Reps G H (slR.cutVP l lo hi) (cutV xs lo hi) := by
  unfold slR.cutVP cutV
  rw [r.length]
  exact (r.drop _).take _
theorem slR_ok {G : Gc} {H₀ H : Hp} {F : List Addr} {p z : PV} {v : V} {lo hi : Option Int} {Q : VK} (zz : Same H₀ H) (r : Rep G (md m H₀ H F) p v) (e : slR p lo hi = .ok z) (k : ∀ v H' H₀', Ext H₀ H H₀' H' → Rep G (md m H₀' H' F) z v → Q v H') :
    rSlAll G.K v lo hi H Q := by
  unfold slR at e
  split at e
  · simp only [Rep] at r
    split at e
    · rename_i hs
      cases e
      exact .inr (.inr ⟨_, r, hs, k _ H H₀ (Ext.refl zz) (by simp only [Rep])⟩)
    · cases e
  · simp only [Rep] at r
    obtain ⟨a, xs, h1, h2, h3⟩ := r
    split at e
    · cases e
    · rename_i hs
      cases e
      refine .inr (.inl ⟨a, xs, h1, Same.seqT (md_H zz) h2, by rw [← h3.length]; exact hs, fun q hq => ?_⟩)
      obtain ⟨E, rr⟩ := rep_tup_new (m := m) (F := F) zz hq (cut_ok h3 lo hi)
      exact k _ _ _ E rr
  · simp only [Rep] at r
    obtain ⟨a, xs, h1, h2, h3⟩ := r
    cases e
    refine .inl ⟨a, xs, h1, SqL.of (md_H zz _ _ h2), fun q hq => ?_⟩
    obtain ⟨E, rr⟩ := rep_lst_new (m := m) (F := F) zz hq (cut_ok h3 lo hi)
    exact k _ _ _ E rr
  · cases e
theorem qSl {lo hi : Option Expr} {fl fh : Env → R (Option Int)} (hK : X.K = C.G.K) (ha : QE C W m X a fa) (hl : QO C W m X lo fl) (hh : QO C W m X hi fh) : QE C W m X (.Subscript a (.Slice lo hi none p2) pos) (eSl fa fl fh) := by
  refine PE.imp (pe_slice sl_all ha hl hh) fun σ H Q h => ?_
  show tE C W m fa σ H fun x H1 => tOp3 C W m fl σ H1 fun l H2 => tOp3 C W m fh σ H2 fun u H3 => rSlAll X.K x l u H3 Q
  rw [tE_iff] at h ⊢
  obtain ⟨H₀, F, ρ, S, h⟩ := h
  unfold eSl at h
  rw [Goes.bind] at h
  refine ⟨H₀, F, ρ, S, h.imp fun p _ h v H1 H₁ E1 r1 => ?_⟩
  rw [Goes.bind] at h
  refine ⟨H₁, F, ρ, S.ext E1, (h.later E1).imp fun lo _ h H2 H₂ E2 => ?_⟩
  rw [Goes.bind] at h
  refine ⟨H₂, F, ρ, (S.ext E1).ext E2, (h.later (E1.trans E2)).imp fun hi _ h H3 H₃ E3 => ?_⟩
  have E := (E1.trans E2).trans E3
  cases q : slR p lo hi with
  | ok z =>
    rw [q] at h
    rw [hK]
    exact slR_ok (m := m) (F := F) E3.z (Rep.mono ((md_ext E2).trans (md_ext E3)) r1) q fun w H' H₀' E4 r4 => h w H' H₀' (E.trans E4) r4
  | er x =>
    exfalso
    revert q
    unfold slR
    split <;> first | (intro z; cases z; done) | (split <;> (intro z; cases z))
  | no =>
    rw [q] at h
    exact h.elim
/-! ### fields -/
def eFld (f : Str) (ok : Nat → Bool) (fa : Env → R PV) : Env → R PV := fun ρ => (fa ρ).bind fun p => match p with
  | .ins c fs => if ok c then R.of (fs.lookup f) else .no
  | _ => .no
theorem qFld {f : Str} {ok : Nat → Bool} (hK : X.K = C.G.K) (T : ∀ c, ok c = true → Cls C.G.K (C.G.CA c) ∧ NoAttr C.G.K (C.G.CA c) f) (ha : QE C W m X a fa) (hb : attributeBase a f X.env (eval a X.env) = eval a X.env := by rfl) :
    QE C W m X (.Attribute a f pos) (eFld f ok fa) := by
  refine PE.imp (pe_fld ha hb) fun σ H Q h => ?_
  show tE C W m fa σ H fun x H1 => ∃ a C dx fs v, x = .ref a ∧ H1 a = some (.ins C dx fs) ∧ Cls X.K C ∧ NoAttr X.K C f ∧ fs.lookup f = some v ∧ Q v H1
  rw [tE_iff] at h ⊢
  obtain ⟨H₀, F, ρ, S, h⟩ := h
  unfold eFld at h
  rw [Goes.bind] at h
  refine ⟨H₀, F, ρ, S, h.imp fun p _ h v H1 H₁ E1 r1 => ?_⟩
  cases p with
  | ins c fs =>
    simp only [Rep] at r1
    obtain ⟨a, dx, vs, h1, h2, h3⟩ := r1
    by_cases hc : ok c = true
    · simp only [hc, if_true] at h
      cases q : fs.lookup f with
      | none => rw [q] at h; exact h.elim
      | some w =>
        rw [q] at h
        obtain ⟨u, e1, e2⟩ := h3.get q
        obtain ⟨t1, t2⟩ := T c hc
        rw [hK]
        exact ⟨a, _, dx, vs, u, h1, md_H E1.z _ _ h2, t1, t2, e1, h u H1 H₁ E1 e2⟩
    · simp only [hc, if_false] at h
      exact h.elim
  | _ => exact (show False from h).elim
/-! ### isinstance -/
def isiP (tb : String → Option Bool) (ib : Nat → Option Bool) : PV → R PV := fun p => R.of ((match p with
  | .non => tb "NoneType"
  | .bl _ => tb "bool"
  | .int _ => tb "int"
  | .str _ => tb "str"
  | .lst _ => tb "list"
  | .tup _ => tb "tuple"
  | .ins c _ => ib c
  | .scr _ => none).map PV.bl)
/-- what the own class at A must have for its instances' isinstance -/
structure IsC (K : PySem.W.Frag) (A : Addr) : Prop where
  cl : Cls K A
  ha : PySem.W.findIn K (.ref A) "__class__" = some (some (.builtin "object.__class__"))
  hn : PySem.W.specialIn K (.builtin "object.__class__") "__get__" = some (some (.builtin "getset_descriptor.__get__"))
  ht : PySem.W.takesIn K (.builtin "object.__class__") = some true
  hm : PySem.W.mroIn K A (.type "object") = some true
def eIsi (tb : String → Option Bool) (ib : Nat → Option Bool) (fa : Env → R PV) : Env → R PV := eUn (isiP tb ib) fa
theorem tup_ty {K : PySem.W.Frag} {H : Hp} {t : Addr} {xs : List V} (h : SqT K H t xs) : TyX K H (.ref t) (.type "tuple") := by
  rcases h with (h | ⟨o, h⟩) | ⟨o, its, n, h, hc, _⟩
  · exact .base (.tup h)
  · exact .fTuple h
  · exact .kTuple h hc
theorem isi_go {tb : String → Option Bool} {ib : Nat → Option Bool} {cv : V} {u : Value} (hcl : ClsV cv u) (ht : ∀ t b, tb t = some b → PySem.W.kitOne C.G.K (.type t) u = some b) (hi : ∀ c b, ib c = some b → IsC C.G.K (C.G.CA c) ∧ PySem.W.kitOne C.G.K (.ref (C.G.CA c)) u = some b)
    {σ : L2.St} {H : Hp} {Q : VK} (h : tE C W m (eIsi tb ib fa) σ H Q) : tE C W m fa σ H fun x H1 => rIsi C.G.K [x, cv] H1 Q := by
  rw [tE_iff] at h ⊢
  obtain ⟨H₀, F, ρ, S, h⟩ := h
  unfold eIsi eUn at h
  rw [Goes.bind] at h
  refine ⟨H₀, F, ρ, S, h.imp fun p _ h v H1 H₁ E1 r1 => ?_⟩
  have r2 := rep_up E1.z r1
  have fin : ∀ {b : Bool} {t : Value}, TyX C.G.K H1 v t → PySem.W.kitOne C.G.K t u = some b → Goes C.G W (R.of ((some b).map PV.bl)) σ H H₀ (fun p => ∀ v H' H₀', Ext H₀ H H₀' H' → Rep C.G (md m H₀' H' F) p v → Q v H') → rIsi C.G.K [v, cv] H1 Q :=
    fun {b t} ty ki g => ⟨v, cv, t, u, b, rfl, hcl, ty, ki, g (.bl b) H1 H₁ E1 (by simp only [Rep])⟩
  unfold isiP at h
  cases p with
  | non => simp only [Rep] at r2; subst r2; cases q : tb "NoneType" with
    | none => simp only [q, Option.map_none] at h; exact h.elim
    | some b => simp only [q] at h; exact fin (.base .non) (ht _ _ q) h
  | bl b => simp only [Rep] at r2; subst r2; cases q : tb "bool" with
    | none => simp only [q, Option.map_none] at h; exact h.elim
    | some b => simp only [q] at h; exact fin (.base (.bl _)) (ht _ _ q) h
  | int b => simp only [Rep] at r2; subst r2; cases q : tb "int" with
    | none => simp only [q, Option.map_none] at h; exact h.elim
    | some b => simp only [q] at h; exact fin (.base (.int _)) (ht _ _ q) h
  | str b => simp only [Rep] at r2; subst r2; cases q : tb "str" with
    | none => simp only [q, Option.map_none] at h; exact h.elim
    | some b => simp only [q] at h; exact fin (.base (.str _)) (ht _ _ q) h
  | lst l => simp only [Rep] at r2; obtain ⟨a, xs, h1, h2, h3⟩ := r2; subst h1; cases q : tb "list" with
    | none => simp only [q, Option.map_none] at h; exact h.elim
    | some b => simp only [q] at h; exact fin (.base (.lst h2)) (ht _ _ q) h
  | scr l => exact h.elim
  | tup l => simp only [Rep] at r2; obtain ⟨a, xs, h1, h2, h3⟩ := r2; subst h1; cases q : tb "tuple" with
    | none => simp only [q, Option.map_none] at h; exact h.elim
    | some b => simp only [q] at h; exact fin (tup_ty h2) (ht _ _ q) h
  | ins c fs => simp only [Rep] at r2; obtain ⟨a, dx, xs, h1, h2, h3⟩ := r2; subst h1; cases q : ib c with
    | none => simp only [q, Option.map_none] at h; exact h.elim
    | some b =>
      simp only [q] at h
      obtain ⟨I, ki⟩ := hi c b q
      exact fin (.base (.ins h2 I.cl I.ha I.hn I.ht I.hm)) ki h
/-- isinstance(a, T), T a built-in class -/
theorem qIsiT {T : Str} {t : String} {tb : String → Option Bool} {ib : Nat → Option Bool} (hK : X.K = C.G.K) (hm : X.mg "isinstance" = none) (hT : X.mg T = none) (hv : bootBuiltins T = some (.type t)) (ht : ∀ s b, tb s = some b → kitB s t = some b)
    (hi : ∀ c b, ib c = some b → IsC C.G.K (C.G.CA c) ∧ PySem.W.kitOne C.G.K (.ref (C.G.CA c)) (.type t) = some b) (ha : QE C W m X a fa) (hgl : Gl X "isinstance" := by rfl) (hgT : Gl X T := by rfl) (hn : T ≠ "__name__" := by decide) (hd : (T == ("__debug__" : Str)) = false := by decide)
    (h1 : starEach (a :: [.Name T p2]) X.env = (false, eval a X.env) :: starEach [.Name T p2] X.env := by rfl) (h2 : starEach (.Name T p2 :: []) X.env = (false, eval (.Name T p2) X.env) :: starEach [] X.env := by rfl) (h3 : (backTo pos (starEach [.Name T p2] X.env)).any (·.1) = false := by rfl) :
    QE C W m X (.Call (.Name "isinstance" p) [a, .Name T p2] [] pos) (eIsi tb ib fa) := by
  refine PE.imp (pe_callB call_isi hgl hm bt_isi (pa_cons ha (pa_cons (pe_bltn (v := .ty t) hgT hT hv rfl hn hd) pa_nil h2) h1) (by decide) (by decide) h1 h3) fun σ H Q h => ?_
  rw [hK]
  exact isi_go (C := C) (.ty t) (fun s b q => kit_ty (ht s b q)) hi h
/-- .. T an own class -/
theorem qIsiC {T : Str} {A : Addr} {tb : String → Option Bool} {ib : Nat → Option Bool} (hK : X.K = C.G.K) (hm : X.mg "isinstance" = none) (hT : X.mg T = some (.ref A)) (ht : ∀ s b, tb s = some b → PySem.W.kitOne C.G.K (.type s) (.ref A) = some b)
    (hi : ∀ c b, ib c = some b → IsC C.G.K (C.G.CA c) ∧ PySem.W.kitOne C.G.K (.ref (C.G.CA c)) (.ref A) = some b) (ha : QE C W m X a fa) (hgl : Gl X "isinstance" := by rfl) (hgT : Gl X T := by rfl) (hd : (T == ("__debug__" : Str)) = false := by decide)
    (h1 : starEach (a :: [.Name T p2]) X.env = (false, eval a X.env) :: starEach [.Name T p2] X.env := by rfl) (h2 : starEach (.Name T p2 :: []) X.env = (false, eval (.Name T p2) X.env) :: starEach [] X.env := by rfl) (h3 : (backTo pos (starEach [.Name T p2] X.env)).any (·.1) = false := by rfl) :
    QE C W m X (.Call (.Name "isinstance" p) [a, .Name T p2] [] pos) (eIsi tb ib fa) := by
  refine PE.imp (pe_callB call_isi hgl hm bt_isi (pa_cons ha (pa_cons (pe_glob (v := .ref A) hgT hT rfl hd) pa_nil h2) h1) (by decide) (by decide) h1 h3) fun σ H Q h => ?_
  rw [hK]
  exact isi_go (C := C) (.own A) ht hi h
end
end L3

end
section
/-! L3. 5: what is walked, targets, comprehensions -/
namespace L3
open PySem PySem.Spec PyProof.Rows L2
/-! ### what is walked -/
structure ItP (Γ : Gc) (J : It) (Hv : Hp) (ps : List PV) : Prop where
  stop : ∀ i H, Same Hv H → ps.length ≤ i → J.stop i H
  go : ∀ i H p, Same Hv H → ps[i]? = some p → J.go i H ∧ ∀ x H', J.yld i H x H' → H' = H ∧ Rep Γ Hv p x
def tI (C : Fc) (W : WX) (m : Bool) (f : Env → R (List PV)) : TI := fun σ H Rr => ∃ H₀ F ρ, SR C H₀ F ρ σ H ∧ Goes C.G W (f ρ) σ H H₀ fun ps => ∀ J H' H₀', Ext H₀ H H₀' H' → ItP C.G J (md m H₀' H' F) ps → Rr J H'
abbrev QI (C : Fc) (W : WX) (m : Bool) (X : Cx) (tg e : Expr) (f : Env → R (List PV)) : Prop := PI X tg e (tI C W m f)
theorem PI.imp {X : Cx} {tg e : Expr} {t t' : TI} (h : PI X tg e t) (k : ∀ σ H Q, t' σ H Q → t σ H Q) : PI X tg e t' := ⟨fun pins s σ H Q I q => h.run pins s σ H Q I (k _ _ _ q)⟩
theorem PI.or {X : Cx} {tg e : Expr} {t t' : TI} (h : PI X tg e t) (h' : PI X tg e t') : PI X tg e (fun σ H Q => t σ H Q ∨ t' σ H Q) := ⟨fun pins s σ H Q I q => q.elim (h.run pins s σ H Q I) (h'.run pins s σ H Q I)⟩
def seqR : PV → R (List PV)
  | .lst l => .ok l
  | .scr l => .ok l
  | .tup l => .ok l
  | .str z => .ok (z.cps.toList.map fun c => .str ⟨#[c]⟩)
  | _ => .no
def iSeq (f : Env → R PV) : Env → R (List PV) := fun ρ => (f ρ).bind seqR
section
variable {C : Fc} {W : WX} {m : Bool} {X : Cx} {tg a b e : Expr} {es : List Expr} {pos p : Pos} {fa fb : Env → R PV} {fas : Env → R (List PV)} {σ : L2.St} {H H₀ : Hp} {F : List Addr} {ρ : Env}
theorem rep_of_get {G : Gc} {Hv : Hp} {l : List PV} {xs : List V} {i : Nat} {x : V} (r : Reps G Hv l xs) {p : PV} (e : l[i]? = some p) (ex : xs[i]? = some x) : Rep G Hv p x := by
  obtain ⟨v, e1, e2⟩ := r.get e
  rw [ex] at e1
  cases e1
  exact e2
theorem itp_list {G : Gc} {Hv : Hp} {a : Addr} {l : List PV} {xs : List V} (h : SqL G.K Hv a xs) (r : Reps G Hv l xs) : ItP G (Itl G.K a) Hv l := by
  refine ⟨fun i H s hi => ⟨xs, s.seq h, by rw [← r.length]; exact hi⟩, fun i H p s e => ?_⟩
  obtain ⟨v, e1, e2⟩ := r.get e
  exact ⟨⟨xs, v, s.seq h, e1⟩, fun x H' y => ⟨y.1, rep_of_get r e (y.2 xs (s.seq h))⟩⟩
theorem itp_tup {G : Gc} {Hv : Hp} {a : Addr} {l : List PV} {xs : List V} (h : SqT G.K Hv a xs) (r : Reps G Hv l xs) : ItP G (Itt G.K a) Hv l := by
  refine ⟨fun i H s hi => ⟨xs, Same.seqT s h, by rw [← r.length]; exact hi⟩, fun i H p s e => ?_⟩
  obtain ⟨v, e1, e2⟩ := r.get e
  exact ⟨⟨xs, v, Same.seqT s h, e1⟩, fun x H' y => ⟨y.1, rep_of_get r e (y.2 xs (Same.seqT s h))⟩⟩
theorem itp_str {G : Gc} {Hv : Hp} {z : Str} : ItP G (Its z) Hv (z.cps.toList.map fun c => .str ⟨#[c]⟩) := by
  refine ⟨fun i H s hi => by simpa [Its] using hi, fun i H p s e => ?_⟩
  rw [List.getElem?_map] at e
  cases q : z.cps.toList[i]? with
  | none => rw [q] at e; cases e
  | some c =>
    rw [q] at e
    cases e
    have q' : z.cps[i]? = some c := by simpa using q
    refine ⟨(Array.getElem?_eq_some_iff.mp q').1, fun x H' y => ⟨y.1, ?_⟩⟩
    obtain ⟨c', h1, h2⟩ := y.2
    rw [q'] at h1
    cases h1
    simp only [Rep]
    exact h2
theorem qiSeq (hK : X.K = C.G.K) (ha : QE C W m X a fa) : QI C W m X tg a (iSeq fa) := by
  refine PI.imp (PI.or (pi_list ha) (PI.or (pi_tup ha) (pi_str ha))) fun σ H Q h => ?_
  obtain ⟨H₀, F, ρ, S, h⟩ := h
  unfold iSeq at h
  rw [Goes.bind] at h
  have key : ∀ (R1 : VK), (∀ p, fa ρ = .ok p → Goes C.G W (seqR p) σ H H₀ (fun ps => ∀ J H' H₀', Ext H₀ H H₀' H' → ItP C.G J (md m H₀' H' F) ps → Q J H') → ∀ v H1 H₁, Ext H₀ H H₁ H1 → Rep C.G (md m H₁ H1 F) p v → R1 v H1) → tE C W m fa σ H R1 := by
    intro R1 k
    rw [tE_iff]
    exact ⟨H₀, F, ρ, S, h.imp fun p e g v H1 H₁ E1 r1 => k p e g v H1 H₁ E1 r1⟩
  cases q : fa ρ with
  | er x =>
    refine .inl (key _ fun p e => ?_)
    rw [q] at e
    cases e
  | no =>
    rw [q] at h
    exact h.elim
  | ok p =>
    cases p with
    | lst l =>
      refine .inl (key _ fun p e g v H1 H₁ E1 r1 => ?_)
      rw [q] at e
      cases e
      simp only [Rep] at r1
      obtain ⟨a', xs, h1, h2, h3⟩ := r1
      subst h1
      rw [hK]
      exact ⟨a', rfl, ⟨xs, SqL.of (md_H E1.z _ _ h2)⟩, g _ H1 H₁ E1 (itp_list (SqL.of h2) h3)⟩
    | scr l =>
      refine .inl (key _ fun p e g v H1 H₁ E1 r1 => ?_)
      rw [q] at e
      cases e
      simp only [Rep] at r1
      obtain ⟨a', xs, h1, h2, h3⟩ := r1
      subst h1
      rw [hK]
      exact ⟨a', rfl, ⟨xs, (md_H E1.z).seq h2⟩, g _ H1 H₁ E1 (itp_list h2 h3)⟩
    | tup l =>
      refine .inr (.inl (key _ fun p e g v H1 H₁ E1 r1 => ?_))
      rw [q] at e
      cases e
      simp only [Rep] at r1
      obtain ⟨a', xs, h1, h2, h3⟩ := r1
      subst h1
      rw [hK]
      exact ⟨a', rfl, ⟨xs, Same.seqT (md_H E1.z) h2⟩, g _ H1 H₁ E1 (itp_tup h2 h3)⟩
    | str z =>
      refine .inr (.inr (key _ fun p e g v H1 H₁ E1 r1 => ?_))
      rw [q] at e
      cases e
      simp only [Rep] at r1
      exact ⟨z, r1, g _ H1 H₁ E1 itp_str⟩
    | non => rw [q] at h; exact h.elim
    | bl b => rw [q] at h; exact h.elim
    | int b => rw [q] at h; exact h.elim
    | ins c fs => rw [q] at h; exact h.elim
/-- numbers in a row -/
def rngP (lo : Int) (n : Nat) : List PV := (List.range n).map fun (i : Nat) => .int (lo + (i : Int))
theorem itp_rng {G : Gc} {Hv : Hp} {lo : Int} {n : Nat} : ItP G (Itr lo n) Hv (rngP lo n) := by
  refine ⟨fun i H s hi => ?_, fun i H p s e => ?_⟩
  · have hl : (rngP lo n).length = n := by simp [rngP]
    show n ≤ i
    omega
  unfold rngP at e
  rw [List.getElem?_map] at e
  cases q : (List.range n)[i]? with
  | none => rw [q] at e; cases e
  | some j =>
    rw [q] at e
    cases e
    obtain ⟨hl, hj⟩ := List.getElem?_eq_some_iff.mp q
    rw [List.length_range] at hl
    rw [List.getElem_range] at hj
    subst hj
    exact ⟨hl, fun x H' y => ⟨y.1, by simp only [Rep]; exact y.2⟩⟩
def rng1R : List PV → R (List PV)
  | [.int j] => if -(2 ^ 62) ≤ j ∧ j < 2 ^ 62 then .ok (rngP 0 j.toNat) else .no
  | _ => .no
def rng2R : List PV → R (List PV)
  | [.int i, .int j] => if -(2 ^ 62) ≤ i ∧ i < 2 ^ 62 ∧ -(2 ^ 62) ≤ j ∧ j < 2 ^ 62 then .ok (rngP i (j - i).toNat) else .no
  | _ => .no
def iRg (g : List PV → R (List PV)) (f : Env → R (List PV)) : Env → R (List PV) := fun ρ => (f ρ).bind g
theorem rng_go {g : List PV → R (List PV)} {r : List V → Hp → (It → Hp → Prop) → Prop} (ho : ∀ (m : Bool) (H₀ H : Hp) (F : List Addr) (ps qs : List PV) (vs : List V) (Q : It → Hp → Prop), Reps C.G (md m H₀ H F) ps vs → g ps = .ok qs → (∀ J, ItP C.G J (md m H₀ H F) qs → Q J H) → r vs H Q)
    (hg : CalmC g) {Q : It → Hp → Prop} (h : tI C W m (iRg g fas) σ H Q) : tAs C W m fas σ H fun vs H1 => r vs H1 Q := by
  obtain ⟨H₀, F, ρ, S, h⟩ := h
  unfold iRg at h
  rw [Goes.bind] at h
  rw [tA_iff]
  refine ⟨H₀, F, ρ, S, h.imp fun ps _ h vs H1 H₁ E1 r1 => ?_⟩
  cases q : g ps with
  | ok qs =>
    rw [q] at h
    exact ho m H₁ H1 F ps qs vs Q r1 q fun J ip => h J H1 H₁ E1 ip
  | er x => exact absurd q (hg ps x)
  | no => rw [q] at h; exact h.elim
theorem qiRng1 (hm : X.mg "range" = none) (ha : QA C W m X [a] fas) (hg : Gl X "range" := by rfl) (hs : starEach [a] X.env = [(false, eval a X.env)] := by rfl) : QI C W m X tg (.Call (.Name "range" p) [a] [] pos) (iRg rng1R fas) := by
  refine PI.imp (pi_range1 hg hm ha hs) fun σ H Q h => ?_
  refine rng_go (r := fun vs H1 Q => ∃ j : Int, vs = [.int j] ∧ -(2 ^ 62) ≤ j ∧ j < 2 ^ 62 ∧ Q (Itr 0 j.toNat) H1) (fun m H₀ H F ps qs vs Q r1 e k => ?_) (fun ps x => by unfold rng1R; split <;> first | exact R.not_er | (intro z; cases z)) h
  unfold rng1R at e
  split at e
  · split at e
    · rename_i hh
      cases e
      obtain ⟨v, e1, r⟩ := reps1 r1
      simp only [Rep] at r
      subst r
      exact ⟨_, e1, hh.1, hh.2, k _ itp_rng⟩
    · cases e
  · cases e
theorem qiRng2 (hm : X.mg "range" = none) (ha : QA C W m X [a, b] fas) (hg : Gl X "range" := by rfl) (hs : starEach [a, b] X.env = [(false, eval a X.env), (false, eval b X.env)] := by rfl) (hs2 : starEach [b] X.env = [(false, eval b X.env)] := by rfl) :
    QI C W m X tg (.Call (.Name "range" p) [a, b] [] pos) (iRg rng2R fas) := by
  refine PI.imp (pi_range2 hg hm ha hs hs2) fun σ H Q h => ?_
  refine rng_go (r := fun vs H1 Q => ∃ i j : Int, vs = [.int i, .int j] ∧ (-(2 ^ 62) ≤ i ∧ i < 2 ^ 62 ∧ -(2 ^ 62) ≤ j ∧ j < 2 ^ 62) ∧ Q (Itr i (j - i).toNat) H1) (fun m H₀ H F ps qs vs Q r1 e k => ?_) (fun ps x => by unfold rng2R; split <;> first | exact R.not_er | (intro z; cases z)) h
  unfold rng2R at e
  split at e
  · split at e
    · rename_i hh
      cases e
      obtain ⟨v, w, e1, r, r'⟩ := reps2 r1
      simp only [Rep] at r r'
      subst r r'
      exact ⟨_, _, e1, hh, k _ itp_rng⟩
    · cases e
  · cases e
/-! ### targets -/
inductive Tg where
  | nm (i : Nat) | tp (is : List Nat)
def Tg.slots : Tg → List Nat
  | .nm i => [i]
  | .tp is => is
def setMany : List Nat → List PV → Env → Env
  | i :: is, p :: ps, ρ => setMany is ps (ρ.set i (some (.sh p)))
  | _, _, ρ => ρ
def tgS : Tg → PV → Env → R Env
  | .nm i, p, ρ => .ok (ρ.set i (some (.sh p)))
  | .tp is, .lst l, ρ => if l.length = is.length then .ok (setMany is l ρ) else .no
  | .tp is, .tup l, ρ => if l.length = is.length then .ok (setMany is l ρ) else .no
  | .tp _, _, _ => .no
theorem tgS_calm {T : Tg} {p : PV} {ρ : Env} {x : PX} : tgS T p ρ ≠ .er x := by
  unfold tgS
  split <;> first | (intro z; cases z; done) | exact R.not_er
/-- the first slot may be kept -/
def fxOk (C : Fc) (i : Nat) : Prop := ∀ j v, C.fx = some (j, v) → j ≠ i
theorem SR.put (S : SR C H₀ F ρ σ H) {i : Nat} {o : OV} {v : V} {Fv : List Addr} (r : OwnR C.G H₀ H o v Fv) (nd : Fv.Nodup) (fr : ∀ a ∈ Fv, C.He a = none ∧ H₀ a = none ∧ a ∉ F) (hx : fxOk C i) :
    ∃ F', SR C H₀ F' (ρ.set i (some o)) (σ.set i (some v)) H := by
  obtain ⟨F', e1, e2, e3⟩ := EnvR.put i S.env r S.nd nd fun a ha => (fr a ha).2.2
  refine ⟨F', S.e, S.z, S.n, S.hz, e1, e2, fun a ha => ?_, fun j w hw => ?_, S.hx⟩
  · rcases e3 a ha with z | z
    · exact S.fr a z
    · exact ⟨(fr a z).1, (fr a z).2.1⟩
  · rw [List.getElem?_set_ne (Ne.symm (hx j w hw))]
    exact S.fx j w hw
theorem SR.sh (S : SR C H₀ F ρ σ H) {i : Nat} {p : PV} {v : V} (r : Rep C.G H₀ p v) (hx : fxOk C i) : ∃ F', SR C H₀ F' (ρ.set i (some (.sh p))) (σ.set i (some v)) H :=
  S.put (Fv := []) (by simp only [OwnR]; exact ⟨r, trivial⟩) List.nodup_nil (fun a ha => by cases ha) hx
theorem SR.drop (S : SR C H₀ F ρ σ H) (i : Nat) : ∃ F', SR C H₀ F' (ρ.set i none) σ H := by
  obtain ⟨F', e1, e2, e3⟩ := EnvR.drop i S.env S.nd
  exact ⟨F', S.e, S.z, S.n, S.hz, e1, e2, fun a ha => S.fr a (e3 a ha), S.fx, S.hx⟩
theorem SR.any (S : SR C H₀ F ρ σ H) {i : Nat} (x : Option V) (e : ρ[i]? = some none) (hx : fxOk C i) : SR C H₀ F ρ (σ.set i x) H :=
  ⟨S.e, S.z, S.n, S.hz, EnvR.any i x S.env e, S.nd, S.fr, fun j w hw => by
    rw [List.getElem?_set_ne (Ne.symm (hx j w hw))]
    exact S.fx j w hw, S.hx⟩
/-- a target by its slots: stores what is frozen -/
structure QG (C : Fc) (X : Cx) (tg : Expr) (T : Tg) : Prop where
  ex : ∃ t, PG X tg t ∧ ∀ (p : PV) (v : V) (H₀ : Hp) (F : List Addr) (ρ ρ' : Env) (σ : L2.St) (H : Hp) (Q : L2.St → Hp → Prop), SR C H₀ F ρ σ H → Rep C.G H₀ p v → tgS T p ρ = .ok ρ' →
    (∀ σ' F', SR C H₀ F' ρ' σ' H → (∀ vs, (∀ i ∈ T.slots, i ∈ vs) → wipe σ' vs = wipe σ vs) → Q σ' H) → t v σ H Q
theorem wipe_get : ∀ (vs : List Nat) (σ : L2.St) (j : Nat), j < σ.length → (wipe σ vs)[j]? = if j ∈ vs then some none else σ[j]?
  | [], σ, j, h => by simp [wipe]
  | v :: vs, σ, j, h => by
    show ((wipe σ vs).set v none)[j]? = _
    have hl : (wipe σ vs).length = σ.length := wipe_length σ vs
    by_cases e : v = j
    · subst e
      rw [List.getElem?_set_self (by rw [hl]; exact h)]
      simp
    · rw [List.getElem?_set_ne e, wipe_get vs σ j h]
      have : (j ∈ v :: vs) = (j ∈ vs) := by
        simp only [List.mem_cons, eq_iff_iff]
        exact ⟨fun z => z.elim (fun q => absurd q.symm e) id, .inr⟩
      simp only [this]
theorem wipe_set {σ : L2.St} {i : Nat} {x : Option V} {vs : List Nat} (h : i ∈ vs) : wipe (σ.set i x) vs = wipe σ vs := by
  apply List.ext_getElem?
  intro j
  by_cases hj : j < σ.length
  · rw [wipe_get vs _ j (by simpa using hj), wipe_get vs σ j hj]
    by_cases e : j ∈ vs
    · simp [e]
    · rw [if_neg e, if_neg e, List.getElem?_set_ne (fun q => e (by rw [← q]; exact h))]
  · rw [List.getElem?_eq_none (by rw [wipe_length]; simpa using hj), List.getElem?_eq_none (by rw [wipe_length]; omega)]
theorem qgName {i : Nat} {x : Str} (hx : fxOk C i) (hN : X.N.Nodup) (hi : X.N[i]? = some x := by rfl) (hl : Loc X.env.scope x := by first | exact Or.inl rfl | exact Or.inr rfl) (hf : X.fn x = true ∨ X.env.scope.names.lookup x = some .local := by first | exact .inl rfl | exact .inr rfl) : QG C X (.Name x pos) (.nm i) :=
  ⟨gName i, pg_name hN hi hl hf, fun p v H₀ F ρ ρ' σ H Q S r e k => by
    simp only [tgS] at e
    cases e
    obtain ⟨F', S'⟩ := S.sh r hx
    exact k _ F' S' fun vs hv => wipe_set (hv i (by simp [Tg.slots]))⟩
/-- names in a row -/
structure QGs (C : Fc) (X : Cx) (ts : List Expr) (is : List Nat) : Prop where
  ex : ∃ t, PGs X ts t ∧ ∀ (ps : List PV) (vs : List V) (H₀ : Hp) (F : List Addr) (ρ : Env) (σ : L2.St) (H : Hp) (Q : L2.St → Hp → Prop), SR C H₀ F ρ σ H → Reps C.G H₀ ps vs → ps.length = is.length →
    (∀ σ' F', SR C H₀ F' (setMany is ps ρ) σ' H → (∀ ws, (∀ i ∈ is, i ∈ ws) → wipe σ' ws = wipe σ ws) → Q σ' H) → t vs σ H Q
theorem qgsNil : QGs C X [] [] := ⟨gNil, pgs_nil, fun ps vs H₀ F ρ σ H Q S r e k => by
  have e1 : ps = [] := List.length_eq_zero_iff.mp e
  subst e1
  simp only [Reps] at r
  exact ⟨r, k σ F S fun _ _ => rfl⟩⟩
theorem qgsCons {i : Nat} {x : Str} {px : Pos} {ts : List Expr} {is : List Nat} (hx : fxOk C i) (hN : X.N.Nodup) (hr : QGs C X ts is) (hi : X.N[i]? = some x := by rfl) (hl : Loc X.env.scope x := by first | exact Or.inl rfl | exact Or.inr rfl) (hf : X.fn x = true ∨ X.env.scope.names.lookup x = some .local := by first | exact .inl rfl | exact .inr rfl)
    (hs : (assignEach (.Name x px :: ts) X.env).map (·.2) = assign (.Name x px) X.env :: (assignEach ts X.env).map (·.2) := by rfl) : QGs C X (.Name x px :: ts) (i :: is) := by
  obtain ⟨t, h1, h2⟩ := hr.ex
  refine ⟨gCons (gName i) t, pgs_cons (pg_name hN hi hl hf) h1 hs, fun ps vs H₀ F ρ σ H Q S r e k => ?_⟩
  cases ps with
  | nil => cases e
  | cons p ps =>
    simp only [Reps] at r
    obtain ⟨v, ws, e1, r1, r2⟩ := r
    obtain ⟨F1, S1⟩ := S.sh r1 hx
    refine ⟨v, ws, e1, h2 ps ws H₀ F1 _ _ H Q S1 r2 (by simpa using e) fun σ' F' S' w => k σ' F' S' fun ws hw => ?_⟩
    rw [w ws fun j hj => hw j (List.mem_cons_of_mem _ hj), wipe_set (hw i List.mem_cons_self)]
theorem PG.or {X : Cx} {e : Expr} {t t' : TG} (h : PG X e t) (h' : PG X e t') : PG X e (fun v σ H Q => t v σ H Q ∨ t' v σ H Q) := ⟨fun pins s σ H v u Q I r q => q.elim (h.run pins s σ H v u Q I r) (h'.run pins s σ H v u Q I r)⟩
theorem qgTup {ts : List Expr} {is : List Nat} {k n : Nat} (hK : X.K = C.G.K) (hc : X.calm = true) (h : QGs C X ts is) (hl : is.length = n := by rfl) (hn : (assignEach ts X.env).length = n := by rfl) (hst : (assignEach ts X.env).findIdx? (·.1) = none := by rfl) : QG C X (.Tuple ts k pos) (.tp is) := by
  obtain ⟨t, h1, h2⟩ := h.ex
  refine ⟨_, PG.or (pg_tup hc h1 hn hst) (pg_lst hc h1 hn hst), fun p v H₀ F ρ ρ' σ H Q S r e kk => ?_⟩
  have go : ∀ {l : List PV} {xs : List V}, Reps C.G H₀ l xs → l.length = is.length → ρ' = setMany is l ρ → t xs σ H Q := fun {l xs} r' hlen er =>
    h2 l xs H₀ F ρ σ H Q S r' hlen fun σ' F' S' w => kk σ' F' (er ▸ S') w
  cases p with
  | lst l =>
    simp only [tgS] at e
    split at e
    · rename_i hlen
      cases e
      simp only [Rep] at r
      obtain ⟨a, xs, e1, e2, e3⟩ := r
      exact .inr ⟨a, xs, e1, SqL.of (S.z _ _ e2), by rw [← e3.length, hlen, hl], go e3 hlen rfl⟩
    · cases e
  | tup l =>
    simp only [tgS] at e
    split at e
    · rename_i hlen
      cases e
      simp only [Rep] at r
      obtain ⟨a, xs, e1, e2, e3⟩ := r
      refine .inl ⟨a, xs, e1, ?_, by rw [← e3.length, hlen, hl], go e3 hlen rfl⟩
      rw [hK]
      exact Same.seqT S.z e2
    · cases e
  | _ => simp only [tgS] at e; cases e
/-! ### comprehensions -/
def wipeE (ρ : Env) : List Nat → Env
  | [] => ρ
  | v :: vs => (wipeE ρ vs).set v none
theorem SR.wipe : ∀ (vs : List Nat) {F : List Addr} {ρ : Env} {σ : L2.St}, SR C H₀ F ρ σ H → (∀ i ∈ vs, fxOk C i) → ∃ F', SR C H₀ F' (wipeE ρ vs) (L2.wipe σ vs) H
  | [], F, ρ, σ, S, _ => ⟨F, S⟩
  | v :: vs, F, ρ, σ, S, hv => by
    obtain ⟨F1, S1⟩ := SR.wipe vs S fun i hi => hv i (List.mem_cons_of_mem _ hi)
    obtain ⟨F2, S2⟩ := S1.drop v
    refine ⟨F2, ?_⟩
    show SR C H₀ F2 ((wipeE ρ vs).set v none) ((L2.wipe σ vs).set v none) H
    by_cases hl : v < (wipeE ρ vs).length
    · exact S2.any none (List.getElem?_set_self hl) (hv v List.mem_cons_self)
    · have e2 : (L2.wipe σ vs).set v none = L2.wipe σ vs := List.set_eq_of_length_le (by rw [← S1.env.length]; omega)
      rw [e2]
      exact S2
/-- nothing is said where something is raised -/
def R.calm {α : Type} : R α → R α
  | .er _ => .no
  | r => r
theorem R.calm_ok {α : Type} {r : R α} {a : α} (h : R.calm r = .ok a) : r = .ok a := by
  cases r with
  | ok b => exact h
  | er x => cases h
  | no => cases h
@[simp] theorem R.calm_ok' {α : Type} (a : α) : R.calm (R.ok a) = .ok a := rfl
theorem R.bind_eq {α β : Type} {r : R α} {f : α → R β} {b : β} (h : r.bind f = .ok b) : ∃ a, r = .ok a ∧ f a = .ok b := by
  cases r with
  | ok a => exact ⟨a, rfl, h⟩
  | er x => cases h
  | no => cases h
def lcGo (T : Tg) (t : Env → R Bool) (e : Env → R OV) (ρ : Env) : List PV → R (List OV)
  | [] => .ok []
  | p :: ps => (tgS T p ρ).bind fun ρ1 => (R.calm (t ρ1)).bind fun b => if b = true then (R.calm (e ρ1)).bind fun o => (lcGo T t e ρ ps).bind fun os => .ok (o :: os) else lcGo T t e ρ ps
def fLc (T : Tg) (vs : List Nat) (f : Env → R (List PV)) (t : Env → R Bool) (e : Env → R OV) : Env → R OV := fun ρ => (f ρ).bind fun ps => if ps.length ≤ sizeLine then (R.calm (lcGo T t e (wipeE ρ vs) ps)).bind fun os => .ok (.own os) else .no
abbrev W0 : WX := fun _ _ _ _ => False
/-- the invariant of a comprehension: behind i items -/
structure LcI (C : Fc) (T : Tg) (t : Env → R Bool) (e : Env → R OV) (ρw : Env) (ps : List PV) (tot : List OV) (D : Addr) (H₁ H1 : Hp) (i : Nat) (H : Hp) : Prop where
  ex : ∃ H₀ Fa os osr acc, Ext H₁ H1 H₀ H ∧ H D = some (.lst acc) ∧ H₀ D = none ∧ OwnRs C.G H₀ H os acc Fa ∧ (D :: Fa).Nodup ∧ (∀ a ∈ Fa, H1 a = none ∧ H₀ a = none) ∧ acc.length ≤ i ∧ lcGo T t e ρw (ps.drop i) = .ok osr ∧ os ++ osr = tot
theorem OwnRs.snoc {G : Gc} {H₀ H : Hp} {o : OV} {v : V} {Fv : List Addr} (r : OwnR G H₀ H o v Fv) : ∀ {os : List OV} {acc : List V} {Fa : List Addr}, OwnRs G H₀ H os acc Fa → OwnRs G H₀ H (os ++ [o]) (acc ++ [v]) (Fa ++ Fv)
  | [], acc, Fa, h => by
    simp only [OwnRs] at h
    obtain ⟨h1, h2⟩ := h
    subst h1 h2
    simp only [List.nil_append, OwnRs]
    exact ⟨v, [], Fv, [], rfl, by simp, r, rfl, rfl⟩
  | q :: os, acc, Fa, h => by
    simp only [OwnRs] at h
    obtain ⟨x, ys, F1, F2, h1, h2, h3, h4⟩ := h
    subst h1 h2
    show OwnRs G H₀ H (q :: (os ++ [o])) (x :: (ys ++ [v])) _
    simp only [OwnRs]
    exact ⟨x, _, F1, F2 ++ Fv, rfl, by rw [List.append_assoc], h3, OwnRs.snoc r h4⟩
theorem lc_go {T : Tg} {vs : List Nat} {f : Env → R (List PV)} {t : Env → R Bool} {el : Env → R OV} {g : TG} (hvs : ∀ i ∈ T.slots, i ∈ vs) (hfx : ∀ i ∈ vs, fxOk C i)
    (hgo : ∀ (p : PV) (v : V) (H₀ : Hp) (F : List Addr) (ρ ρ' : Env) (σ : L2.St) (H : Hp) (Q : L2.St → Hp → Prop), SR C H₀ F ρ σ H → Rep C.G H₀ p v → tgS T p ρ = .ok ρ' → (∀ σ' F', SR C H₀ F' ρ' σ' H → (∀ vs, (∀ i ∈ T.slots, i ∈ vs) → wipe σ' vs = wipe σ vs) → Q σ' H) → g v σ H Q)
    {Q : VK} (h : tF C W (fLc T vs f t el) σ H Q) : tLc (tI C W true f) g (tTt C W0 t) (tF C W0 el) vs σ H Q := by
  rw [tF_iff] at h
  obtain ⟨H₀, F, ρ, S, h⟩ := h
  unfold fLc at h
  rw [Goes.bind] at h
  refine ⟨H₀, F, ρ, S, h.imp fun ps _ h J H1 H₁ E1 ip D hD => ?_⟩
  have ip : ItP C.G J H₁ ps := ip
  split at h
  · rename_i hlen
    rw [Goes.bind] at h
    cases q : lcGo T t el (wipeE ρ vs) ps with
    | er x => rw [q] at h; exact h.elim
    | no => rw [q] at h; exact h.elim
    | ok tot =>
      rw [q] at h
      have h : ∀ v H' H₀' Fv, Ext H₀ H H₀' H' → OwnR C.G H₀' H' (.own tot) v Fv → Fv.Nodup → (∀ a ∈ Fv, H a = none ∧ H₀' a = none) → Q v H' := h
      have D0 : H₁ D = none := Same.free E1.z hD
      have ext_D : ∀ {Ha Hb : Hp} {acc acc' : List V}, Ext H₁ H1 Ha Hb → Ha D = none → Ext H₁ H1 Ha (upd Hb D (.lst acc')) := fun {Ha Hb acc acc'} E0 hD0 => by
        refine ⟨fun b u q => ?_, E0.s0, fun b u q => ?_, E0.n⟩
        · rw [upd_ne fun z => by rw [z, hD] at q; cases q]; exact E0.s b u q
        · rw [upd_ne fun z => by rw [z, hD0] at q; cases q]; exact E0.z b u q
      refine ⟨fun i mm Hc => mm = ps.length - i ∧ i ≤ ps.length ∧ LcI C T t el (wipeE ρ vs) ps tot D H₁ H1 i Hc, ⟨ps.length, by simp, Nat.zero_le _, ⟨H₁, [], [], tot, [], ext_D (acc := []) (Ext.refl E1.z) D0, upd_same, D0, by simp [OwnRs], by simp, fun a ha => (by cases ha), by simp, by simpa using q, rfl⟩⟩, ?_⟩
      rintro i mm Hc ⟨rfl, hi, ⟨H₀c, Fa, os, osr, acc, Ec, hDc, hD0, own, nd, fr, hacc, hgo', htot⟩⟩
      have sc : Same H₁ Hc := Ec.s0.trans Ec.z
      by_cases hlt : i < ps.length
      · have hp : ps[i]? = some ps[i] := by simp [hlt]
        obtain ⟨jg, jy⟩ := ip.go i Hc _ sc hp
        refine .inr ⟨jg, fun H' => ps.length - (i + 1) = ps.length - (i + 1) ∧ i + 1 ≤ ps.length ∧ LcI C T t el (wipeE ρ vs) ps tot D H₁ H1 (i + 1) H', fun H' z => ⟨ps.length - (i + 1), by omega, z⟩, fun x H' y => ?_⟩
        obtain ⟨e1, rx⟩ := jy x H' y
        subst e1
        rw [List.drop_eq_getElem_cons hlt] at hgo'
        unfold lcGo at hgo'
        obtain ⟨ρ1, et, hgo'⟩ := R.bind_eq hgo'
        obtain ⟨b, eb, hgo'⟩ := R.bind_eq hgo'
        have eb := R.calm_ok eb
        obtain ⟨Fw, Sw⟩ := SR.wipe vs ((S.ext E1).ext Ec) hfx
        refine hgo _ x H₀c Fw _ ρ1 _ H' _ Sw (Rep.mono Ec.s0 rx) et fun σ2 F2 S2 w2 => ⟨?_, ?_⟩
        · rw [w2 vs hvs]
          apply List.ext_getElem?
          intro j
          by_cases hj : j < σ.length
          · rw [wipe_get vs _ j (by rw [wipe_length]; exact hj), wipe_get vs σ j hj]
            by_cases e : j ∈ vs
            · simp [e]
            · simp [e]
          · rw [List.getElem?_eq_none (by rw [wipe_length, wipe_length]; omega), List.getElem?_eq_none (by rw [wipe_length]; omega)]
        · rw [tT_iff]
          refine ⟨H₀c, F2, ρ1, S2, ?_⟩
          rw [eb]
          intro H3 H₃ E3
          cases b with
          | false =>
            rw [if_neg Bool.false_ne_true] at hgo'
            show if false = true then _ else _
            rw [if_neg Bool.false_ne_true]
            have mono : ∀ a ∈ Fa, H3 a = H' a := fun a ha => by
              obtain ⟨u, e⟩ := OwnRs.there own a ha
              rw [e, E3.s a u e]
            refine ⟨rfl, hlt, ⟨H₃, Fa, os, osr, acc, Ec.trans E3, E3.s _ _ hDc, by rw [E3.n D (ne_none_of hDc)]; exact hD0, OwnRs.mono E3.s0 mono own, nd, fun a ha => ⟨(fr a ha).1, ?_⟩, by omega, hgo', htot⟩⟩
            obtain ⟨u, e⟩ := OwnRs.there own a ha
            rw [E3.n a (ne_none_of e)]
            exact (fr a ha).2
          | true =>
            rw [if_pos rfl] at hgo'
            show if true = true then _ else _
            rw [if_pos rfl, tF_iff]
            obtain ⟨o, eo, hgo'⟩ := R.bind_eq hgo'
            have eo := R.calm_ok eo
            obtain ⟨osr', er, hgo'⟩ := R.bind_eq hgo'
            cases hgo'
            refine ⟨H₃, F2, ρ1, S2.ext E3, ?_⟩
            rw [eo]
            intro y H4 H₄ Fv E4 ro ndv frv
            have E34 := E3.trans E4
            have hD4 : H4 D = some (.lst acc) := E34.s _ _ hDc
            have hD40 : H₄ D = none := by rw [E34.n D (ne_none_of hDc)]; exact hD0
            have aD : ∀ a ∈ Fa, a ≠ D := fun a ha z => (List.nodup_cons.mp nd).1 (z ▸ ha)
            have vD : ∀ a ∈ Fv, a ≠ D := fun a ha z => by
              have z2 := (frv a ha).1
              rw [z, E3.s _ _ hDc] at z2
              cases z2
            have mono : ∀ a ∈ Fa, H4 a = H' a := fun a ha => by
              obtain ⟨u, e⟩ := OwnRs.there own a ha
              rw [e, E34.s a u e]
            have own4 : OwnRs C.G H₄ H4 os acc Fa := OwnRs.mono E34.s0 mono own
            have own5 := OwnRs.snoc ro own4
            have nD : ∀ a ∈ Fa ++ Fv, a ≠ D := fun a ha => (List.mem_append.mp ha).elim (aD a) (vD a)
            refine ⟨acc, hD4, by have := hlen; omega, rfl, hlt, ⟨H₄, Fa ++ Fv, os ++ [o], osr', acc ++ [y], ext_D (acc := acc) (Ec.trans E34) hD40, upd_same, hD40, OwnRs.mono (Same.refl _) (fun a ha => upd_ne (nD a ha)) own5, ?_, fun a ha => ?_, by rw [List.length_append, List.length_singleton]; omega, er, by rw [← htot, List.append_assoc]; rfl⟩⟩
            · refine List.nodup_cons.mpr ⟨fun z => nD D z rfl, List.nodup_append.mpr ⟨(List.nodup_cons.mp nd).2, ndv, fun a ha b hb e => ?_⟩⟩
              subst e
              obtain ⟨u, e⟩ := OwnRs.there own a ha
              have z2 := (frv a hb).1
              rw [E3.s a u e] at z2
              cases z2
            · rcases List.mem_append.mp ha with z | z
              · obtain ⟨u, e⟩ := OwnRs.there own a z
                exact ⟨(fr a z).1, by rw [E34.n a (ne_none_of e)]; exact (fr a z).2⟩
              · refine ⟨Same.free (Ec.s.trans E3.s) (frv a z).1, (frv a z).2⟩
      · have hie : i = ps.length := by omega
        refine .inl ⟨ip.stop i Hc sc (by omega), ?_⟩
        rw [hie, List.drop_length] at hgo'
        unfold lcGo at hgo'
        cases hgo'
        rw [List.append_nil] at htot
        subst htot
        refine h (.ref D) Hc H₀c (D :: Fa) (E1.trans Ec) (by simp only [OwnR]; exact ⟨D, acc, Fa, rfl, rfl, hDc, own⟩) nd fun a ha => ?_
        rcases List.mem_cons.mp ha with z | z
        · rw [z]; exact ⟨Same.free E1.s hD, hD0⟩
        · exact ⟨Same.free E1.s (fr a z).1, (fr a z).2⟩
  · exact h.elim
/-- a clause's tests -/
def tYesB : Env → R Bool := fun _ => .ok true
theorem PTs.imp {X : Cx} {es : List Expr} {t t' : TT} (h : PTs X es t) (k : ∀ σ H Q, t' σ H Q → t σ H Q) : PTs X es t' := ⟨fun pins s σ H Q I q => h.run pins s σ H Q I (k _ _ _ q)⟩
theorem qtsNil : PTs X [] (tTt C W0 tYesB) := PTs.imp pts_nil fun σ H Q ⟨H₀, F, ρ, S, h⟩ => h H H₀ (Ext.refl S.z)
theorem qtsOne {t : Env → R Bool} (h : QT C W0 X e t) : PTs X [e] (tTt C W0 t) := pts_one h
theorem qLc {elt iter : Expr} {ifs : List Expr} {scope : Scope} {own : List (Str × Nat)} {T : Tg} {f : Env → R (List PV)} {t : Env → R Bool} {el : Env → R OV} (hc : X.calm = true) (hN : X.N.Nodup) (hi : QI C W true X tg iter f) (ok : BlkOk X.N X.env.scope scope own) (hvs : ∀ i ∈ T.slots, i ∈ own.map (·.2)) (hfx : ∀ i ∈ own.map (·.2), fxOk C i)
    (hg : ∃ g : TG, (∀ (s : Shared) (H : Hp) (c : Addr) (cl : List (Str × Addr)) (fp : List Addr), PG (X.blk s H scope (compEnvC scope cl c X.env) fp) tg g) ∧ ∀ (p : PV) (v : V) (H₀ : Hp) (F : List Addr) (ρ ρ' : Env) (σ : L2.St) (H : Hp) (Q : L2.St → Hp → Prop), SR C H₀ F ρ σ H → Rep C.G H₀ p v → tgS T p ρ = .ok ρ' → (∀ σ' F', SR C H₀ F' ρ' σ' H → (∀ vs, (∀ i ∈ T.slots, i ∈ vs) → wipe σ' vs = wipe σ vs) → Q σ' H) → g v σ H Q)
    (ht : ∀ (s : Shared) (H : Hp) (c : Addr) (cl : List (Str × Addr)) (fp : List Addr), PTs (X.blk s H scope (compEnvC scope cl c X.env) fp) ifs (tTt C W0 t))
    (he : ∀ (s : Shared) (H : Hp) (c : Addr) (cl : List (Str × Addr)) (fp : List Addr), QF C W0 (X.blk s H scope (compEnvC scope cl c X.env) fp) elt el) (hs : ∀ x, foldedSetIterable iter X.env x = pure x := by intro _; rfl) :
    QF C W X (.ListComp elt [⟨tg, iter, ifs, 0⟩] scope pos) (fLc T (own.map (·.2)) f t el) := by
  obtain ⟨g, hg1, hg2⟩ := hg
  exact PE.imp (pe_lc hc hN hi ok hg1 ht he hs) fun σ H Q h => lc_go hvs hfx hg2 h
/-- a name as the comprehension's target -/
theorem lcName {scope : Scope} {i : Nat} {x : Str} (hx : fxOk C i) (hN : X.N.Nodup) (hi : X.N[i]? = some x) (hl : ∀ c cl, (compEnvC scope cl c X.env).scope.names.lookup x = some .local) :
    ∃ g : TG, (∀ (s : Shared) (H : Hp) (c : Addr) (cl : List (Str × Addr)) (fp : List Addr), PG (X.blk s H scope (compEnvC scope cl c X.env) fp) (.Name x pos) g) ∧ ∀ (p : PV) (v : V) (H₀ : Hp) (F : List Addr) (ρ ρ' : Env) (σ : L2.St) (H : Hp) (Q : L2.St → Hp → Prop), SR C H₀ F ρ σ H → Rep C.G H₀ p v → tgS (.nm i) p ρ = .ok ρ' → (∀ σ' F', SR C H₀ F' ρ' σ' H → (∀ vs, (∀ j ∈ (Tg.nm i).slots, j ∈ vs) → wipe σ' vs = wipe σ vs) → Q σ' H) → g v σ H Q :=
  ⟨gName i, fun s H c cl fp => pg_name hN hi (.inl (hl c cl)) (.inr (hl c cl)), fun p v H₀ F ρ ρ' σ H Q S r e k => by
    simp only [tgS] at e
    cases e
    obtain ⟨F', S'⟩ := S.sh r hx
    exact k _ F' S' fun vs hv => wipe_set (hv i (by simp [Tg.slots]))⟩
end
end L3

end
section
/-! L3. 6: calls of defs, methods, classes -/
namespace L3
open PySem PySem.Spec PyProof.Rows L2
/-! ### contracts -/
section
variable (Γ : Gc)
/-- a def's promise -/
def spP (F : List PV → R OV) : Sp := fun vs H Q E => ∃ H₀ ps, Same H₀ H ∧ Reps Γ H₀ ps vs ∧ Goes Γ (fun cls d _ H' => E cls d H') (F ps) [] H H₀ fun o =>
  ∀ v H' H₀' Fv, Ext H₀ H H₀' H' → OwnR Γ H₀' H' o v Fv → Fv.Nodup → (∀ a ∈ Fv, H a = none ∧ H₀' a = none) → Q v H'
def del (H : Hp) (x : Addr) : Hp := fun a => if a = x then none else H a
/-- an __init__'s promise: the new instance's fields -/
def spI (c : Nat) (F : List PV → R (List (Str × OV))) : Sp := fun vs H Q E => ∃ x dx ws H₀ ps, vs = .ref x :: ws ∧ H x = some (.ins (Γ.CA c) dx []) ∧ H₀ x = none ∧ Same H₀ H ∧ Reps Γ H₀ ps ws ∧ (match F ps with
  | .ok fs => ∀ H' H₀' Fv, Ext H₀ (del H x) H₀' (del H' x) → OwnR Γ H₀' H' (.obj c fs) (.ref x) Fv → Fv.Nodup → (∀ a ∈ Fv, (a = x ∨ H a = none) ∧ H₀' a = none) → Q .non H'
  | .er z => ∀ cls d H' H₀', Ext H₀ (del H x) H₀' (del H' x) → RepX Γ H₀' z cls d → E cls d H'
  | .no => False)
end
/-! ### results without lists: these may leave what is only looked at -/
mutual
def PV.flat : PV → Bool
  | .non => true
  | .bl _ => true
  | .int _ => true
  | .str _ => true
  | .lst _ => false
  | .scr _ => false
  | .tup l => PV.flats l
  | .ins _ _ => false
def PV.flats : List PV → Bool
  | [] => true
  | p :: ps => p.flat && PV.flats ps
end
def PV.flatf : List (Str × PV) → Bool
  | [] => true
  | (_, p) :: ps => p.flat && PV.flatf ps
mutual
def OV.flat : OV → Bool
  | .sh p => p.flat
  | .own l => OV.flats l
  | .obj _ fs => OV.flatf fs
def OV.flats : List OV → Bool
  | [] => true
  | o :: l => o.flat && OV.flats l
def OV.flatf : List (Str × OV) → Bool
  | [] => true
  | (_, o) :: l => o.flat && OV.flatf l
end
def capR (m : Bool) : R OV → R OV
  | .ok o => if m = true ∨ o.flat = true then .ok o else .no
  | .er x => if m = true ∨ PV.flatf x.fs = true then .er x else .no
  | .no => .no
theorem Goes.cap_ok {Γ : Gc} {W : WX} {σ : L2.St} {H H₀ : Hp} {k : OV → Prop} {m : Bool} {o : OV} (h : Goes Γ W (capR m (.ok o)) σ H H₀ k) : (m = true ∨ o.flat = true) ∧ k o := by
  have e : capR m (.ok o) = if m = true ∨ o.flat = true then .ok o else .no := rfl
  rw [e] at h
  by_cases hc : m = true ∨ o.flat = true
  · rw [if_pos hc] at h
    exact ⟨hc, h⟩
  · rw [if_neg hc] at h
    exact h.elim
theorem Goes.cap_er {Γ : Gc} {W : WX} {σ : L2.St} {H H₀ : Hp} {k : OV → Prop} {m : Bool} {x : PX} (h : Goes Γ W (capR m (.er x)) σ H H₀ k) : (m = true ∨ PV.flatf x.fs = true) ∧ ∀ cls d H' H₀', Ext H₀ H H₀' H' → RepX Γ H₀' x cls d → W cls d σ H' := by
  have e : capR m (.er x) = if m = true ∨ PV.flatf x.fs = true then .er x else .no := rfl
  rw [e] at h
  by_cases hc : m = true ∨ PV.flatf x.fs = true
  · rw [if_pos hc] at h
    exact ⟨hc, h⟩
  · rw [if_neg hc] at h
    exact h.elim
@[simp] theorem capR_true (r : R OV) : capR true r = r := by cases r <;> simp [capR]
def mask (H : Hp) (F : List Addr) : Hp := fun a => if a ∈ F then none else H a
def isLI : HO → Prop
  | .lst _ => True
  | .ins _ _ _ => True
  | _ => False
section
variable {C : Fc} {G : Gc} {m : Bool} {H₀ H Hc H' : Hp} {F : List Addr} {ρ : Env} {σ : L2.St}
theorem mask_get {a : Addr} {o : HO} (hF : ∀ a ∈ F, ∀ o, Hc a = some o → isLI o) (h : Hc a = some o) (k : ¬ isLI o) : mask Hc F a = some o := by
  unfold mask
  rw [if_neg fun z => k (hF a z o h)]
  exact h
mutual
theorem Rep.mask (hF : ∀ a ∈ F, ∀ o, Hc a = some o → isLI o) : ∀ {p : PV} {v : V}, p.flat = true → Rep G Hc p v → Rep G (mask Hc F) p v
  | .non, _, _, h => by simpa only [Rep] using h
  | .bl _, _, _, h => by simpa only [Rep] using h
  | .int _, _, _, h => by simpa only [Rep] using h
  | .str _, _, _, h => by simpa only [Rep] using h
  | .lst _, _, e, _ => by simp [PV.flat] at e
  | .scr _, _, e, _ => by simp [PV.flat] at e
  | .tup l, v, e, h => by
    simp only [PV.flat] at e
    simp only [Rep] at h ⊢
    obtain ⟨a, xs, h1, h2, h3⟩ := h
    refine ⟨a, xs, h1, ?_, Reps.mask hF e h3⟩
    rcases h2 with (h2 | ⟨o, h2⟩) | h2
    · exact .inl (.inl (mask_get hF h2 id))
    · exact .inl (.inr ⟨o, mask_get hF h2 id⟩)
    · exact .inr h2
  | .ins _ _, _, e, _ => by simp [PV.flat] at e
theorem Reps.mask (hF : ∀ a ∈ F, ∀ o, Hc a = some o → isLI o) : ∀ {ps : List PV} {vs : List V}, PV.flats ps = true → Reps G Hc ps vs → Reps G (mask Hc F) ps vs
  | [], _, _, h => by simpa only [Reps] using h
  | p :: ps, vs, e, h => by
    simp only [PV.flats, Bool.and_eq_true] at e
    simp only [Reps] at h ⊢
    obtain ⟨x, ys, h1, h2, h3⟩ := h
    exact ⟨x, ys, h1, Rep.mask hF e.1 h2, Reps.mask hF e.2 h3⟩
end
theorem RepF.mask (hF : ∀ a ∈ F, ∀ o, Hc a = some o → isLI o) : ∀ {ps : List (Str × PV)} {vs : List (Str × V)}, PV.flatf ps = true → RepF G Hc ps vs → RepF G (mask Hc F) ps vs
  | [], _, _, h => by simpa only [RepF] using h
  | (f, p) :: ps, vs, e, h => by
    simp only [PV.flatf, Bool.and_eq_true] at e
    simp only [RepF] at h ⊢
    obtain ⟨x, ys, h1, h2, h3⟩ := h
    exact ⟨x, ys, h1, Rep.mask hF e.1 h2, RepF.mask hF e.2 h3⟩
mutual
theorem OwnR.mask (hF : ∀ a ∈ F, ∀ o, Hc a = some o → isLI o) : ∀ {o : OV} {v : V} {Fv : List Addr}, o.flat = true → OwnR G Hc H o v Fv → OwnR G (mask Hc F) H o v Fv
  | .sh p, v, Fv, e, h => by
    simp only [OV.flat] at e
    simp only [OwnR] at h ⊢
    exact ⟨Rep.mask hF e h.1, h.2⟩
  | .own l, v, Fv, e, h => by
    simp only [OV.flat] at e
    simp only [OwnR] at h ⊢
    obtain ⟨a, xs, F', h1, h2, h3, h4⟩ := h
    exact ⟨a, xs, F', h1, h2, h3, OwnRs.mask hF e h4⟩
  | .obj c fs, v, Fv, e, h => by
    simp only [OV.flat] at e
    simp only [OwnR] at h ⊢
    obtain ⟨a, dx, vs, F', h1, h2, h3, h4⟩ := h
    exact ⟨a, dx, vs, F', h1, h2, h3, OwnRf.mask hF e h4⟩
theorem OwnRs.mask (hF : ∀ a ∈ F, ∀ o, Hc a = some o → isLI o) : ∀ {l : List OV} {xs : List V} {Fv : List Addr}, OV.flats l = true → OwnRs G Hc H l xs Fv → OwnRs G (mask Hc F) H l xs Fv
  | [], xs, Fv, _, h => by simpa only [OwnRs] using h
  | o :: l, xs, Fv, e, h => by
    simp only [OV.flats, Bool.and_eq_true] at e
    simp only [OwnRs] at h ⊢
    obtain ⟨x, ys, F1, F2, h1, h2, h3, h4⟩ := h
    exact ⟨x, ys, F1, F2, h1, h2, OwnR.mask hF e.1 h3, OwnRs.mask hF e.2 h4⟩
theorem OwnRf.mask (hF : ∀ a ∈ F, ∀ o, Hc a = some o → isLI o) : ∀ {l : List (Str × OV)} {xs : List (Str × V)} {Fv : List Addr}, OV.flatf l = true → OwnRf G Hc H l xs Fv → OwnRf G (mask Hc F) H l xs Fv
  | [], xs, Fv, _, h => by simpa only [OwnRf] using h
  | (f, o) :: l, xs, Fv, e, h => by
    simp only [OV.flatf, Bool.and_eq_true] at e
    simp only [OwnRf] at h ⊢
    obtain ⟨x, ys, F1, F2, h1, h2, h3, h4⟩ := h
    exact ⟨x, ys, F1, F2, h1, h2, OwnR.mask hF e.1 h3, OwnRf.mask hF e.2 h4⟩
end
mutual
theorem OwnR.kind : ∀ {o : OV} {v : V} {F : List Addr}, OwnR G H₀ H o v F → ∀ a ∈ F, ∃ u, H a = some u ∧ isLI u
  | .sh p, v, F, h, a, ha => by simp only [OwnR] at h; rw [h.2] at ha; cases ha
  | .own l, v, F, h, a, ha => by
    simp only [OwnR] at h
    obtain ⟨b, xs, F', h1, h2, h3, h4⟩ := h
    subst h2
    rcases List.mem_cons.mp ha with e | ha
    · rw [e]; exact ⟨_, h3, trivial⟩
    · exact OwnRs.kind h4 a ha
  | .obj c fs, v, F, h, a, ha => by
    simp only [OwnR] at h
    obtain ⟨b, dx, vs, F', h1, h2, h3, h4⟩ := h
    subst h2
    rcases List.mem_cons.mp ha with e | ha
    · rw [e]; exact ⟨_, h3, trivial⟩
    · exact OwnRf.kind h4 a ha
theorem OwnRs.kind : ∀ {l : List OV} {xs : List V} {F : List Addr}, OwnRs G H₀ H l xs F → ∀ a ∈ F, ∃ u, H a = some u ∧ isLI u
  | [], xs, F, h, a, ha => by simp only [OwnRs] at h; rw [h.2] at ha; cases ha
  | o :: l, xs, F, h, a, ha => by
    simp only [OwnRs] at h
    obtain ⟨x, ys, F1, F2, h1, h2, h3, h4⟩ := h
    subst h2
    rcases List.mem_append.mp ha with ha | ha
    · exact OwnR.kind h3 a ha
    · exact OwnRs.kind h4 a ha
theorem OwnRf.kind : ∀ {l : List (Str × OV)} {xs : List (Str × V)} {F : List Addr}, OwnRf G H₀ H l xs F → ∀ a ∈ F, ∃ u, H a = some u ∧ isLI u
  | [], xs, F, h, a, ha => by simp only [OwnRf] at h; rw [h.2] at ha; cases ha
  | (f, o) :: l, xs, F, h, a, ha => by
    simp only [OwnRf] at h
    obtain ⟨x, ys, F1, F2, h1, h2, h3, h4⟩ := h
    subst h2
    rcases List.mem_append.mp ha with ha | ha
    · exact OwnR.kind h3 a ha
    · exact OwnRf.kind h4 a ha
end
theorem EnvR.kind : ∀ {ρ : Env} {σ : L2.St} {F : List Addr}, EnvR G H₀ H ρ σ F → ∀ a ∈ F, ∃ u, H a = some u ∧ isLI u
  | [], σ, F, h, a, ha => by rw [h.2] at ha; cases ha
  | none :: ρ, σ, F, h, a, ha => by
    obtain ⟨x, τ, h1, h2⟩ := h
    exact EnvR.kind h2 a ha
  | some o :: ρ, σ, F, h, a, ha => by
    obtain ⟨v, τ, F1, F2, h1, h2, h3, h4⟩ := h
    subst h2
    rcases List.mem_append.mp ha with ha | ha
    · exact OwnR.kind h3 a ha
    · exact EnvR.kind h4 a ha
/-- behind a call: what the callee froze is frozen, what is owned is owned again -/
theorem cap (S : SR C H₀ F ρ σ H) (E : Ext (md m H₀ H F) H Hc H') : ∃ H₀', Ext H₀ H H₀' H' ∧ (∀ o v Fv, (m = true ∨ o.flat = true) → OwnR C.G Hc H' o v Fv → OwnR C.G H₀' H' o v Fv) ∧
    (∀ x cls d, (m = true ∨ PV.flatf x.fs = true) → RepX C.G Hc x cls d → RepX C.G H₀' x cls d) ∧ (∀ a, Hc a = none → H₀' a = none) := by
  cases m with
  | true => exact ⟨Hc, E, fun o v Fv _ r => r, fun x cls d _ r => r, fun a h => h⟩
  | false =>
    have E : Ext (vw H₀ H F) H Hc H' := E
    have hF : ∀ a ∈ F, ∀ o, Hc a = some o → isLI o := fun a ha o e => by
      obtain ⟨u, e1, e2⟩ := S.env.kind a ha
      rw [E.n a (ne_none_of e1)] at e
      unfold vw at e
      rw [if_pos ha, e1] at e
      cases e
      exact e2
    refine ⟨mask Hc F, ⟨E.s, fun a o e => ?_, fun a o e => ?_, fun a ha => ?_⟩, fun o v Fv h r => ?_, fun x cls d h r => ?_, fun a h => ?_⟩
    · have na : a ∉ F := fun z => by rw [(S.fr a z).2] at e; cases e
      unfold mask
      rw [if_neg na]
      refine E.s0 a o ?_
      unfold vw
      rw [if_neg na]
      exact e
    · unfold mask at e
      split at e
      · cases e
      · exact E.z a o e
    · unfold mask
      split
      · rename_i z
        exact (S.fr a z).2.symm
      · rename_i z
        rw [E.n a ha]
        unfold vw
        rw [if_neg z]
    · exact OwnR.mask hF (h.resolve_left Bool.false_ne_true) r
    · obtain ⟨r1, r2⟩ := r
      refine ⟨r1, r2.imp id ?_⟩
      rintro ⟨dd, vs, e1, e2, e3⟩
      exact ⟨dd, vs, e1, mask_get hF e2 id, RepF.mask hF (h.resolve_left Bool.false_ne_true) e3⟩
    · unfold mask
      split
      · rfl
      · exact h
end
/-! ### calls -/
section
variable {C : Fc} {W : WX} {m : Bool} {X : Cx} {o e : Expr} {es : List Expr} {p pos apos : Pos} {σ : L2.St} {H H₀ : Hp} {ρ : Env} {x mth : Str} {k c : Nat} {f Ca : Addr} {fd : FuncData} {ns : List Str} {dvs : List V} {ds : List Value} {dps : List PV}
  {fo : Env → R PV} {fas : Env → R (List PV)} {Fn : List PV → R OV} {FI : List PV → R (List (Str × OV))}
theorem Reps.snoc_all {G : Gc} {Hv : Hp} {ps : List PV} {vs : List V} (r : Reps G Hv ps vs) (hp : ∀ H, Reps G H dps dvs) : Reps G Hv (ps ++ dps) (vs ++ dvs) := r.append (hp _)
theorem call_go {F : List Addr} {qs : List PV} {vs : List V} {Q : VK} (S : SR C H₀ F ρ σ H) (r : Reps C.G (md m H₀ H F) qs vs)
    (h : Goes C.G W (capR m (Fn qs)) σ H H₀ fun o => ∀ v H' H₀' Fv, Ext H₀ H H₀' H' → OwnR C.G H₀' H' o v Fv → Fv.Nodup → (∀ a ∈ Fv, H a = none ∧ H₀' a = none) → Q v H') : spP C.G Fn vs H Q (WE W σ) := by
  refine ⟨md m H₀ H F, qs, md_H S.z, r, ?_⟩
  cases q : Fn qs with
  | ok o =>
    rw [q] at h
    obtain ⟨hc, h⟩ := h.cap_ok
    intro v H' Hc Fv E ro nd fr
    obtain ⟨H₀', E', c1, c2, c3⟩ := cap S E
    exact h v H' H₀' Fv E' (c1 _ _ _ hc ro) nd fun a ha => ⟨(fr a ha).1, c3 a (fr a ha).2⟩
  | er z =>
    rw [q] at h
    obtain ⟨hc, h⟩ := h.cap_er
    intro cls d H' Hc E rx
    obtain ⟨H₀', E', c1, c2, c3⟩ := cap S E
    exact h cls d H' H₀' E' (c2 _ _ _ hc rx)
  | no =>
    rw [q] at h
    exact h.elim
def fCall (m : Bool) (Fn : List PV → R OV) (dps : List PV) (fas : Env → R (List PV)) : Env → R OV := fun ρ => (fas ρ).bind fun ps => capR m (Fn (ps ++ dps))
theorem qCall (Fo : FnOk X.prog X.w X.K X.mg X.base (L2N.CX X.prog X.w) k f fd ns (spP C.G Fn)) (hr : Room k X.A) (tk : L2N.Takes X W) (hm : X.mg x = some (.ref f)) (hk : PySem.W.keepIn X.K (.ref f) = true) (hb : Binds X.K fd ns ds) (hd : Vals dvs ds) (hp : ∀ H, Reps C.G H dps dvs)
    (ha : QA C W m X (e :: es) fas) (hg : Gl X x := by rfl) (hdb : (x == ("__debug__" : Str)) = false := by decide) (he : starEach (e :: es) X.env = (false, eval e X.env) :: starEach es X.env := by rfl) (hpl : (backTo pos (starEach es X.env)).any (·.1) = false := by rfl) :
    QF C W X (.Call (.Name x p) (e :: es) [] pos) (fCall m Fn dps fas) := by
  refine PE.imp (pe_callSD Fo hr hg hm hk hb hd (fun σ => L2N.passAt tk σ) ha hdb he hpl) fun σ H Q h => ?_
  show tAs C W m fas σ H fun vs H1 => spP C.G Fn (vs ++ dvs) H1 Q (WE W σ)
  rw [tF_iff] at h
  rw [tA_iff]
  obtain ⟨H₀, F, ρ, S, h⟩ := h
  unfold fCall at h
  rw [Goes.bind] at h
  refine ⟨H₀, F, ρ, S, h.imp fun ps _ h vs H1 H₁ E1 r1 => ?_⟩
  refine call_go (S.ext E1) (r1.append (hp _)) ((h.later E1).imp fun o _ h v H' H₀' Fv E ro nd fr => h v H' H₀' Fv (E1.trans E) ro nd fun a ha => ⟨Same.free E1.s (fr a ha).1, (fr a ha).2⟩)
theorem qCall0 (Fo : FnOk X.prog X.w X.K X.mg X.base (L2N.CX X.prog X.w) k f fd ns (spP C.G Fn)) (hr : Room k X.A) (tk : L2N.Takes X W) (hm : X.mg x = some (.ref f)) (hk : PySem.W.keepIn X.K (.ref f) = true) (hb : Binds X.K fd ns ds) (hd : Vals dvs ds) (hp : ∀ H, Reps C.G H dps dvs)
    (hg : Gl X x := by rfl) (hdb : (x == ("__debug__" : Str)) = false := by decide) : QF C W X (.Call (.Name x p) [] [] pos) (fCall true Fn dps aNil) := by
  refine ⟨fun pins s σ H Q I h => ?_⟩
  refine wpAny_Call_Name_kw (ld_glob I hg hm ?_ hdb)
  refine PySem.W.callWith_K0 I.kIn hk (run_fnSD (us := []) (vs := []) (E := WE W) Fo hr hb hd (L2N.passAt tk σ) I .nil ?_)
  rw [tF_iff] at h
  obtain ⟨H₀, F, ρ, S, h⟩ := h
  unfold fCall aNil at h
  rw [R.bind_ok] at h
  exact call_go (m := true) (qs := [] ++ dps) (vs := [] ++ dvs) S (Reps.nil.append (hp _)) h
/-! methods -/
def tMethS (Ca : Addr) (mth : Str) (sp : Sp) (dvs : List V) (E : L2.St → XK) (ta : TE) (t : TA) : TE := fun σ H Q => ta σ H fun x H1 => ∃ a dx fs, x = .ref a ∧ H1 a = some (.ins Ca dx fs) ∧ fs.lookup mth = none ∧ t σ H1 fun vs H2 => sp (x :: (vs ++ dvs)) H2 Q (E σ)
section
variable {CX : CXT} {sp : Sp} {E : L2.St → XK} {ta : TE} {t : TA}
theorem pe_methS {pl : Sem Bool} (he : PE X o ta) (c : Cls X.K Ca) (hm : Meth X.K Ca mth f) (F : FnOk X.prog X.w X.K X.mg X.base CX k f fd ns sp) (hr : Room k X.A) (hb : Binds X.K fd ns ds) (hd : Vals dvs ds) (hx : ∀ σ, PassesAt CX X σ (E σ)) (ha : PA X (e :: es) t)
    (hst : starEach (e :: es) X.env = (false, eval e X.env) :: starEach es X.env := by rfl) (hpl : (backTo pos (starEach es X.env)).any (·.1) = false := by rfl)
    (ht : eval (.Call (.Attribute o mth apos) (e :: es) [] pos) X.env = (do
      let ov ← eval o X.env
      standAt apos.atName
      let (f, first) ← holding [ov] (getMethod ov mth pl)
      callWith pos f first (backTo pos (starEach (e :: es) X.env)) (backToKw pos (keywordEach [] X.env))) := by rfl) :
    PE X (.Call (.Attribute o mth apos) (e :: es) [] pos) (tMethS Ca mth sp dvs E ta t) := by
  refine ⟨fun pins s σ H Q I h => ?_⟩
  refine PySem.W.methodCall_KW (pl := pl) (thn (he.run pins s σ H _ I h) fun u s1 ⟨x, H1, I1, rx, a, dx, fs, ex, ea, l, q⟩ => ?_) ht
  subst ex
  obtain rfl : u = Value.ref a := rx
  refine getmeth_ok I1 ea c hm l ?_
  refine PySem.W.callWith_K (first := [.ref a]) (h₀ := X.base) I.ok.mod.kin hm.kp (thn (ha.run pos pins s1 σ H1 _ I1 q) fun us s2 ⟨vs, H2, I2, r, q2⟩ => ⟨I2.kIn, ?_⟩) hst hpl
  exact run_fnSD (us := .ref a :: us) (vs := .ref a :: vs) F hr hb hd (hx σ) I2 (.cons rfl r) q2
theorem pe_methS0 {pl : Sem Bool} (he : PE X o ta) (c : Cls X.K Ca) (hm : Meth X.K Ca mth f) (F : FnOk X.prog X.w X.K X.mg X.base CX k f fd ns sp) (hr : Room k X.A) (hb : Binds X.K fd ns ds) (hd : Vals dvs ds) (hx : ∀ σ, PassesAt CX X σ (E σ))
    (ht : eval (.Call (.Attribute o mth apos) [] [] pos) X.env = (do
      let ov ← eval o X.env
      standAt apos.atName
      let (f, first) ← holding [ov] (getMethod ov mth pl)
      callWith pos f first (backTo pos (starEach [] X.env)) (backToKw pos (keywordEach [] X.env))) := by rfl) :
    PE X (.Call (.Attribute o mth apos) [] [] pos) (tMethS Ca mth sp dvs E ta tNil) := by
  refine ⟨fun pins s σ H Q I h => ?_⟩
  refine PySem.W.methodCall_KW (pl := pl) (thn (he.run pins s σ H _ I h) fun u s1 ⟨x, H1, I1, rx, a, dx, fs, ex, ea, l, q⟩ => ?_) ht
  subst ex
  obtain rfl : u = Value.ref a := rx
  refine getmeth_ok I1 ea c hm l ?_
  exact PySem.W.callWith_K0 (first := [.ref a]) I1.kIn hm.kp (run_fnSD (us := [.ref a]) (vs := [.ref a]) F hr hb hd (hx σ) I1 (.cons rfl .nil) q)
end
def fMeth (m : Bool) (c : Nat) (mth : Str) (Fn : List PV → R OV) (dps : List PV) (fo : Env → R PV) (fas : Env → R (List PV)) : Env → R OV := fun ρ => (fo ρ).bind fun p => match p with
  | .ins c' fs => if c' = c ∧ fs.lookup mth = none then (fas ρ).bind fun ps => capR m (Fn (.ins c' fs :: (ps ++ dps))) else .no
  | _ => .no
theorem meth_go {t : TA} (ht : t = tAs C W m fas ∨ (t = tNil ∧ fas = aNil)) (hp : ∀ H, Reps C.G H dps dvs) {Q : VK} (h : tF C W (fMeth m c mth Fn dps fo fas) σ H Q) : tMethS (C.G.CA c) mth (spP C.G Fn) dvs (WE W) (tE C W m fo) t σ H Q := by
  show tE C W m fo σ H fun x H1 => ∃ a dx fs, x = .ref a ∧ H1 a = some (.ins (C.G.CA c) dx fs) ∧ fs.lookup mth = none ∧ t σ H1 fun vs H2 => spP C.G Fn (x :: (vs ++ dvs)) H2 Q (WE W σ)
  rw [tF_iff] at h
  rw [tE_iff]
  obtain ⟨H₀, F, ρ, S, h⟩ := h
  unfold fMeth at h
  rw [Goes.bind] at h
  refine ⟨H₀, F, ρ, S, h.imp fun p _ hb v H1 H₁ E1 r1 => ?_⟩
  clear h
  cases p with
  | ins c' fs =>
    dsimp only at hb
    by_cases hc : c' = c ∧ fs.lookup mth = none
    · rw [if_pos hc] at hb
      obtain ⟨hc1, hc2⟩ := hc
      subst hc1
      have r1' := r1
      simp only [Rep] at r1'
      obtain ⟨a, dx, vs, e1, e2, e3⟩ := r1'
      have S1 := S.ext E1
      refine ⟨a, dx, vs, e1, md_H S1.z _ _ e2, e3.none_of hc2, ?_⟩
      rw [Goes.bind] at hb
      rcases ht with rfl | ⟨rfl, rfl⟩
      · rw [tA_iff]
        refine ⟨H₁, F, ρ, S1, (hb.later E1).imp fun ps _ h ws H2 H₂ E2 r2 => ?_⟩
        have E12 := E1.trans E2
        refine call_go (S1.ext E2) (Reps.cons (Rep.mono (md_ext E2) r1) (r2.append (hp _))) ((h.later E12).imp fun o _ h v H' H₀' Fv E ro nd fr => h v H' H₀' Fv (E12.trans E) ro nd fun a ha => ⟨Same.free E12.s (fr a ha).1, (fr a ha).2⟩)
      · have hb : Goes C.G W (capR m (Fn (.ins c' fs :: ([] ++ dps)))) σ H H₀ fun o => ∀ v H' H₀' Fv, Ext H₀ H H₀' H' → OwnR C.G H₀' H' o v Fv → Fv.Nodup → (∀ a ∈ Fv, H a = none ∧ H₀' a = none) → Q v H' := hb
        refine call_go S1 (qs := .ins c' fs :: ([] ++ dps)) (vs := v :: ([] ++ dvs)) (Reps.cons r1 (Reps.nil.append (hp _))) ((hb.later E1).imp fun o _ h v H' H₀' Fv E ro nd fr => h v H' H₀' Fv (E1.trans E) ro nd fun a ha => ⟨Same.free E1.s (fr a ha).1, (fr a ha).2⟩)
    · rw [if_neg hc] at hb
      exact hb.elim
  | _ => exact (show False from hb).elim
theorem qMeth {pl : Sem Bool} (Fo : FnOk X.prog X.w X.K X.mg X.base (L2N.CX X.prog X.w) k f fd ns (spP C.G Fn)) (hc : Cls X.K (C.G.CA c)) (hm : Meth X.K (C.G.CA c) mth f) (hr : Room k X.A) (tk : L2N.Takes X W) (hb : Binds X.K fd ns ds) (hd : Vals dvs ds) (hp : ∀ H, Reps C.G H dps dvs)
    (ho : QE C W m X o fo) (ha : QA C W m X (e :: es) fas)
    (hst : starEach (e :: es) X.env = (false, eval e X.env) :: starEach es X.env := by rfl) (hpl : (backTo pos (starEach es X.env)).any (·.1) = false := by rfl)
    (ht : eval (.Call (.Attribute o mth apos) (e :: es) [] pos) X.env = (do
      let ov ← eval o X.env
      standAt apos.atName
      let (f, first) ← holding [ov] (getMethod ov mth pl)
      callWith pos f first (backTo pos (starEach (e :: es) X.env)) (backToKw pos (keywordEach [] X.env))) := by rfl) :
    QF C W X (.Call (.Attribute o mth apos) (e :: es) [] pos) (fMeth m c mth Fn dps fo fas) :=
  PE.imp (pe_methS (E := WE W) (dvs := dvs) ho hc hm Fo hr hb hd (fun σ => L2N.passAt tk σ) ha hst hpl ht) fun σ H Q h => meth_go (.inl rfl) hp h
theorem qMeth0 {pl : Sem Bool} (Fo : FnOk X.prog X.w X.K X.mg X.base (L2N.CX X.prog X.w) k f fd ns (spP C.G Fn)) (hc : Cls X.K (C.G.CA c)) (hm : Meth X.K (C.G.CA c) mth f) (hr : Room k X.A) (tk : L2N.Takes X W) (hb : Binds X.K fd ns ds) (hd : Vals dvs ds) (hp : ∀ H, Reps C.G H dps dvs)
    (ho : QE C W m X o fo)
    (ht : eval (.Call (.Attribute o mth apos) [] [] pos) X.env = (do
      let ov ← eval o X.env
      standAt apos.atName
      let (f, first) ← holding [ov] (getMethod ov mth pl)
      callWith pos f first (backTo pos (starEach [] X.env)) (backToKw pos (keywordEach [] X.env))) := by rfl) :
    QF C W X (.Call (.Attribute o mth apos) [] [] pos) (fMeth m c mth Fn dps fo aNil) :=
  PE.imp (pe_methS0 (E := WE W) (dvs := dvs) ho hc hm Fo hr hb hd (fun σ => L2N.passAt tk σ) ht) fun σ H Q h => meth_go (.inr ⟨rfl, rfl⟩) hp h
/-! classes -/
def tMakeS (Ca : Addr) (sp : Sp) (dvs : List V) (E : L2.St → XK) (t : TA) : TE := fun σ H Q => t σ H fun vs H1 => ∀ x dx, H1 x = none → H1 dx = none → dx ≠ x →
  sp (.ref x :: (vs ++ dvs)) (upd (upd H1 dx (.own x)) x (.ins Ca dx [])) (fun v H2 => v = .non ∧ Q (.ref x) H2) (E σ)
section
variable {CX : CXT} {sp : Sp} {E : L2.St → XK} {t : TA}
theorem run_makeS {pins : List (Addr × Obj)} {s : Shared} {Q : VK} {us : List Value} {vs : List V} (M : Mk X.K Ca f) (F : FnOk X.prog X.w X.K X.mg X.base CX k f fd ns sp) (hr : Room (k + 1) X.A) (hb : Binds X.K fd ns ds) (hd : Vals dvs ds)
    (hx : PassesAt CX X σ (E σ)) (I : Inv X pins σ H s) (r : Vals vs us)
    (h : ∀ x dx, H x = none → H dx = none → dx ≠ x → sp (.ref x :: (vs ++ dvs)) (upd (upd H dx (.own x)) x (.ins Ca dx [])) (fun v H2 => v = .non ∧ Q (.ref x) H2) (E σ)) :
    wpAny (model X.prog X.w) X.A (call (.ref Ca) us) (EP X pins σ Q) X.xe s := by
  have hq := h (s.heap.objs.size + 1) s.heap.objs.size (I.hok.fresh (Nat.le_succ _)) (I.hok.fresh (Nat.le_refl _)) (Nat.ne_of_lt (Nat.lt_succ_self _))
  have I2 := Inv.made (C := Ca) I
  have r2 : Vals (V.ref (s.heap.objs.size + 1) :: (vs ++ dvs)) (Value.ref (s.heap.objs.size + 1) :: (us ++ ds)) := .cons rfl (r.append hd)
  have hl : (Value.ref (s.heap.objs.size + 1) :: us ++ ds).length = ns.length := by
    have e := r2.length
    rw [F.len _ _ _ _ hq] at e
    exact e.symm
  refine wpAny_call (make_map (f := f) I.kIn M.makes M.init (beq_iff_eq.mp M.fn) (codeAny_mono (F.run _ X.stack _ _ ⟨Value.ref (s.heap.objs.size + 1) :: us, []⟩ (Value.ref (s.heap.objs.size + 1) :: (us ++ ds)) _ _ (E σ) (hr.make Ca us [])
    (I2.env0.make Ca us []) (hb _ (Value.ref (s.heap.objs.size + 1) :: us) I2.kIn hl) r2 hq) fun r s' hq' => ?_))
  cases r with
  | error e => exact hx pins _ _ e s' I2 hq'
  | ok fl =>
    cases fl with
    | ret u =>
      obtain ⟨v, H', I3, rv, ev, q3⟩ := I2.after hq'
      subst ev
      exact ⟨rv, ⟨V.ref (s.heap.objs.size + 1), H', I3, rfl, q3⟩⟩
    | next => exact False.elim hq'
    | brk => exact False.elim hq'
    | cont => exact False.elim hq'
theorem pe_makeS (M : Mk X.K Ca f) (F : FnOk X.prog X.w X.K X.mg X.base CX k f fd ns sp) (hr : Room (k + 1) X.A) (hg : Gl X x) (hm : X.mg x = some (.ref Ca)) (hb : Binds X.K fd ns ds) (hd : Vals dvs ds) (hx : ∀ σ, PassesAt CX X σ (E σ))
    (ha : PA X (e :: es) t) (hdb : (x == ("__debug__" : Str)) = false := by decide) (he : starEach (e :: es) X.env = (false, eval e X.env) :: starEach es X.env := by rfl) (hpl : (backTo pos (starEach es X.env)).any (·.1) = false := by rfl) :
    PE X (.Call (.Name x p) (e :: es) [] pos) (tMakeS Ca sp dvs E t) := by
  refine ⟨fun pins s σ H Q I h => ?_⟩
  refine wpAny_Call_Name_kw (ld_glob I hg hm ?_ hdb)
  refine PySem.W.callWith_K (h₀ := X.base) I.ok.mod.kin M.kp (thn (ha.run pos pins s σ H _ I h) fun us s1 ⟨vs, H1, I1, r, q⟩ => ⟨I1.kIn, ?_⟩) he hpl
  exact run_makeS M F hr hb hd (hx σ) I1 r q
end
def fMake (m : Bool) (c : Nat) (FI : List PV → R (List (Str × OV))) (dps : List PV) (fas : Env → R (List PV)) : Env → R OV := fun ρ => (fas ρ).bind fun ps => capR m ((FI (ps ++ dps)).bind fun fs => .ok (.obj c fs))
theorem make_ext {x dx : Addr} {Ca : Addr} {H₀ H H₀' H' : Hp} (hx : H x = none) (hdx : H dx = none) (ne : dx ≠ x) (E : Ext H₀ (del (upd (upd H dx (.own x)) x (.ins Ca dx [])) x) H₀' (del H' x)) (hz : Same H₀ H) : Ext H₀ H H₀' H' := by
  have de : ∀ a, a ≠ x → a ≠ dx → del (upd (upd H dx (.own x)) x (.ins Ca dx [])) x a = H a := fun a h1 h2 => by
    unfold del
    rw [if_neg h1, upd_ne h1, upd_ne h2]
  have dn : ∀ a o, H a = some o → a ≠ x ∧ a ≠ dx := fun a o e => ⟨fun z => (by rw [z, hx] at e; cases e), fun z => (by rw [z, hdx] at e; cases e)⟩
  have un : ∀ a o, del H' x a = some o → H' a = some o := fun a o e => by
    unfold del at e
    split at e
    · cases e
    · exact e
  refine ⟨fun a o e => ?_, E.s0, fun a o e => un a o (E.z a o e), fun a ha => ?_⟩
  · obtain ⟨n1, n2⟩ := dn a o e
    exact un a o (E.s a o (by rw [de a n1 n2]; exact e))
  · refine E.n a ?_
    cases e : H a with
    | none => exact absurd e ha
    | some o =>
      obtain ⟨n1, n2⟩ := dn a o e
      rw [de a n1 n2, e]
      exact fun z => nomatch z
theorem qMake (Fo : FnOk X.prog X.w X.K X.mg X.base (L2N.CX X.prog X.w) k f fd ns (spI C.G c FI)) (M : Mk X.K (C.G.CA c) f) (hr : Room (k + 1) X.A) (tk : L2N.Takes X W) (hm : X.mg x = some (.ref (C.G.CA c))) (hb : Binds X.K fd ns ds) (hd : Vals dvs ds) (hp : ∀ H, Reps C.G H dps dvs)
    (ha : QA C W m X (e :: es) fas) (hg : Gl X x := by rfl) (hdb : (x == ("__debug__" : Str)) = false := by decide) (he : starEach (e :: es) X.env = (false, eval e X.env) :: starEach es X.env := by rfl) (hpl : (backTo pos (starEach es X.env)).any (·.1) = false := by rfl) :
    QF C W X (.Call (.Name x p) (e :: es) [] pos) (fMake m c FI dps fas) := by
  refine PE.imp (pe_makeS (E := WE W) M Fo hr hg hm hb hd (fun σ => L2N.passAt tk σ) ha hdb he hpl) fun σ H Q h => ?_
  show tAs C W m fas σ H fun vs H1 => ∀ x dx, H1 x = none → H1 dx = none → dx ≠ x → spI C.G c FI (.ref x :: (vs ++ dvs)) (upd (upd H1 dx (.own x)) x (.ins (C.G.CA c) dx [])) (fun v H2 => v = .non ∧ Q (.ref x) H2) (WE W σ)
  rw [tF_iff] at h
  rw [tA_iff]
  obtain ⟨H₀, F, ρ, S, h⟩ := h
  unfold fMake at h
  rw [Goes.bind] at h
  refine ⟨H₀, F, ρ, S, h.imp fun ps _ h vs H1 H₁ E1 r1 x dx hx hdx ne => ?_⟩
  have S1 := S.ext E1
  have zm : Same (md m H₁ H1 F) H1 := md_H S1.z
  refine ⟨x, dx, vs ++ dvs, md m H₁ H1 F, ps ++ dps, rfl, upd_same, Same.free zm hx, fun a o q => ?_, r1.append (hp _), ?_⟩
  · have n1 : a ≠ x := fun z => by rw [z, Same.free zm hx] at q; cases q
    have n2 : a ≠ dx := fun z => by rw [z, Same.free zm hdx] at q; cases q
    rw [upd_ne n1, upd_ne n2]
    exact zm a o q
  · cases q : FI (ps ++ dps) with
    | ok fs =>
      rw [q, R.bind_ok] at h
      obtain ⟨hc, h⟩ := h.cap_ok
      intro H' Hc Fv E ro nd fr
      have E2 := make_ext hx hdx ne E zm
      obtain ⟨H₀', E', c1, c2, c3⟩ := cap S1 E2
      refine ⟨rfl, h _ H' H₀' Fv (E1.trans E') (c1 _ _ _ hc ro) nd fun a ha => ⟨?_, c3 a (fr a ha).2⟩⟩
      refine Same.free E1.s ?_
      rcases (fr a ha).1 with z | z
      · rw [z]; exact hx
      · by_cases n1 : a = x
        · rw [n1]; exact hx
        · rw [upd_ne n1] at z
          by_cases n2 : a = dx
          · rw [n2]; exact hdx
          · rw [upd_ne n2] at z
            exact z
    | er z =>
      rw [q, R.bind_er] at h
      obtain ⟨hc, h⟩ := h.cap_er
      intro cls d H' Hc E rx
      have E2 := make_ext hx hdx ne E zm
      obtain ⟨H₀', E', c1, c2, c3⟩ := cap S1 E2
      exact h cls d H' H₀' (E1.trans E') (c2 _ _ _ hc rx)
    | no =>
      rw [q] at h
      exact h.elim
end
end L3

end
section
/-! L3. 7: statements -/
namespace L3
open PySem PySem.Spec PyProof.Rows L2
/-- how a block ends -/
inductive RS where
  | nx (ρ : Env) | rt (o : OV) | bk (ρ : Env) | ct (ρ : Env) | er (x : PX) (ρ : Env) | no
def R.to {α : Type} (r : R α) (ρ : Env) (k : α → RS) : RS := match r with
  | .ok a => k a
  | .er x => .er x ρ
  | .no => .no
@[simp] theorem R.to_ok {α : Type} (a : α) (ρ : Env) (k : α → RS) : (R.ok a).to ρ k = k a := rfl
@[simp] theorem R.to_er {α : Type} (x : PX) (ρ : Env) (k : α → RS) : (R.er x).to ρ k = .er x ρ := rfl
@[simp] theorem R.to_no {α : Type} (ρ : Env) (k : α → RS) : (R.no).to ρ k = .no := rfl
def Ret (C : Fc) (D : VK) (o : OV) : Prop := ∀ v H H₀ Fv, Ext C.Hz C.He H₀ H → OwnR C.G H₀ H o v Fv → Fv.Nodup → (∀ a ∈ Fv, C.He a = none ∧ H₀ a = none) → D v H
def Aft (C : Fc) (W : WX) (D : Ends) : RS → Prop
  | .nx ρ => ∀ σ H H₀ F, SR C H₀ F ρ σ H → D.nx σ H
  | .rt o => Ret C D.rt o
  | .bk ρ => ∀ σ H H₀ F, SR C H₀ F ρ σ H → D.bk σ H
  | .ct ρ => ∀ σ H H₀ F, SR C H₀ F ρ σ H → D.ct σ H
  | .er x ρ => ∀ cls d σ H H₀ F, SR C H₀ F ρ σ H → RepX C.G H₀ x cls d → W cls d σ H
  | .no => False
def tS (C : Fc) (W : WX) (f : Env → RS) : TS := fun D σ H => ∃ H₀ F ρ, SR C H₀ F ρ σ H ∧ Aft C W D (f ρ)
abbrev QS (C : Fc) (W : WX) (X : Cx) (st : Stmt) (f : Env → RS) : Prop := PS X st (tS C W f)
abbrev QSs (C : Fc) (W : WX) (X : Cx) (sts : List Stmt) (f : Env → RS) : Prop := PSs X sts (tS C W f)
/-! ### values that may be moved -/
def tM (C : Fc) (W : WX) (f : Env → R (OV × Env)) : TE := fun σ H Q => ∃ H₀ F ρ, SR C H₀ F ρ σ H ∧ Goes C.G W (f ρ) σ H H₀ fun q => ∀ v H' H₀' Fo Fr, Ext H₀ H H₀' H' → SR C H₀' Fr q.2 σ H' → OwnR C.G H₀' H' q.1 v Fo → (Fo ++ Fr).Nodup → (∀ a ∈ Fo, C.He a = none ∧ H₀' a = none) → Q v H'
abbrev QM (C : Fc) (W : WX) (X : Cx) (e : Expr) (f : Env → R (OV × Env)) : Prop := PE X e (tM C W f)
def mSh (f : Env → R PV) : Env → R (OV × Env) := fun ρ => (f ρ).bind fun p => .ok (.sh p, ρ)
def mFr (f : Env → R OV) : Env → R (OV × Env) := fun ρ => (f ρ).bind fun o => .ok (o, ρ)
def mMv (i : Nat) : Env → R (OV × Env) := fun ρ => match ρ[i]? with
  | some (some o) => .ok (o, ρ.set i none)
  | _ => .no
section
variable {G : Gc} {H₀ H : Hp}
/-- a slot's value, and the rest -/
theorem EnvR.take : ∀ {ρ : Env} {σ : L2.St} {F : List Addr} {i : Nat} {o : OV}, EnvR G H₀ H ρ σ F → ρ[i]? = some (some o) → F.Nodup → ∃ v Fo Fr, σ[i]? = some (some v) ∧ OwnR G H₀ H o v Fo ∧ EnvR G H₀ H (ρ.set i none) σ Fr ∧ (Fo ++ Fr).Nodup ∧ (∀ a, a ∈ Fo ∨ a ∈ Fr → a ∈ F)
  | [], σ, F, i, o, h, e, _ => by simp at e
  | none :: ρ, σ, F, 0, o, h, e, _ => by simp at e
  | none :: ρ, σ, F, i + 1, o, h, e, nd => by
    obtain ⟨x, τ, h1, h2⟩ := h
    subst h1
    obtain ⟨v, Fo, Fr, e1, e2, e3, e4, e5⟩ := EnvR.take (i := i) h2 (by simpa using e) nd
    exact ⟨v, Fo, Fr, by simpa using e1, e2, ⟨x, τ, rfl, e3⟩, e4, e5⟩
  | some o' :: ρ, σ, F, 0, o, h, e, nd => by
    obtain ⟨v, τ, F1, F2, h1, h2, h3, h4⟩ := h
    subst h1 h2
    simp at e
    subst e
    exact ⟨v, F1, F2, rfl, h3, ⟨_, τ, rfl, h4⟩, nd, fun a ha => List.mem_append.mpr ha⟩
  | some o' :: ρ, σ, F, i + 1, o, h, e, nd => by
    obtain ⟨v, τ, F1, F2, h1, h2, h3, h4⟩ := h
    subst h1 h2
    obtain ⟨m1, m2, m3⟩ := List.nodup_append.mp nd
    obtain ⟨w, Fo, Fr, e1, e2, e3, e4, e5⟩ := EnvR.take (i := i) h4 (by simpa using e) m2
    refine ⟨w, Fo, F1 ++ Fr, by simpa using e1, e2, ⟨v, τ, F1, Fr, rfl, rfl, h3, e3⟩, ?_, fun a ha => ?_⟩
    · obtain ⟨k1, k2, k3⟩ := List.nodup_append.mp e4
      refine List.nodup_append.mpr ⟨k1, List.nodup_append.mpr ⟨m1, k2, fun a ha b hb e => m3 a ha b (e5 b (.inr hb)) e⟩, fun a ha b hb e => ?_⟩
      rcases List.mem_append.mp hb with z | z
      · exact m3 b z a (e5 a (.inl ha)) e.symm
      · exact k3 a ha b z e
    · rcases ha with z | z
      · exact List.mem_append_right _ (e5 a (.inl z))
      · rcases List.mem_append.mp z with z | z
        · exact List.mem_append_left _ z
        · exact List.mem_append_right _ (e5 a (.inr z))
end
section
variable {C : Fc} {W : WX} {D : Ends} {m : Bool} {X : Cx} {e c : Expr} {es : List Expr} {a b : List Stmt} {st : Stmt} {pos p : Pos} {σ : L2.St} {H H₀ : Hp} {F : List Addr} {ρ : Env} {x : Str} {i : Nat}
theorem SR.entry (S : SR C H₀ F ρ σ H) : Ext C.Hz C.He H₀ H := ⟨S.e, S.hz, S.z, S.n⟩
theorem Aft.to {α : Type} {r : R α} {k : α → RS} (S : SR C H₀ F ρ σ H) (h : Aft C W D (r.to ρ k)) : Goes C.G W r σ H H₀ fun a => Aft C W D (k a) := by
  cases r with
  | ok a => exact h
  | er x => exact fun cls d H' H₀' E rx => h cls d σ H' H₀' F (S.ext E) rx
  | no => exact h
theorem tM_iff {f : Env → R (OV × Env)} {Q : VK} : tM C W f σ H Q ↔ ∃ H₀ F ρ, SR C H₀ F ρ σ H ∧ Goes C.G W (f ρ) σ H H₀ fun q => ∀ v H' H₀' Fo Fr, Ext H₀ H H₀' H' → SR C H₀' Fr q.2 σ H' → OwnR C.G H₀' H' q.1 v Fo → (Fo ++ Fr).Nodup → (∀ a ∈ Fo, C.He a = none ∧ H₀' a = none) → Q v H' := Iff.rfl
theorem qmSh {f : Env → R PV} (h : QE C W true X e f) : QM C W X e (mSh f) := by
  refine PE.imp h fun σ H Q h => ?_
  rw [tM_iff] at h
  rw [tE_iff]
  obtain ⟨H₀, F, ρ, S, h⟩ := h
  unfold mSh at h
  rw [Goes.bind] at h
  exact ⟨H₀, F, ρ, S, h.imp fun p _ h v H1 H₁ E1 r1 => h v H1 H₁ [] F E1 (S.ext E1) (by simp only [OwnR]; exact ⟨r1, trivial⟩) S.nd fun a ha => (by cases ha)⟩
theorem qmFr {f : Env → R OV} (h : QF C W X e f) : QM C W X e (mFr f) := by
  refine PE.imp h fun σ H Q h => ?_
  rw [tM_iff] at h
  rw [tF_iff]
  obtain ⟨H₀, F, ρ, S, h⟩ := h
  unfold mFr at h
  rw [Goes.bind] at h
  refine ⟨H₀, F, ρ, S, h.imp fun o _ h v H1 H₁ Fv E1 r1 nd fr => h v H1 H₁ Fv F E1 (S.ext E1) r1 ?_ fun a ha => ⟨Same.free S.e (fr a ha).1, (fr a ha).2⟩⟩
  refine List.nodup_append.mpr ⟨nd, S.nd, fun a ha b hb e => ?_⟩
  subst e
  obtain ⟨u, z⟩ := S.env.there a hb
  rw [(fr a ha).1] at z
  cases z
theorem qmMv (i : Nat) {x : Str} (hN : X.N[i]? = some x := by rfl) (hv : Vis X.env.scope x := by first | exact Or.inl rfl | exact Or.inr (Or.inl rfl) | exact Or.inr (Or.inr rfl)) (hd : (x == ("__debug__" : Str)) = false := by decide)
    (hcd : (x == ("__classdict__" : Str)) = false := by decide) : QM C W X (.Name x pos) (mMv i) := by
  refine PE.imp (pe_var hN hv hd hcd) fun σ H Q h => ?_
  obtain ⟨H₀, F, ρ, S, h⟩ := h
  unfold mMv at h
  cases e : ρ[i]? with
  | none => rw [e] at h; exact h.elim
  | some o =>
    rw [e] at h
    cases o with
    | none => exact h.elim
    | some o =>
      obtain ⟨v, Fo, Fr, e1, e2, e3, e4, e5⟩ := S.env.take e S.nd
      exact ⟨v, e1, h v H H₀ Fo Fr (Ext.refl S.z) ⟨S.e, S.z, S.n, S.hz, e3, (List.nodup_append.mp e4).2.1, fun a ha => S.fr a (e5 a (.inr ha)), S.fx, S.hx⟩ e2 e4 fun a ha => S.fr a (e5 a (.inl ha))⟩
/-! ### blocks -/
def sNx : Env → RS := fun ρ => .nx ρ
def sSeq (f g : Env → RS) : Env → RS := fun ρ => match f ρ with
  | .nx ρ' => g ρ'
  | r => r
theorem qNil : QSs C W X [] sNx := PSs.imp pss_nil fun D σ H ⟨H₀, F, ρ, S, h⟩ => h σ H H₀ F S
theorem qCons {f g : Env → RS} (h1 : QS C W X st f) (h2 : QSs C W X a g) : QSs C W X (st :: a) (sSeq f g) := by
  refine PSs.imp (pss_cons h1 h2) fun D σ H h => ?_
  obtain ⟨H₀, F, ρ, S, h⟩ := h
  refine ⟨H₀, F, ρ, S, ?_⟩
  unfold sSeq at h
  cases q : f ρ with
  | nx ρ' =>
    rw [q] at h
    exact fun σ' H' H₀' F' S' => ⟨H₀', F', ρ', S', h⟩
  | rt o => rw [q] at h; exact h
  | bk ρ' => rw [q] at h; exact h
  | ct ρ' => rw [q] at h; exact h
  | er x ρ' => rw [q] at h; exact h
  | no => rw [q] at h; exact h.elim
theorem qLast {f : Env → RS} (h1 : QS C W X st f) : QSs C W X [st] f := pss_one h1
def sBk : Env → RS := fun ρ => .bk ρ
def sCt : Env → RS := fun ρ => .ct ρ
theorem qPass : QS C W X (.Pass pos) sNx := PS.imp ps_pass fun D σ H ⟨H₀, F, ρ, S, h⟩ => h σ H H₀ F S
theorem qBreak : QS C W X (.Break pos) sBk := PS.imp ps_break fun D σ H ⟨H₀, F, ρ, S, h⟩ => h σ H H₀ F S
theorem qContinue : QS C W X (.Continue pos) sCt := PS.imp ps_continue fun D σ H ⟨H₀, F, ρ, S, h⟩ => h σ H H₀ F S
theorem qDoc {x j pos pos'} : QS C W X (.Expr (.Constant (.str x) j pos) pos') sNx := PS.imp ps_doc fun D σ H ⟨H₀, F, ρ, S, h⟩ => h σ H H₀ F S
def sNo : Env → RS := fun _ => .no
theorem qNo : QS C W X st sNo := PS.imp ps_never fun D σ H ⟨H₀, F, ρ, S, h⟩ => h.elim
theorem qsNo : QSs C W X a sNo := PSs.imp pss_never fun D σ H ⟨H₀, F, ρ, S, h⟩ => h.elim
/-- slots that nothing asks any more are forgotten -/
theorem SR.drops : ∀ (vs : List Nat) {F : List Addr}, SR C H₀ F ρ σ H → ∃ F', SR C H₀ F' (wipeE ρ vs) σ H
  | [], F, S => ⟨F, S⟩
  | v :: vs, F, S => by
    obtain ⟨F1, S1⟩ := SR.drops vs S
    exact S1.drop v
def sFg (vs : List Nat) (f : Env → RS) : Env → RS := fun ρ => f (wipeE ρ vs)
theorem qFg (vs : List Nat) {f : Env → RS} (h : QSs C W X a f) : QSs C W X a (sFg vs f) := PSs.imp h fun D σ H ⟨H₀, F, ρ, S, h⟩ => by
  obtain ⟨F', S'⟩ := S.drops vs
  exact ⟨H₀, F', _, S', h⟩
/-- a slot is frozen -/
def frz (i : Nat) (ρ : Env) : Env := match ρ[i]? with
  | some (some o) => ρ.set i (some (.sh o.pv))
  | _ => ρ
theorem set_set_none {ρ : Env} {i : Nat} {o : Option OV} : (ρ.set i none).set i o = ρ.set i o := by simp
theorem SR.frz (S : SR C H₀ F ρ σ H) (i : Nat) : ∃ H₀' F', SR C H₀' F' (L3.frz i ρ) σ H := by
  unfold L3.frz
  cases e : ρ[i]? with
  | none => exact ⟨H₀, F, S⟩
  | some o =>
    cases o with
    | none => exact ⟨H₀, F, S⟩
    | some o =>
      obtain ⟨v, Fo, Fr, e1, e2, e3, e4, e5⟩ := S.env.take e S.nd
      obtain ⟨n1, n2, n3⟩ := List.nodup_append.mp e4
      have fo : ∀ a ∈ Fo, C.He a = none ∧ H₀ a = none := fun a ha => S.fr a (e5 a (.inl ha))
      have z0 : Same H₀ (vw H₀ H Fo) := same_vw fun a ha => (fo a ha).2
      have r : Rep C.G (vw H₀ H Fo) o.pv v := OwnR.rep z0 (fun a ha => by unfold vw; rw [if_pos ha]) e2
      have er : EnvR C.G (vw H₀ H Fo) H (ρ.set i none) σ Fr := EnvR.mono z0 (fun a _ => rfl) e3
      have S1 : SR C (vw H₀ H Fo) Fr (ρ.set i none) σ H := by
        refine ⟨S.e, vw_same S.z, fun a ha => ?_, S.hz.trans z0, er, n2, fun a ha => ⟨(S.fr a (e5 a (.inr ha))).1, ?_⟩, S.fx, S.hx.trans z0⟩
        · unfold vw
          rw [if_neg fun z => ha (fo a z).1]
          exact S.n a ha
        · unfold vw
          rw [if_neg fun z => n3 a z a ha rfl]
          exact (S.fr a (e5 a (.inr ha))).2
      obtain ⟨F', p1, p2, p3⟩ := EnvR.put (o := .sh o.pv) (v := v) (Fv := []) i S1.env (by simp only [OwnR]; exact ⟨r, trivial⟩) S1.nd List.nodup_nil fun a ha => (by cases ha)
      rw [set_set_none] at p1
      have es : σ.set i (some v) = σ := by
        apply List.ext_getElem?
        intro j
        by_cases q : i = j
        · subst q
          rw [e1]
          have hl : i < σ.length := (List.getElem?_eq_some_iff.mp e1).1
          rw [List.getElem?_set_self hl]
        · rw [List.getElem?_set_ne q]
      rw [es] at p1
      exact ⟨_, F', S1.e, S1.z, S1.n, S1.hz, p1, p2, fun a ha => (p3 a ha).elim (S1.fr a) fun z => (by cases z), S1.fx, S1.hx⟩
def sFz (i : Nat) (f : Env → RS) : Env → RS := fun ρ => f (frz i ρ)
theorem qFzS (i : Nat) {f : Env → RS} (h : QSs C W X a f) : QSs C W X a (sFz i f) := PSs.imp h fun D σ H ⟨H₀, F, ρ, S, h⟩ => by
  obtain ⟨H₀', F', S'⟩ := S.frz i
  exact ⟨H₀', F', _, S', h⟩
/-! ### if, assignments, return, raise -/
def sIf (fc : Env → R Bool) (f g : Env → RS) : Env → RS := fun ρ => (fc ρ).to ρ fun k => if k = true then f ρ else g ρ
theorem qIfS {fc : Env → R Bool} {f g : Env → RS} (hc : QT C W X c fc) (ha : QSs C W X a f) (hb : QSs C W X b g) : QS C W X (.If c a b pos) (sIf fc f g) := by
  refine PS.imp (ps_if hc ha hb) fun D σ H h => ?_
  show tTt C W fc σ H fun k H1 => if k = true then tS C W f D σ H1 else tS C W g D σ H1
  rw [tT_iff]
  obtain ⟨H₀, F, ρ, S, h⟩ := h
  refine ⟨H₀, F, ρ, S, (Aft.to S h).imp fun k _ h H1 H₁ E1 => ?_⟩
  cases k with
  | true => exact ⟨H₁, F, ρ, S.ext E1, h⟩
  | false => exact ⟨H₁, F, ρ, S.ext E1, h⟩
def sSet (i : Nat) (f : Env → R (OV × Env)) : Env → RS := fun ρ => (f ρ).to ρ fun q => .nx (q.2.set i (some q.1))
theorem set_go {f : Env → R (OV × Env)} (hx : fxOk C i) (h : tS C W (sSet i f) D σ H) : tM C W f σ H fun v H1 => gName i v σ H1 D.nx := by
  obtain ⟨H₀, F, ρ, S, h⟩ := h
  refine ⟨H₀, F, ρ, S, (Aft.to S h).imp fun q _ h v H' H₀' Fo Fr E S' r nd fr => ?_⟩
  obtain ⟨n1, n2, n3⟩ := List.nodup_append.mp nd
  obtain ⟨F', S2⟩ := S'.put r n1 (fun a ha => ⟨(fr a ha).1, (fr a ha).2, fun z => n3 a ha a z rfl⟩) hx
  exact h _ H' H₀' F' S2
theorem qSet {f : Env → R (OV × Env)} (hx : fxOk C i) (hN : X.N.Nodup) (he : QM C W X e f) (hi : X.N[i]? = some x := by rfl) (hl : Loc X.env.scope x := by first | exact Or.inl rfl | exact Or.inr rfl) (hs : swapsWith e (some (.Name x p)) pos.line X.env = pure false := by rfl)
    (hf : X.fn x = true ∨ X.env.scope.names.lookup x = some .local := by first | exact .inl rfl | exact .inr rfl) : QS C W X (.Assign [.Name x p] e pos) (sSet i f) :=
  PS.imp (ps_set hN hi hl he hs hf) fun D σ H h => set_go hx h
/-- x = [.. for ..], on one line -/
theorem qSetLc {elt iter : Expr} {ifs : List Expr} {scope : Scope} {own : List (Str × Nat)} {spos : Pos} {T : Tg} {f : Env → R (List PV)} {t : Env → R Bool} {el : Env → R OV} {tg : Expr} (hx : fxOk C i) (hc : X.calm = true) (hN : X.N.Nodup) (hi : QI C W true X tg iter f) (ok : BlkOk X.N X.env.scope scope own) (hvs : ∀ i ∈ T.slots, i ∈ own.map (·.2)) (hfx : ∀ i ∈ own.map (·.2), fxOk C i)
    (hg : ∃ g : TG, (∀ (s : Shared) (H : Hp) (c : Addr) (cl : List (Str × Addr)) (fp : List Addr), PG (X.blk s H scope (compEnvC scope cl c X.env) fp) tg g) ∧ ∀ (p : PV) (v : V) (H₀ : Hp) (F : List Addr) (ρ ρ' : Env) (σ : L2.St) (H : Hp) (Q : L2.St → Hp → Prop), SR C H₀ F ρ σ H → Rep C.G H₀ p v → tgS T p ρ = .ok ρ' → (∀ σ' F', SR C H₀ F' ρ' σ' H → (∀ vs, (∀ i ∈ T.slots, i ∈ vs) → wipe σ' vs = wipe σ vs) → Q σ' H) → g v σ H Q)
    (ht : ∀ (s : Shared) (H : Hp) (c : Addr) (cl : List (Str × Addr)) (fp : List Addr), PTs (X.blk s H scope (compEnvC scope cl c X.env) fp) ifs (tTt C W0 t))
    (he : ∀ (s : Shared) (H : Hp) (c : Addr) (cl : List (Str × Addr)) (fp : List Addr), QF C W0 (X.blk s H scope (compEnvC scope cl c X.env) fp) elt el)
    (hsw : swapsWith (.ListComp elt [⟨tg, iter, ifs, 0⟩] scope pos) (some (.Name x p)) spos.line X.env = pure true) (hxi : X.N[i]? = some x := by rfl) (hl : X.env.scope.names.lookup x = some .local := by rfl) (hs : ∀ x, foldedSetIterable iter X.env x = pure x := by intro _; rfl) :
    QS C W X (.Assign [.Name x p] (.ListComp elt [⟨tg, iter, ifs, 0⟩] scope pos) spos) (sSet i (mFr (fLc T (own.map (·.2)) f t el))) := by
  obtain ⟨g, hg1, hg2⟩ := hg
  refine PS.imp (ps_setLc hc hN hxi hl hsw hi ok hg1 ht he hs) fun D σ H h => ?_
  refine lc_go hvs hfx hg2 ?_
  obtain ⟨H₀, F, ρ, S, h⟩ := set_go hx h
  unfold mFr at h
  rw [Goes.bind] at h
  rw [tF_iff]
  refine ⟨H₀, F, ρ, S, h.imp fun o _ h v H1 H₁ Fv E1 r1 nd fr => h v H1 H₁ Fv F E1 (S.ext E1) r1 ?_ fun a ha => ⟨Same.free S.e (fr a ha).1, (fr a ha).2⟩⟩
  refine List.nodup_append.mpr ⟨nd, S.nd, fun a ha b hb e => ?_⟩
  subst e
  obtain ⟨u, z⟩ := S.env.there a hb
  rw [(fr a ha).1] at z
  cases z
/-- any target that takes what is frozen -/
def sTg (T : Tg) (f : Env → R PV) : Env → RS := fun ρ => (f ρ).to ρ fun p => (tgS T p ρ).to ρ fun ρ' => .nx ρ'
theorem qTg {tg : Expr} {T : Tg} {f : Env → R PV} (he : QE C W true X e f) (hg : QG C X tg T) (hs : swapsWithSole [tg] e pos.line X.env = pure false := by rfl) (hw : swappedStores [tg] e X.env = pure none := by rfl)
    (h1 : (assignEach [tg] X.env).map (·.2) = [assign tg X.env] := by rfl) : QS C W X (.Assign [tg] e pos) (sTg T f) := by
  obtain ⟨t, g1, g2⟩ := hg.ex
  refine PS.imp (ps_asg he g1 hs hw h1) fun D σ H h => ?_
  show tE C W true f σ H fun v H1 => t v σ H1 D.nx
  rw [tE_iff]
  obtain ⟨H₀, F, ρ, S, h⟩ := h
  refine ⟨H₀, F, ρ, S, (Aft.to S h).imp fun q _ h v H' H₀' E r => ?_⟩
  have S1 := S.ext E
  cases et : tgS T q ρ with
  | ok ρ' =>
    rw [et] at h
    exact g2 q v H₀' F ρ ρ' σ H' D.nx S1 r et fun σ' F' S2 _ => h σ' H' H₀' F' S2
  | er x => exact absurd et tgS_calm
  | no => rw [et] at h; exact h.elim
/-- a, b = e, f -/
def sPar (i j : Nat) (f : Env → R (List PV)) : Env → RS := fun ρ => (f ρ).to ρ fun ps => match ps with
  | [p, q] => .nx ((ρ.set i (some (.sh p))).set j (some (.sh q)))
  | _ => .no
theorem qPar {j : Nat} {y : Str} {e1 e2 : Expr} {px py pt : Pos} {kt k2 pt2} {f : Env → R (List PV)} (hc : X.calm = true) (hx : fxOk C i) (hy : fxOk C j) (hN : X.N.Nodup) (ha : QA C W true X [e1, e2] f) (hi : X.N[i]? = some x := by rfl) (hj : X.N[j]? = some y := by rfl) (hij : i ≠ j := by decide)
    (hlx : X.env.scope.names.lookup x = some .local := by rfl) (hly : X.env.scope.names.lookup y = some .local := by rfl)
    (hw : swappedStores [.Tuple [.Name x px, .Name y py] kt pt] (.Tuple [e1, e2] k2 pt2) X.env = pure (some [x, y]) := by rfl)
    (hs : swapsWithSole [.Tuple [.Name x px, .Name y py] kt pt] (.Tuple [e1, e2] k2 pt2) pos.line X.env = pure false := by rfl) :
    QS C W X (.Assign [.Tuple [.Name x px, .Name y py] kt pt] (.Tuple [e1, e2] k2 pt2) pos) (sPar i j f) := by
  refine PS.imp (ps_par hc hN hi hj hij hlx hly ha hw hs) fun D σ H h => ?_
  show tAs C W true f σ H fun vs H1 => ∃ v w, vs = [v, w] ∧ D.nx ((σ.set i (some v)).set j (some w)) H1
  rw [tA_iff]
  obtain ⟨H₀, F, ρ, S, h⟩ := h
  refine ⟨H₀, F, ρ, S, (Aft.to S h).imp fun ps _ h vs H' H₀' E r => ?_⟩
  have S1 := S.ext E
  match ps, h, r with
  | [p, q], h, r =>
    obtain ⟨v, w, ev, r1, r2⟩ := reps2 r
    obtain ⟨F1, S2⟩ := S1.sh (p := p) r1 hx
    obtain ⟨F2, S3⟩ := S2.sh (p := q) r2 hy
    exact ⟨v, w, ev, h _ _ _ _ S3⟩
def sRt (f : Env → R (OV × Env)) : Env → RS := fun ρ => (f ρ).to ρ fun q => .rt q.1
theorem qRt {f : Env → R (OV × Env)} (he : QM C W X e f) : QS C W X (.Return (some e) pos) (sRt f) := by
  refine PS.imp (ps_ret he) fun D σ H h => ?_
  show tM C W f σ H D.rt
  rw [tM_iff]
  obtain ⟨H₀, F, ρ, S, h⟩ := h
  refine ⟨H₀, F, ρ, S, (Aft.to S h).imp fun q _ h v H' H₀' Fo Fr E S' r nd fr => ?_⟩
  exact h v H' H₀' Fo S'.entry r (List.nodup_append.mp nd).1 fr
def sRtN : Env → RS := fun _ => .rt (.sh .non)
theorem qRtN : QS C W X (.Return none pos) sRtN := PS.imp ps_retN fun D σ H ⟨H₀, F, ρ, S, h⟩ => h .non H H₀ [] S.entry (by simp [OwnR, Rep]) List.nodup_nil fun a ha => (by cases ha)
def sDo {α : Type} (f : Env → R α) : Env → RS := fun ρ => (f ρ).to ρ fun _ => .nx ρ
theorem qDo {f : Env → R PV} (he : QE C W m X e f) (hs : swapsWith e none pos.line X.env = pure false := by rfl) : QS C W X (.Expr e pos) (sDo f) := by
  refine PS.imp (ps_expr he hs) fun D σ H h => ?_
  show tE C W m f σ H fun _ H1 => D.nx σ H1
  rw [tE_iff]
  obtain ⟨H₀, F, ρ, S, h⟩ := h
  exact ⟨H₀, F, ρ, S, (Aft.to S h).imp fun p _ h v H' H₀' E r => h σ H' H₀' F (S.ext E)⟩
theorem qDoF {f : Env → R OV} (he : QF C W X e f) (hs : swapsWith e none pos.line X.env = pure false := by rfl) : QS C W X (.Expr e pos) (sDo f) := by
  refine PS.imp (ps_expr he hs) fun D σ H h => ?_
  show tF C W f σ H fun _ H1 => D.nx σ H1
  rw [tF_iff]
  obtain ⟨H₀, F, ρ, S, h⟩ := h
  exact ⟨H₀, F, ρ, S, (Aft.to S h).imp fun p _ h v H' H₀' Fv E r nd fr => h σ H' H₀' F (S.ext E)⟩
/-- raise of an own class whose __init__ keeps one thing -/
def sRz (c : Nat) (fl : Str) (f : Env → R PV) : Env → RS := fun ρ => (f ρ).to ρ fun p => .er ⟨c, [(fl, p)]⟩ ρ
theorem qRz {c : Nat} {fl : Str} {fI : Addr} {f : Env → R PV} {p2 : Pos} (hc : X.calm = true) (tk : L2N.Takes X W) (T : X3.SupC X.prog X.K (C.G.CA c) fI fl) (gC : X.mg x = some (.ref (C.G.CA c))) (kC : PySem.W.keepIn X.K (.ref (C.G.CA c)) = true) (rs : Raises X (.ref (C.G.CA c))) (hr : X.A.depth + 1 < recursionLimit) (ha : QE C W true X e f) (hg : Gl X x := by rfl)
    (hdb : (x == ("__debug__" : Str)) = false := by decide) (he : starEach (e :: []) X.env = (false, eval e X.env) :: starEach [] X.env := by rfl) (hpl : (backTo p (starEach [] X.env)).any (·.1) = false := by rfl) : QS C W X (.Raise (some (.Call (.Name x p2) [e] [] p)) none pos) (sRz c fl f) := by
  refine PS.imp (L2N.ps_raise hc tk (X3.pmk_sup (k := 0) T gC kC rs hr ha hg hdb he hpl)) fun D σ H h => ?_
  show tE C W true f σ H fun v H1 => ∀ d, H1 d = none → W (.ref (C.G.CA c)) (some d) σ (upd H1 d (.xd [(fl, v)]))
  rw [tE_iff]
  obtain ⟨H₀, F, ρ, S, h⟩ := h
  refine ⟨H₀, F, ρ, S, (Aft.to S h).imp fun p _ h v H' H₀' E r d hd => ?_⟩
  have S1 := S.ext E
  have E2 : Ext H₀' H' (upd H₀' d (.xd [(fl, v)])) (upd H' d (.xd [(fl, v)])) := ext_new S1.z hd
  have r : Rep C.G H₀' p v := r
  refine h _ _ σ _ _ F (S1.ext E2) ⟨rfl, .inr ⟨d, _, rfl, upd_same, ?_⟩⟩
  simp only [RepF]
  exact ⟨v, [], rfl, Rep.mono E2.s0 r, rfl⟩
end
end L3

end
section
/-! L3. 8: loops, try -/
namespace L3
open PySem PySem.Spec PyProof.Rows L2
def forGo (T : Tg) (fg : List Nat) (fb : Env → RS) : List PV → Env → RS
  | [], ρ => .nx ρ
  | p :: ps, ρ => match tgS T p ρ with
    | .ok ρ1 => match fb ρ1 with
      | .nx ρ2 => forGo T fg fb ps (wipeE ρ2 fg)
      | .ct ρ2 => forGo T fg fb ps (wipeE ρ2 fg)
      | .bk ρ2 => .nx (wipeE ρ2 fg)
      | r => r
    | _ => .no
def sFor (T : Tg) (fg : List Nat) (fi : Env → R (List PV)) (fb : Env → RS) : Env → RS := fun ρ => (fi ρ).to ρ fun ps => forGo T fg fb ps (wipeE ρ fg)
def whGo (fg : List Nat) (fc : Env → R Bool) (fb : Env → RS) : Nat → Env → RS
  | 0, _ => .no
  | n + 1, ρ => (fc ρ).to ρ fun k => if k = true then (match fb ρ with
      | .nx ρ2 => whGo fg fc fb n (wipeE ρ2 fg)
      | .ct ρ2 => whGo fg fc fb n (wipeE ρ2 fg)
      | .bk ρ2 => .nx (wipeE ρ2 fg)
      | r => r) else .nx ρ
def sWhile (fuel : Env → Nat) (fg : List Nat) (fc : Env → R Bool) (fb : Env → RS) : Env → RS := fun ρ => whGo fg fc fb (fuel ρ) (wipeE ρ fg)
section
variable {C : Fc} {W : WX} {D : Ends} {m : Bool} {X : Cx} {tg iter c : Expr} {body : List Stmt} {pos : Pos} {σ : L2.St} {H H₀ : Hp} {F : List Addr} {ρ : Env}
theorem SR.inx {Hx : Hp} (S : SR C H₀ F ρ σ H) (h : Same Hx H₀) : SR { C with Hx := Hx } H₀ F ρ σ H := ⟨S.e, S.z, S.n, S.hz, S.env, S.nd, S.fr, S.fx, h⟩
theorem SR.unx {Hx : Hp} (S : SR { C with Hx := Hx } H₀ F ρ σ H) (h : Same C.Hx Hx) : SR C H₀ F ρ σ H := ⟨S.e, S.z, S.n, S.hz, S.env, S.nd, S.fr, S.fx, h.trans S.hx⟩
theorem qFor {T : Tg} (fg : List Nat) {fi : Env → R (List PV)} {fb : Env → RS} (hp : PassesOwn (model X.prog X.w) X.A X.env X.xe) (hc : X.calm = true) (hi : QI C W true X tg iter fi) (hg : ∀ Hx, QG { C with Hx := Hx } X tg T) (hb : ∀ Hx, QSs { C with Hx := Hx } W X body fb)
    (hs : ∀ x, foldedSetIterable iter X.env x = pure x := by intro _; rfl) : QS C W X (.For tg iter body [] pos) (sFor T fg fi fb) := by
  refine ⟨fun pins s σ H D I h => ?_⟩
  -- the frozen heap at the loop's start
  obtain ⟨H₀, F, ρ, S, h⟩ := h
  have h := Aft.to S h
  cases q : fi ρ with
  | no => rw [q] at h; exact h.elim
  | er x =>
    obtain ⟨t, g1, _⟩ := (hg C.Hx).ex
    refine (ps_for (tb := tS { C with Hx := C.Hx } W fb) hp hc hi g1 (hb C.Hx) hs).run pins s σ H D I ?_
    refine ⟨H₀, F, ρ, S, ?_⟩
    rw [q] at h ⊢
    exact h
  | ok ps =>
    rw [q] at h
    have h : Aft C W D (forGo T fg fb ps (wipeE ρ fg)) := h
    -- the loop is read at a heap that comes only behind the iterable: so the reading chooses it
    have key : PS X (.For tg iter body [] pos) (tFor (tI C W true fi) (fun v σ H Q => ∃ t : TG, PG X tg t ∧ t v σ H Q) (fun D σ H => ∃ Hx, Same C.Hx Hx ∧ tS { C with Hx := Hx } W fb D σ H)) := by
      refine ps_for hp hc hi ⟨fun pins s σ H v u Q I r q => ?_⟩ ⟨fun pins s σ H D I q => ?_⟩ hs
      · obtain ⟨t, g1, q⟩ := q
        exact g1.run pins s σ H v u Q I r q
      · obtain ⟨Hx, hx, q⟩ := q
        exact (hb Hx).run pins s σ H D I q
    refine key.run pins s σ H D I ?_
    refine ⟨H₀, F, ρ, S, ?_⟩
    rw [q]
    intro J H1 H₁ E1 ip
    have ip : ItP C.G J H₁ ps := ip
    have S1 := S.ext E1
    obtain ⟨F1, S1'⟩ := S1.drops fg
    refine ⟨fun i mm σc Hc => mm = ps.length - i ∧ i ≤ ps.length ∧ ∃ H₀c Fc ρc, SR { C with Hx := H₁ } H₀c Fc ρc σc Hc ∧ Aft C W D (forGo T fg fb (ps.drop i) ρc), ⟨ps.length, by simp, Nat.zero_le _, H₁, F1, _, S1'.inx (Same.refl _), by simpa using h⟩, ?_⟩
    rintro i mm σc Hc ⟨rfl, hi', H₀c, Fc, ρc, Sc, hA⟩
    have sc : Same H₁ Hc := Sc.hx.trans Sc.z
    by_cases hlt : i < ps.length
    · have hpi : ps[i]? = some ps[i] := by simp [hlt]
      obtain ⟨jg, jy⟩ := ip.go i Hc _ sc hpi
      rw [List.drop_eq_getElem_cons hlt] at hA
      unfold forGo at hA
      refine .inr ⟨jg, fun σ' H' => ps.length - (i + 1) = ps.length - (i + 1) ∧ i + 1 ≤ ps.length ∧ ∃ H₀c Fc ρc, SR { C with Hx := H₁ } H₀c Fc ρc σ' H' ∧ Aft C W D (forGo T fg fb (ps.drop (i + 1)) ρc), fun σ' H' z => ⟨ps.length - (i + 1), by omega, z⟩, fun x H' y => ?_⟩
      obtain ⟨e1, rx⟩ := jy x H' y
      subst e1
      obtain ⟨t, g1, g2⟩ := (hg H₁).ex
      refine ⟨t, g1, ?_⟩
      cases et : tgS T ps[i] ρc with
      | er z => exact absurd et tgS_calm
      | no => rw [et] at hA; exact hA.elim
      | ok ρ1 =>
        rw [et] at hA
        refine g2 _ x H₀c Fc ρc ρ1 σc H' _ Sc (Rep.mono Sc.hx rx) et fun σ2 F2 S2 _ => ⟨H₁, S1.hx, H₀c, F2, ρ1, S2, ?_⟩
        dsimp only at hA
        cases eb : fb ρ1 with
        | nx ρ2 =>
          rw [eb] at hA
          intro σ3 H3 H₀3 F3 S3
          obtain ⟨F4, S4⟩ := S3.drops fg
          exact ⟨rfl, hlt, H₀3, F4, _, S4, hA⟩
        | ct ρ2 =>
          rw [eb] at hA
          intro σ3 H3 H₀3 F3 S3
          obtain ⟨F4, S4⟩ := S3.drops fg
          exact ⟨rfl, hlt, H₀3, F4, _, S4, hA⟩
        | bk ρ2 =>
          rw [eb] at hA
          intro σ3 H3 H₀3 F3 S3
          obtain ⟨F4, S4⟩ := S3.drops fg
          exact hA σ3 H3 H₀3 F4 (S4.unx S1.hx)
        | rt o => rw [eb] at hA; exact hA
        | er z ρ2 =>
          rw [eb] at hA
          intro cls d σ3 H3 H₀3 F3 S3 rx3
          exact hA cls d σ3 H3 H₀3 F3 (S3.unx S1.hx) rx3
        | no => rw [eb] at hA; exact hA
    · have hie : i = ps.length := by omega
      subst hie
      rw [List.drop_length] at hA
      unfold forGo at hA
      exact .inl ⟨ip.stop _ Hc sc (Nat.le_refl _), hA σc Hc H₀c Fc (Sc.unx S1.hx)⟩
theorem qWhile (fuel : Env → Nat) (fg : List Nat) {fc : Env → R Bool} {fb : Env → RS} (hp : PassesOwn (model X.prog X.w) X.A X.env X.xe) (hc : QT C W X c fc) (hb : QSs C W X body fb) : QS C W X (.While c body [] pos) (sWhile fuel fg fc fb) := by
  refine PS.imp (ps_while hp hc hb) fun D σ H h => ?_
  obtain ⟨H₀, F, ρ, S, h⟩ := h
  obtain ⟨F1, S1⟩ := S.drops fg
  refine ⟨fun n σ H => ∃ H₀ F ρ, SR C H₀ F ρ σ H ∧ Aft C W D (whGo fg fc fb n ρ), ⟨fuel ρ, H₀, F1, _, S1, h⟩, ?_⟩
  rintro n σ H ⟨H₀, F, ρ, S, h⟩
  cases n with
  | zero => exact h.elim
  | succ n =>
    unfold whGo at h
    rw [tT_iff]
    refine ⟨H₀, F, ρ, S, (Aft.to S h).imp fun k _ h H1 H₁ E1 => ?_⟩
    have S1 := S.ext E1
    cases k with
    | false => exact h σ H1 H₁ F S1
    | true =>
      rw [if_pos rfl] at h
      show if true = true then _ else _
      rw [if_pos rfl]
      refine ⟨fun σ' H' => ∃ H₀ F ρ, SR C H₀ F ρ σ' H' ∧ Aft C W D (whGo fg fc fb n ρ), fun σ' H' z => ⟨n, Nat.lt_succ_self _, z⟩, H₁, F, ρ, S1, ?_⟩
      cases eb : fb ρ with
      | nx ρ2 =>
        rw [eb] at h
        intro σ3 H3 H₀3 F3 S3
        obtain ⟨F4, S4⟩ := S3.drops fg
        exact ⟨H₀3, F4, _, S4, h⟩
      | ct ρ2 =>
        rw [eb] at h
        intro σ3 H3 H₀3 F3 S3
        obtain ⟨F4, S4⟩ := S3.drops fg
        exact ⟨H₀3, F4, _, S4, h⟩
      | bk ρ2 =>
        rw [eb] at h
        intro σ3 H3 H₀3 F3 S3
        obtain ⟨F4, S4⟩ := S3.drops fg
        exact h σ3 H3 H₀3 F4 S4
      | rt o => rw [eb] at h; exact h
      | er z ρ2 => rw [eb] at h; exact h
      | no => rw [eb] at h; exact h
end
/-! ### try -/
structure Hd where
  mt : Nat → Option Bool
  nm : Option Nat
  su : PX → Env → RS
def calmS : RS → RS
  | .er _ _ => .no
  | r => r
def goneS (i : Nat) : RS → RS
  | .nx ρ => .nx (ρ.set i none)
  | .bk ρ => .bk (ρ.set i none)
  | .ct ρ => .ct (ρ.set i none)
  | r => r
def handle : List Hd → PX → Env → RS
  | [], x, ρ => .er x ρ
  | h :: r, x, ρ => match h.mt x.c with
    | some true => (match h.nm with
      | none => calmS (h.su x ρ)
      | some i => if i < ρ.length then goneS i (calmS (h.su x (ρ.set i none))) else .no)
    | some false => handle r x ρ
    | none => .no
def sTry (f : Env → RS) (hs : List Hd) : Env → RS := fun ρ => match f ρ with
  | .er x ρ' => handle hs x ρ'
  | r => r
/-- a suite's reading -/
def suR (C : Fc) (i : Option Nat) (g : PX → Env → RS) : X3.Su := fun a cls d D σ H => ∃ x Hx, RepX C.G Hx x cls d ∧ tS { C with Hx := Hx, fx := i.elim none fun i => some (i, .ref a) } W0 (fun ρ => calmS (g x ρ)) D σ H
inductive HdQ (C : Fc) (X : Cx) : List ExceptHandler → List Hd → List (Value × Option Nat × X3.Su) → Prop
  | nil : HdQ C X [] [] []
  | bare {x : Str} {c : Value} {mt : Nat → Option Bool} {g : PX → Env → RS} {b₀ : Stmt} {su : List Stmt} {p1 p2 : Pos} {hds : List ExceptHandler} {hs : List Hd} {l : List (Value × Option Nat × X3.Su)} (hc : Names X x c) (hm : ∀ c' b, mt c' = some b → PySem.W.exmOne X.K (.ref (C.G.CA c')) c = some b)
      (hsu : ∀ (a : Addr) (ob : Obj) (cls : Value) (d : Option Addr) (pl : List (Addr × Obj)) (x : PX) (Hx : Hp), L2N.Zn cls d ob → (∃ vs, ob.data = .fields vs) → RepX C.G Hx x cls d → QSs { C with Hx := Hx, fx := none } W0 (X.suite a ((a, ob) :: pl)) (b₀ :: su) (g x)) (r : HdQ C X hds hs l) :
      HdQ C X (.ExceptHandler (some (.Name x p1)) none (b₀ :: su) p2 :: hds) (⟨mt, none, g⟩ :: hs) ((c, none, suR C none g) :: l)
  | named {x n : Str} {i : Nat} {c : Value} {mt : Nat → Option Bool} {g : PX → Env → RS} {b₀ : Stmt} {su : List Stmt} {p1 p2 : Pos} {hds : List ExceptHandler} {hs : List Hd} {l : List (Value × Option Nat × X3.Su)} (hN : X.N.Nodup) (hc : Names X x c) (hm : ∀ c' b, mt c' = some b → PySem.W.exmOne X.K (.ref (C.G.CA c')) c = some b)
      (hsu : ∀ (a : Addr) (ob : Obj) (cls : Value) (d : Option Addr) (pl : List (Addr × Obj)) (x : PX) (Hx : Hp), L2N.Zn cls d ob → (∃ vs, ob.data = .fields vs) → RepX C.G Hx x cls d → QSs { C with Hx := Hx, fx := some (i, .ref a) } W0 (X.suite a ((a, ob) :: pl)) (b₀ :: su) (g x)) (r : HdQ C X hds hs l)
      (hi : X.N[i]? = some n := by rfl) (hl : X.env.kindOf n = some .local := by rfl) :
      HdQ C X (.ExceptHandler (some (.Name x p1)) (some n) (b₀ :: su) p2 :: hds) (⟨mt, some i, g⟩ :: hs) ((c, some i, suR C (some i) g) :: l)
section
variable {C : Fc} {W : WX} {D : Ends} {m : Bool} {X : Cx} {e : Expr} {body : List Stmt} {h₀ : ExceptHandler} {hds : List ExceptHandler} {pos p : Pos} {σ : L2.St} {H H₀ : Hp} {F : List Addr} {ρ : Env} {hs : List Hd} {l : List (Value × Option Nat × X3.Su)}
theorem aft_calm {r : RS} (h : Aft C W0 D (calmS r)) : Aft C W0 D r := by
  cases r with
  | er x ρ => exact (show False from h).elim
  | nx ρ => exact h
  | rt o => exact h
  | bk ρ => exact h
  | ct ρ => exact h
  | no => exact h
theorem HdQ.ok (h : HdQ C X hds hs l) : X3.HdOk X hds l := by
  induction h with
  | nil => exact .nil
  | @bare x c mt g b₀ su p1 p2 hds hs l hc hm hsu r ih =>
    refine .bare hc (fun a ob cls d pl hz hf => ⟨fun pins s σ H D I q => ?_⟩) ih
    obtain ⟨x, Hx, rx, H₀, F, ρ, S, q⟩ := q
    exact (hsu a ob cls d pl x Hx hz hf rx).run pins s σ H D I ⟨H₀, F, ρ, S, aft_calm q⟩
  | @named x n i c mt g b₀ su p1 p2 hds hs l hN hc hm hsu r hi hl ih =>
    refine .named hN hi hl hc (fun a ob cls d pl hz hf => ⟨fun pins s σ H D I q => ?_⟩) ih
    obtain ⟨x, Hx, rx, H₀, F, ρ, S, q⟩ := q
    exact (hsu a ob cls d pl x Hx hz hf rx).run pins s σ H D I ⟨H₀, F, ρ, S, aft_calm q⟩
theorem SR.goneAt (S : SR C H₀ F ρ σ H) (i : Nat) (x : Option V) (hx : fxOk C i) : ∃ F', SR C H₀ F' (ρ.set i none) (σ.set i x) H := by
  obtain ⟨F', S1⟩ := S.drop i
  refine ⟨F', ?_⟩
  by_cases hl : i < ρ.length
  · exact S1.any x (List.getElem?_set_self hl) hx
  · have e : σ.set i x = σ := List.set_eq_of_length_le (by have := S.env.length; omega)
    rw [e]
    exact S1
/-- another slot is fixed -/
theorem SR.fixed (S : SR C H₀ F ρ σ H) {Hx : Hp} {f : Option (Nat × V)} (h : Same Hx H₀) (k : ∀ i v, f = some (i, v) → σ[i]? = some (some v)) : SR { C with Hx := Hx, fx := f } H₀ F ρ σ H := ⟨S.e, S.z, S.n, S.hz, S.env, S.nd, S.fr, k, h⟩
theorem aft_su (hfx : C.fx = none) {r : RS} {Hx : Hp} (hh : Same C.Hx Hx) (h : Aft C W D (calmS r)) : Aft { C with Hx := Hx, fx := none } W0 D (calmS r) := by
  have un : ∀ {ρ σ H H₀' F}, SR { C with Hx := Hx, fx := none } H₀' F ρ σ H → SR C H₀' F ρ σ H := fun {ρ σ H H₀' F} T => ⟨T.e, T.z, T.n, T.hz, T.env, T.nd, T.fr, fun i v z => (by rw [hfx] at z; cases z), hh.trans T.hx⟩
  cases r with
  | nx ρ' => exact fun σ' H' H₀' F' T => h σ' H' H₀' F' (un T)
  | bk ρ' => exact fun σ' H' H₀' F' T => h σ' H' H₀' F' (un T)
  | ct ρ' => exact fun σ' H' H₀' F' T => h σ' H' H₀' F' (un T)
  | rt o => exact h
  | er z ρ' => exact h
  | no => exact h
theorem aft_su2 (hfx : C.fx = none) {r : RS} {Hx : Hp} {i : Nat} {v : V} (hh : Same C.Hx Hx) (h : Aft C W D (goneS i (calmS r))) : Aft { C with Hx := Hx, fx := some (i, v) } W0 (X3.Ends.gone D i) (calmS r) := by
  have un : ∀ {ρ σ H H₀' F}, SR { C with Hx := Hx, fx := some (i, v) } H₀' F ρ σ H → ∃ F', SR C H₀' F' (ρ.set i none) (σ.set i none) H := fun {ρ σ H H₀' F} T =>
    SR.goneAt (C := C) (⟨T.e, T.z, T.n, T.hz, T.env, T.nd, T.fr, fun i v z => (by rw [hfx] at z; cases z), hh.trans T.hx⟩) i none fun j v z => (by rw [hfx] at z; cases z)
  cases r with
  | nx ρ' => exact fun σ' H' H₀' F' T => let ⟨F2, T2⟩ := un T; h _ H' H₀' F2 T2
  | bk ρ' => exact fun σ' H' H₀' F' T => let ⟨F2, T2⟩ := un T; h _ H' H₀' F2 T2
  | ct ρ' => exact fun σ' H' H₀' F' T => let ⟨F2, T2⟩ := un T; h _ H' H₀' F2 T2
  | rt o => exact h
  | er z ρ' => exact h
  | no => exact h
theorem handle_go (hfx : C.fx = none) (hq : HdQ C X hds hs l) : ∀ {x : PX} {cls : Value} {d : Option Addr}, SR C H₀ F ρ σ H → RepX C.G H₀ x cls d → Aft C W D (handle hs x ρ) → X3.wH X.K W D l cls d σ H := by
  induction hq with
  | nil =>
    intro x cls d S rx h
    exact h cls d σ H H₀ F S rx
  | @bare xn c mt g b₀ su p1 p2 hds hs l hc hm hsu r ih =>
    intro x cls d S rx h
    unfold handle at h
    dsimp only at h
    cases em : mt x.c with
    | none => rw [em] at h; exact h.elim
    | some b =>
      rw [em] at h
      refine ⟨b, by rw [rx.1]; exact hm _ _ em, fun hb a ha => ?_, fun hb => ?_⟩
      · subst hb
        exact ⟨x, H₀, rx, H₀, F, ρ, S.fixed (Same.refl _) (fun i v z => nomatch z), aft_su hfx S.hx h⟩
      · subst hb
        exact ih S rx h
  | @named xn n i c mt g b₀ su p1 p2 hds hs l hN hc hm hsu r hi hl ih =>
    intro x cls d S rx h
    unfold handle at h
    dsimp only at h
    cases em : mt x.c with
    | none => rw [em] at h; exact h.elim
    | some b =>
      rw [em] at h
      refine ⟨b, by rw [rx.1]; exact hm _ _ em, fun hb a ha => ?_, fun hb => ?_⟩
      · subst hb
        dsimp only at h
        obtain ⟨F2, S2⟩ := S.goneAt i (some (.ref a)) fun j v z => (by rw [hfx] at z; cases z)
        by_cases hil : i < ρ.length
        rotate_left
        · rw [if_neg hil] at h
          exact h.elim
        rw [if_pos hil] at h
        have hil : i < σ.length := by rw [← S.env.length]; exact hil
        refine ⟨x, H₀, rx, H₀, F2, _, S2.fixed (Same.refl _) (fun j v z => ?_), aft_su2 hfx S.hx h⟩
        have z : (i, V.ref a) = (j, v) := Option.some.inj z
        cases z
        exact List.getElem?_set_self hil
      · subst hb
        exact ih S rx h
theorem qTry {f : Env → RS} (hst : X.stack = X.env :: X.outer) (hfr : X.env.frame = some X.env.locals) (hfx : C.fx = none) (tk : L2N.Takes X W)
    (hb : ∀ (W : WX) (pl : List (Addr × Obj)) (xe : Value → Shared → Prop), L2N.Takes (X.tr pl xe) W → PassesOwn (model X.prog X.w) X.A X.env xe → QSs C W (X.tr pl xe) body f)
    (hq : HdQ C X (h₀ :: hds) hs l) : QS C W X (.Try body (h₀ :: hds) [] [] pos) (sTry f hs) := by
  refine PS.imp (X3.ps_tryH (tb := fun W => tS C W f) hst hfr tk hb hq.ok) fun D σ H h => ?_
  obtain ⟨H₀, F, ρ, S, h⟩ := h
  refine ⟨H₀, F, ρ, S, ?_⟩
  unfold sTry at h
  cases q : f ρ with
  | er x ρ' =>
    rw [q] at h
    exact fun cls d σ' H' H₀' F' S' rx => handle_go hfx hq S' rx h
  | nx ρ' => rw [q] at h; exact h
  | rt o => rw [q] at h; exact h
  | bk ρ' => rw [q] at h; exact h
  | ct ρ' => rw [q] at h; exact h
  | no => rw [q] at h; exact h
/-! ### in a suite: the exception's fields, isinstance -/
section
variable {a : Addr} {ob : Obj} {cls : Value} {d : Option Addr} {pl : List (Addr × Obj)} {x : PX} {i : Nat} {xn : Str}
/-- a fixed slot's value -/
theorem qFixed {W : WX} {Hx : Hp} {X' : Cx} {Q : VK} (hN : X'.N[i]? = some xn) (S : SR { C with Hx := Hx, fx := some (i, .ref a) } H₀ F ρ σ H) : σ[i]? = some (some (.ref a)) := S.fx i _ rfl
def eXf (ok : Nat → Bool) (x : PX) (fl : Str) : Env → R PV := fun _ => if ok x.c = true then R.of (x.fs.lookup fl) else .no
theorem qXf {W : WX} {Hx : Hp} {fl : Str} {ok : Nat → Bool} (T : ∀ c, ok c = true → XfC X.K (C.G.CA c) ∧ PySem.W.findIn X.K (.ref (C.G.CA c)) fl = some none) (hz : L2N.Zn cls d ob) (hf : ∃ vs, ob.data = .fields vs) (rx : RepX C.G Hx x cls d)
    (hN : X.N[i]? = some xn := by rfl) (hv : Vis X.env.scope xn := by first | exact Or.inl rfl | exact Or.inr (Or.inl rfl) | exact Or.inr (Or.inr rfl)) (hd : (xn == ("__debug__" : Str)) = false := by decide)
    (hcd : (xn == ("__classdict__" : Str)) = false := by decide) (hb : attributeBase (.Name xn p) fl X.env (eval (.Name xn p) X.env) = eval (.Name xn p) X.env := by rfl) :
    QE { C with Hx := Hx, fx := some (i, .ref a) } W m (X.suite a ((a, ob) :: pl)) (.Attribute (.Name xn p) fl pos) (eXf ok x fl) := by
  have hE : PE (X.suite a ((a, ob) :: pl)) (.Name xn p) (tVar i) := pe_var (X := X.suite a ((a, ob) :: pl)) hN hv hd hcd
  cases hok : ok x.c with
  | false =>
    refine ⟨fun pins s σ H Q I h => ?_⟩
    obtain ⟨H₀, F, ρ, S, h⟩ := h
    unfold eXf at h
    rw [hok, if_neg Bool.false_ne_true] at h
    exact h.elim
  | true =>
    obtain ⟨T1, T2⟩ := T _ hok
    refine PE.imp (pe_xf T1 T2 hz.zc hf hE hb) fun σ H Q h => ?_
    obtain ⟨H₀, F, ρ, S, h⟩ := h
    unfold eXf at h
    rw [hok, if_pos rfl] at h
    refine ⟨.ref a, S.fx i _ rfl, rfl, rx.1, ?_⟩
    cases el : x.fs.lookup fl with
    | none => rw [el] at h; exact h.elim
    | some p =>
      rw [el] at h
      rcases rx.2 with ⟨e1, _⟩ | ⟨dd, vs, e1, e2, e3⟩
      · rw [e1] at el; cases el
      · obtain ⟨v, ev, rv⟩ := e3.get el
        refine ⟨dd, vs, v, e1, S.z _ _ (S.hx _ _ e2), ev, h v H H₀ (Ext.refl S.z) ?_⟩
        exact Rep.mono (z_md fun a ha => (S.fr a ha).2) (Rep.mono S.hx rv)
def eXi (ib : Nat → Option Bool) (x : PX) : Env → R PV := fun _ => R.of ((ib x.c).map .bl)
theorem qXi {W : WX} {Hx : Hp} {T : Str} {p1 p2 p3 : Pos} {A : Addr} {ib : Nat → Option Bool} (hm : X.mg "isinstance" = none) (hT : X.mg T = some (.ref A)) (hi : ∀ c b, ib c = some b → X3.ExI X.K (C.G.CA c) ∧ PySem.W.kitOne X.K (.ref (C.G.CA c)) (.ref A) = some b)
    (hz : L2N.Zn cls d ob) (hf : ∃ vs, ob.data = .fields vs) (rx : RepX C.G Hx x cls d)
    (hN : X.N[i]? = some xn := by rfl) (hv : Vis X.env.scope xn := by first | exact Or.inl rfl | exact Or.inr (Or.inl rfl) | exact Or.inr (Or.inr rfl)) (hd : (xn == ("__debug__" : Str)) = false := by decide)
    (hcd : (xn == ("__classdict__" : Str)) = false := by decide) (hg : Gl X "isinstance" := by rfl) (hgT : Gl X T := by rfl) (hdT : (T == ("__debug__" : Str)) = false := by decide)
    (he : starEach (.Name xn p1 :: .Name T p2 :: []) X.env = (false, eval (.Name xn p1) X.env) :: starEach [.Name T p2] X.env := by rfl) (hpl : (backTo pos (starEach [.Name T p2] X.env)).any (·.1) = false := by rfl)
    (hs1 : starEach [.Name T p2] X.env = [(false, eval (.Name T p2) X.env)] := by rfl) :
    QE { C with Hx := Hx, fx := some (i, .ref a) } W m (X.suite a ((a, ob) :: pl)) (.Call (.Name "isinstance" p3) [.Name xn p1, .Name T p2] [] pos) (eXi ib x) := by
  have hE : PE (X.suite a ((a, ob) :: pl)) (.Name xn p1) (tVar i) := pe_var (X := X.suite a ((a, ob) :: pl)) hN hv hd hcd
  cases hok : ib x.c with
  | none =>
    refine ⟨fun pins s σ H Q I h => ?_⟩
    obtain ⟨H₀, F, ρ, S, h⟩ := h
    unfold eXi at h
    rw [hok] at h
    exact h.elim
  | some b =>
    obtain ⟨T1, T2⟩ := hi _ _ hok
    have hgE : PE (X.suite a ((a, ob) :: pl)) (.Name T p2) (tC (.ref A)) := pe_glob (X := X.suite a ((a, ob) :: pl)) hgT hT rfl hdT
    have hA : PA (X.suite a ((a, ob) :: pl)) [.Name xn p1, .Name T p2] (tCons (tVar i) (tCons (tC (.ref A)) tNil)) := pa_cons hE (pa_cons hgE pa_nil hs1) he
    have hcl : cls = .ref (C.G.CA x.c) := rx.1
    obtain ⟨fs, hfs⟩ : ∃ fs : List (Str × V), ∀ H₀ : Hp, Same Hx H₀ → ∀ dd, d = some dd → H₀ dd = some (.xd fs) := by
      rcases rx.2 with ⟨_, e1⟩ | ⟨dd, vs, e1, e2, e3⟩
      · exact ⟨[], fun H₀ _ dd z => by rw [e1] at z; cases z⟩
      · exact ⟨vs, fun H₀ z dd' z' => by rw [e1] at z'; cases z'; exact z _ _ e2⟩
    have hz' : Zc (.ref (C.G.CA x.c)) d ob := by rw [← hcl]; exact hz.zc
    have hcr := X3.call_isX (X := X) (a := a) (fs := fs) (pn := pl) T1 hz' hf
    refine PE.imp (pe_callB (X := X.suite a ((a, ob) :: pl)) hcr hg hm bt_isi hA (by decide) (by decide) he hpl) fun σ H Q h => ?_
    obtain ⟨H₀, F, ρ, S, h⟩ := h
    unfold eXi at h
    rw [hok] at h
    refine ⟨.ref a, S.fx i _ rfl, ⟨fun dd z => S.z _ _ (hfs _ S.hx dd z), .ref A, .ref A, b, rfl, fun u ru => ru, T2, ?_⟩⟩
    exact h (.bl b) H H₀ (Ext.refl S.z) (by simp only [Rep])
end
end
end L3

end
section
/-! L3. 9: what is owned is changed in place -/
namespace L3
open PySem PySem.Spec PyProof.Rows L2
inductive Stp where
  | ix (j : Nat) | fl (f : Str)
def putO (f : Str) (v : OV) : List (Str × OV) → List (Str × OV)
  | [] => [(f, v)]
  | (g, x) :: r => if g = f then (g, v) :: r else (g, x) :: putO f v r
def getP : List Stp → OV → Option OV
  | [], o => some o
  | .ix j :: π, .own l => (l[j]?).bind (getP π)
  | .fl f :: π, .obj _ fs => (fs.lookup f).bind (getP π)
  | _, _ => none
def setP : List Stp → OV → OV → OV
  | [], _, n => n
  | .ix j :: π, .own l, n => (match l[j]? with
    | some o => .own (l.set j (setP π o n))
    | none => .own l)
  | .fl f :: π, .obj c fs, n => (match fs.lookup f with
    | some o => .obj c (putO f (setP π o n) fs)
    | none => .obj c fs)
  | _, o, _ => o
/-- the value at a path -/
def AtP (H : Hp) : V → List Stp → V → Prop
  | v, [], w => v = w
  | v, .ix j :: π, w => ∃ a xs x, v = .ref a ∧ H a = some (.lst xs) ∧ xs[j]? = some x ∧ AtP H x π w
  | v, .fl f :: π, w => ∃ a c dx fs x, v = .ref a ∧ H a = some (.ins c dx fs) ∧ fs.lookup f = some x ∧ AtP H x π w
section
variable {G : Gc} {H₀ H H' : Hp}
theorem AtP.mono (e : Same H H') : ∀ {π : List Stp} {v w : V}, AtP H v π w → AtP H' v π w
  | [], _, _, h => h
  | .ix j :: π, v, w, h => by
    obtain ⟨a, xs, x, h1, h2, h3, h4⟩ := h
    exact ⟨a, xs, x, h1, e _ _ h2, h3, AtP.mono e h4⟩
  | .fl f :: π, v, w, h => by
    obtain ⟨a, c, dx, fs, x, h1, h2, h3, h4⟩ := h
    exact ⟨a, c, dx, fs, x, h1, e _ _ h2, h3, AtP.mono e h4⟩
theorem AtP.det : ∀ {π : List Stp} {v w w' : V}, AtP H v π w → AtP H v π w' → w = w'
  | [], _, _, _, h, k => (show _ = _ from h).symm.trans k
  | .ix j :: π, v, w, w', h, k => by
    obtain ⟨a, xs, x, h1, h2, h3, h4⟩ := h
    obtain ⟨a', xs', x', k1, k2, k3, k4⟩ := k
    subst h1
    cases k1
    rw [h2] at k2
    cases k2
    rw [h3] at k3
    cases k3
    exact AtP.det h4 k4
  | .fl f :: π, v, w, w', h, k => by
    obtain ⟨a, c, dx, fs, x, h1, h2, h3, h4⟩ := h
    obtain ⟨a', c', dx', fs', x', k1, k2, k3, k4⟩ := k
    subst h1
    cases k1
    rw [h2] at k2
    cases k2
    rw [h3] at k3
    cases k3
    exact AtP.det h4 k4
theorem AtP.snoc {s : Stp} {u : V} : ∀ {π : List Stp} {v w : V}, AtP H v π w → AtP H w [s] u → AtP H v (π ++ [s]) u
  | [], v, w, h, k => by
    have h : v = w := h
    subst h
    exact k
  | .ix j :: π, v, w, h, k => by
    obtain ⟨a, xs, x, h1, h2, h3, h4⟩ := h
    exact ⟨a, xs, x, h1, h2, h3, AtP.snoc h4 k⟩
  | .fl f :: π, v, w, h, k => by
    obtain ⟨a, c, dx, fs, x, h1, h2, h3, h4⟩ := h
    exact ⟨a, c, dx, fs, x, h1, h2, h3, AtP.snoc h4 k⟩
theorem getP_snoc {s : Stp} : ∀ {π : List Stp} {o sub : OV}, getP π o = some sub → getP (π ++ [s]) o = getP [s] sub
  | [], o, sub, h => by cases h; rfl
  | .ix j :: π, o, sub, h => by
    cases o with
    | own l =>
      show ((l[j]?).bind (getP (π ++ [s]))) = _
      have h : (l[j]?).bind (getP π) = some sub := h
      cases e : l[j]? with
      | none => rw [e] at h; cases h
      | some o => rw [e] at h; exact getP_snoc (π := π) h
    | sh p => cases h
    | obj c fs => cases h
  | .fl f :: π, o, sub, h => by
    cases o with
    | obj c fs =>
      show ((fs.lookup f).bind (getP (π ++ [s]))) = _
      have h : (fs.lookup f).bind (getP π) = some sub := h
      cases e : fs.lookup f with
      | none => rw [e] at h; cases h
      | some o => rw [e] at h; exact getP_snoc (π := π) h
    | sh p => cases h
    | own l => cases h
/-- what a change below must keep -/
def Upd (G : Gc) (H₀ H : Hp) (F Fs : List Addr) (vs : V) (K : Hp → List Addr → OV → Prop) : Prop :=
  ∀ H' sub' Fs', (∀ b ∈ F, b ∉ Fs → H' b = H b) → OwnR G H₀ H' sub' vs Fs' → Fs'.Nodup → (∀ b ∈ Fs', b ∈ Fs ∨ b ∉ F) → ∃ F', K H' F' sub' ∧ F'.Nodup ∧ ∀ b ∈ F', (b ∈ F ∧ b ∉ Fs) ∨ b ∈ Fs'
theorem OwnRs.upd : ∀ {l : List OV} {xs : List V} {F : List Addr} {j : Nat} {o : OV}, OwnRs G H₀ H l xs F → l[j]? = some o → F.Nodup → ∃ x Fj, xs[j]? = some x ∧ OwnR G H₀ H o x Fj ∧ Fj.Nodup ∧ (∀ b ∈ Fj, b ∈ F) ∧ Upd G H₀ H F Fj x fun H' F' o' => OwnRs G H₀ H' (l.set j o') xs F'
  | [], xs, F, j, o, h, e, nd => by simp at e
  | q :: l, xs, F, 0, o, h, e, nd => by
    simp only [OwnRs] at h
    obtain ⟨x, ys, F1, F2, h1, h2, h3, h4⟩ := h
    subst h1 h2
    simp at e
    subst e
    obtain ⟨n1, n2, n3⟩ := List.nodup_append.mp nd
    refine ⟨x, F1, rfl, h3, n1, fun b hb => List.mem_append_left _ hb, fun H' o' Fs' hk r nd' hm => ?_⟩
    refine ⟨Fs' ++ F2, ?_, List.nodup_append.mpr ⟨nd', n2, fun a ha b hb e => ?_⟩, fun b hb => ?_⟩
    · simp only [List.set_cons_zero, OwnRs]
      exact ⟨x, ys, Fs', F2, rfl, rfl, r, OwnRs.mono (Same.refl _) (fun b hb => hk b (List.mem_append_right _ hb) fun z => n3 b z b hb rfl) h4⟩
    · subst e
      rcases hm a ha with z | z
      · exact n3 a z a hb rfl
      · exact z (List.mem_append_right _ hb)
    · rcases List.mem_append.mp hb with z | z
      · exact .inr z
      · exact .inl ⟨List.mem_append_right _ z, fun y => n3 b y b z rfl⟩
  | q :: l, xs, F, j + 1, o, h, e, nd => by
    simp only [OwnRs] at h
    obtain ⟨x, ys, F1, F2, h1, h2, h3, h4⟩ := h
    subst h1 h2
    obtain ⟨n1, n2, n3⟩ := List.nodup_append.mp nd
    obtain ⟨w, Fj, e1, e2, e3, e4, e5⟩ := OwnRs.upd (j := j) h4 (by simpa using e) n2
    refine ⟨w, Fj, by simpa using e1, e2, e3, fun b hb => List.mem_append_right _ (e4 b hb), fun H' o' Fs' hk r nd' hm => ?_⟩
    obtain ⟨F', k1, k2, k3⟩ := e5 H' o' Fs' (fun b hb hn => hk b (List.mem_append_right _ hb) hn) r nd' fun b hb => (hm b hb).imp id fun z y => z (List.mem_append_right _ y)
    refine ⟨F1 ++ F', ?_, List.nodup_append.mpr ⟨n1, k2, fun a ha b hb e => ?_⟩, fun b hb => ?_⟩
    · simp only [List.set_cons_succ, OwnRs]
      exact ⟨x, ys, F1, F', rfl, rfl, OwnR.mono (Same.refl _) (fun b hb => hk b (List.mem_append_left _ hb) fun z => n3 b hb b (e4 b z) rfl) h3, k1⟩
    · subst e
      rcases k3 a hb with z | z
      · exact n3 a ha a z.1 rfl
      · rcases hm a z with y | y
        · exact n3 a ha a (e4 a y) rfl
        · exact y (List.mem_append_left _ ha)
    · rcases List.mem_append.mp hb with z | z
      · exact .inl ⟨List.mem_append_left _ z, fun y => n3 b z b (e4 b y) rfl⟩
      · exact (k3 b z).imp (fun y => ⟨List.mem_append_right _ y.1, y.2⟩) id
theorem OwnRf.upd : ∀ {l : List (Str × OV)} {xs : List (Str × V)} {F : List Addr} {f : Str} {o : OV}, OwnRf G H₀ H l xs F → l.lookup f = some o → F.Nodup → ∃ x Fj, xs.lookup f = some x ∧ OwnR G H₀ H o x Fj ∧ Fj.Nodup ∧ (∀ b ∈ Fj, b ∈ F) ∧ Upd G H₀ H F Fj x fun H' F' o' => OwnRf G H₀ H' (putO f o' l) xs F'
  | [], xs, F, j, o, h, e, nd => by simp at e
  | (g, q) :: l, xs, F, f, o, h, e, nd => by
    simp only [OwnRf] at h
    obtain ⟨x, ys, F1, F2, h1, h2, h3, h4⟩ := h
    subst h1 h2
    obtain ⟨n1, n2, n3⟩ := List.nodup_append.mp nd
    by_cases hg : g = f
    · subst hg
      have hb : (g == g) = true := beq_self_eq_true g
      simp only [List.lookup, hb, Option.some.injEq] at e ⊢
      subst e
      refine ⟨x, F1, rfl, h3, n1, fun b hb => List.mem_append_left _ hb, fun H' o' Fs' hk r nd' hm => ?_⟩
      refine ⟨Fs' ++ F2, ?_, List.nodup_append.mpr ⟨nd', n2, fun a ha b hb e => ?_⟩, fun b hb => ?_⟩
      · simp only [putO, if_true, OwnRf]
        exact ⟨x, ys, Fs', F2, rfl, rfl, r, OwnRf.mono (Same.refl _) (fun b hb => hk b (List.mem_append_right _ hb) fun z => n3 b z b hb rfl) h4⟩
      · subst e
        rcases hm a ha with z | z
        · exact n3 a z a hb rfl
        · exact z (List.mem_append_right _ hb)
      · rcases List.mem_append.mp hb with z | z
        · exact .inr z
        · exact .inl ⟨List.mem_append_right _ z, fun y => n3 b y b z rfl⟩
    · have hb : (f == g) = false := beq_eq_false_iff_ne.mpr (Ne.symm hg)
      simp only [List.lookup, hb] at e ⊢
      obtain ⟨w, Fj, e1, e2, e3, e4, e5⟩ := OwnRf.upd h4 e n2
      refine ⟨w, Fj, e1, e2, e3, fun b hb => List.mem_append_right _ (e4 b hb), fun H' o' Fs' hk r nd' hm => ?_⟩
      obtain ⟨F', k1, k2, k3⟩ := e5 H' o' Fs' (fun b hb hn => hk b (List.mem_append_right _ hb) hn) r nd' fun b hb => (hm b hb).imp id fun z y => z (List.mem_append_right _ y)
      refine ⟨F1 ++ F', ?_, List.nodup_append.mpr ⟨n1, k2, fun a ha b hb e => ?_⟩, fun b hb => ?_⟩
      · simp only [putO, if_neg hg, OwnRf]
        exact ⟨x, ys, F1, F', rfl, rfl, OwnR.mono (Same.refl _) (fun b hb => hk b (List.mem_append_left _ hb) fun z => n3 b hb b (e4 b z) rfl) h3, k1⟩
      · subst e
        rcases k3 a hb with z | z
        · exact n3 a ha a z.1 rfl
        · rcases hm a z with y | y
          · exact n3 a ha a (e4 a y) rfl
          · exact y (List.mem_append_left _ ha)
      · rcases List.mem_append.mp hb with z | z
        · exact .inl ⟨List.mem_append_left _ z, fun y => n3 b z b (e4 b y) rfl⟩
        · exact (k3 b z).imp (fun y => ⟨List.mem_append_right _ y.1, y.2⟩) id
theorem OwnR.upd : ∀ (π : List Stp) {o sub : OV} {v : V} {F : List Addr}, OwnR G H₀ H o v F → getP π o = some sub → F.Nodup → ∃ vs Fs, OwnR G H₀ H sub vs Fs ∧ Fs.Nodup ∧ (∀ b ∈ Fs, b ∈ F) ∧ AtP H v π vs ∧ Upd G H₀ H F Fs vs fun H' F' sub' => OwnR G H₀ H' (setP π o sub') v F'
  | [], o, sub, v, F, h, e, nd => by
    cases e
    exact ⟨v, F, h, nd, fun _ hb => hb, rfl, fun H' o' Fs' hk r nd' hm => ⟨Fs', r, nd', fun b hb => .inr hb⟩⟩
  | .ix j :: π, o, sub, v, F, h, e, nd => by
    cases o with
    | sh p => cases e
    | obj c fs => cases e
    | own l =>
      have e : (l[j]?).bind (getP π) = some sub := e
      cases ej : l[j]? with
      | none => rw [ej] at e; cases e
      | some oj =>
        rw [ej] at e
        simp only [OwnR] at h
        obtain ⟨a, xs, F', h1, h2, h3, h4⟩ := h
        subst h2
        obtain ⟨na, nd'⟩ := List.nodup_cons.mp nd
        obtain ⟨x, Fj, p1, p2, p3, p4, p5⟩ := OwnRs.upd h4 ej nd'
        obtain ⟨vs, Fs, q1, q2, q3, q4, q5⟩ := OwnR.upd π p2 e p3
        refine ⟨vs, Fs, q1, q2, fun b hb => List.mem_cons_of_mem _ (p4 b (q3 b hb)), ⟨a, xs, x, h1, h3, p1, q4⟩, fun H' sub' Fs' hk r ndr hm => ?_⟩
        obtain ⟨F1, r1, r2, r3⟩ := q5 H' sub' Fs' (fun b hb hn => hk b (List.mem_cons_of_mem _ (p4 b hb)) hn) r ndr fun b hb => (hm b hb).imp id fun z y => z (List.mem_cons_of_mem _ (p4 b y))
        obtain ⟨F2, s1, s2, s3⟩ := p5 H' (setP π oj sub') F1 (fun b hb hn => hk b (List.mem_cons_of_mem _ hb) fun z => hn (q3 b z)) r1 r2 fun b hb => by
          rcases r3 b hb with z | z
          · exact .inl z.1
          · rcases hm b z with y | y
            · exact .inl (q3 b y)
            · exact .inr fun w => y (List.mem_cons_of_mem _ w)
        have ab : a ∉ Fs := fun z => na (p4 a (q3 a z))
        have aF2 : a ∉ F2 := fun z => by
          rcases s3 a z with y | y
          · exact na y.1
          · rcases r3 a y with w | w
            · exact na (p4 a w.1)
            · rcases hm a w with u | u
              · exact ab u
              · exact u List.mem_cons_self
        refine ⟨a :: F2, ?_, List.nodup_cons.mpr ⟨aF2, s2⟩, fun b hb => ?_⟩
        · show OwnR G H₀ H' (match l[j]? with | some o => OV.own (l.set j (setP π o sub')) | none => OV.own l) v (a :: F2)
          rw [ej]
          simp only [OwnR]
          exact ⟨a, xs, F2, h1, rfl, by rw [hk a List.mem_cons_self ab]; exact h3, s1⟩
        · rcases List.mem_cons.mp hb with z | z
          · rw [z]
            exact .inl ⟨List.mem_cons_self, ab⟩
          · rcases s3 b z with y | y
            · exact .inl ⟨List.mem_cons_of_mem _ y.1, fun w => y.2 (q3 b w)⟩
            · exact (r3 b y).imp (fun w => ⟨List.mem_cons_of_mem _ (p4 b w.1), w.2⟩) id
  | .fl f :: π, o, sub, v, F, h, e, nd => by
    cases o with
    | sh p => cases e
    | own l => cases e
    | obj c fs =>
      have e : (fs.lookup f).bind (getP π) = some sub := e
      cases ej : fs.lookup f with
      | none => rw [ej] at e; cases e
      | some oj =>
        rw [ej] at e
        simp only [OwnR] at h
        obtain ⟨a, dx, xs, F', h1, h2, h3, h4⟩ := h
        subst h2
        obtain ⟨na, nd'⟩ := List.nodup_cons.mp nd
        obtain ⟨x, Fj, p1, p2, p3, p4, p5⟩ := OwnRf.upd h4 ej nd'
        obtain ⟨vs, Fs, q1, q2, q3, q4, q5⟩ := OwnR.upd π p2 e p3
        refine ⟨vs, Fs, q1, q2, fun b hb => List.mem_cons_of_mem _ (p4 b (q3 b hb)), ⟨a, _, dx, xs, x, h1, h3, p1, q4⟩, fun H' sub' Fs' hk r ndr hm => ?_⟩
        obtain ⟨F1, r1, r2, r3⟩ := q5 H' sub' Fs' (fun b hb hn => hk b (List.mem_cons_of_mem _ (p4 b hb)) hn) r ndr fun b hb => (hm b hb).imp id fun z y => z (List.mem_cons_of_mem _ (p4 b y))
        obtain ⟨F2, s1, s2, s3⟩ := p5 H' (setP π oj sub') F1 (fun b hb hn => hk b (List.mem_cons_of_mem _ hb) fun z => hn (q3 b z)) r1 r2 fun b hb => by
          rcases r3 b hb with z | z
          · exact .inl z.1
          · rcases hm b z with y | y
            · exact .inl (q3 b y)
            · exact .inr fun w => y (List.mem_cons_of_mem _ w)
        have ab : a ∉ Fs := fun z => na (p4 a (q3 a z))
        have aF2 : a ∉ F2 := fun z => by
          rcases s3 a z with y | y
          · exact na y.1
          · rcases r3 a y with w | w
            · exact na (p4 a w.1)
            · rcases hm a w with u | u
              · exact ab u
              · exact u List.mem_cons_self
        refine ⟨a :: F2, ?_, List.nodup_cons.mpr ⟨aF2, s2⟩, fun b hb => ?_⟩
        · show OwnR G H₀ H' (match fs.lookup f with | some o => OV.obj c (putO f (setP π o sub') fs) | none => OV.obj c fs) v (a :: F2)
          rw [ej]
          simp only [OwnR]
          exact ⟨a, dx, xs, F2, h1, rfl, by rw [hk a List.mem_cons_self ab]; exact h3, s1⟩
        · rcases List.mem_cons.mp hb with z | z
          · rw [z]
            exact .inl ⟨List.mem_cons_self, ab⟩
          · rcases s3 b z with y | y
            · exact .inl ⟨List.mem_cons_of_mem _ y.1, fun w => y.2 (q3 b w)⟩
            · exact (r3 b y).imp (fun w => ⟨List.mem_cons_of_mem _ (p4 b w.1), w.2⟩) id
theorem EnvR.upd : ∀ {ρ : Env} {σ : L2.St} {F : List Addr} {i : Nat} {π : List Stp} {o sub : OV}, EnvR G H₀ H ρ σ F → ρ[i]? = some (some o) → getP π o = some sub → F.Nodup →
    ∃ v vs Fs, σ[i]? = some (some v) ∧ OwnR G H₀ H sub vs Fs ∧ Fs.Nodup ∧ (∀ b ∈ Fs, b ∈ F) ∧ AtP H v π vs ∧ Upd G H₀ H F Fs vs fun H' F' sub' => EnvR G H₀ H' (ρ.set i (some (setP π o sub'))) σ F'
  | [], σ, F, i, π, o, sub, h, e, g, nd => by simp at e
  | none :: ρ, σ, F, 0, π, o, sub, h, e, g, nd => by simp at e
  | none :: ρ, σ, F, i + 1, π, o, sub, h, e, g, nd => by
    obtain ⟨x, τ, h1, h2⟩ := h
    subst h1
    obtain ⟨v, vs, Fs, e1, e2, e3, e4, e5, e6⟩ := EnvR.upd (i := i) h2 (by simpa using e) g nd
    refine ⟨v, vs, Fs, by simpa using e1, e2, e3, e4, e5, fun H' sub' Fs' hk r nd' hm => ?_⟩
    obtain ⟨F', k1, k2, k3⟩ := e6 H' sub' Fs' hk r nd' hm
    exact ⟨F', ⟨x, τ, rfl, k1⟩, k2, k3⟩
  | some o' :: ρ, σ, F, 0, π, o, sub, h, e, g, nd => by
    obtain ⟨v, τ, F1, F2, h1, h2, h3, h4⟩ := h
    subst h1 h2
    simp at e
    subst e
    obtain ⟨n1, n2, n3⟩ := List.nodup_append.mp nd
    obtain ⟨vs, Fs, q1, q2, q3, q4, q5⟩ := OwnR.upd π h3 g n1
    refine ⟨v, vs, Fs, rfl, q1, q2, fun b hb => List.mem_append_left _ (q3 b hb), q4, fun H' sub' Fs' hk r nd' hm => ?_⟩
    obtain ⟨F', k1, k2, k3⟩ := q5 H' sub' Fs' (fun b hb hn => hk b (List.mem_append_left _ hb) hn) r nd' fun b hb => (hm b hb).imp id fun z y => z (List.mem_append_left _ y)
    refine ⟨F' ++ F2, ⟨v, τ, F', F2, rfl, rfl, k1, EnvR.mono (Same.refl _) (fun b hb => hk b (List.mem_append_right _ hb) fun z => n3 b (q3 b z) b hb rfl) h4⟩, List.nodup_append.mpr ⟨k2, n2, fun a ha b hb e => ?_⟩, fun b hb => ?_⟩
    · subst e
      rcases k3 a ha with z | z
      · exact n3 a z.1 a hb rfl
      · rcases hm a z with y | y
        · exact n3 a (q3 a y) a hb rfl
        · exact y (List.mem_append_right _ hb)
    · rcases List.mem_append.mp hb with z | z
      · exact (k3 b z).imp (fun y => ⟨List.mem_append_left _ y.1, y.2⟩) id
      · exact .inl ⟨List.mem_append_right _ z, fun y => n3 b (q3 b y) b z rfl⟩
  | some o' :: ρ, σ, F, i + 1, π, o, sub, h, e, g, nd => by
    obtain ⟨v0, τ, F1, F2, h1, h2, h3, h4⟩ := h
    subst h1 h2
    obtain ⟨n1, n2, n3⟩ := List.nodup_append.mp nd
    obtain ⟨v, vs, Fs, e1, e2, e3, e4, e5, e6⟩ := EnvR.upd (i := i) h4 (by simpa using e) g n2
    refine ⟨v, vs, Fs, by simpa using e1, e2, e3, fun b hb => List.mem_append_right _ (e4 b hb), e5, fun H' sub' Fs' hk r nd' hm => ?_⟩
    obtain ⟨F', k1, k2, k3⟩ := e6 H' sub' Fs' (fun b hb hn => hk b (List.mem_append_right _ hb) hn) r nd' fun b hb => (hm b hb).imp id fun z y => z (List.mem_append_right _ y)
    refine ⟨F1 ++ F', ⟨v0, τ, F1, F', rfl, rfl, OwnR.mono (Same.refl _) (fun b hb => hk b (List.mem_append_left _ hb) fun z => n3 b hb b (e4 b z) rfl) h3, k1⟩, List.nodup_append.mpr ⟨n1, k2, fun a ha b hb e => ?_⟩, fun b hb => ?_⟩
    · subst e
      rcases k3 a hb with z | z
      · exact n3 a ha a z.1 rfl
      · rcases hm a z with y | y
        · exact n3 a ha a (e4 a y) rfl
        · exact y (List.mem_append_left _ ha)
    · rcases List.mem_append.mp hb with z | z
      · exact .inl ⟨List.mem_append_left _ z, fun y => n3 b z b (e4 b y) rfl⟩
      · exact (k3 b z).imp (fun y => ⟨List.mem_append_right _ y.1, y.2⟩) id
end
end L3

end
section
/-! L3. 10: paths to what is owned; append, stores -/
namespace L3
open PySem PySem.Spec PyProof.Rows L2
abbrev Pth := Nat × List Stp
def atE (ρ : Env) (q : Pth) : Option OV := match ρ[q.1]? with
  | some (some o) => getP q.2 o
  | _ => none
def upE (ρ : Env) (q : Pth) (n : OV) : Env := match ρ[q.1]? with
  | some (some o) => ρ.set q.1 (some (setP q.2 o n))
  | _ => ρ
section
variable {C : Fc} {W : WX} {D : Ends} {m : Bool} {X : Cx} {o e b : Expr} {es : List Expr} {pos p : Pos} {σ : L2.St} {H H₀ : Hp} {F : List Addr} {ρ : Env} {x : Str} {i : Nat}
theorem SR.at (S : SR C H₀ F ρ σ H) {q : Pth} {sub : OV} (h : atE ρ q = some sub) : ∃ t vs Fs, σ[q.1]? = some (some t) ∧ OwnR C.G H₀ H sub vs Fs ∧ Fs.Nodup ∧ (∀ b ∈ Fs, b ∈ F) ∧ AtP H t q.2 vs ∧
    ∀ a ho Fs0 sub' Fs', Fs = a :: Fs0 → OwnR C.G H₀ (upd H a ho) sub' vs Fs' → Fs'.Nodup → (∀ b ∈ Fs', b ∈ Fs ∨ (b ∉ F ∧ C.He b = none ∧ H₀ b = none)) → ∃ F', SR C H₀ F' (upE ρ q sub') σ (upd H a ho) := by
  unfold atE at h
  cases e : ρ[q.1]? with
  | none => rw [e] at h; cases h
  | some oo =>
    rw [e] at h
    cases oo with
    | none => cases h
    | some o =>
      obtain ⟨v, vs, Fs, e1, e2, e3, e4, e5, e6⟩ := EnvR.upd (π := q.2) S.env e h S.nd
      refine ⟨v, vs, Fs, e1, e2, e3, e4, e5, fun a ho Fs0 sub' Fs' ea r nd hm => ?_⟩
      have aF : a ∈ F := e4 a (by rw [ea]; exact List.mem_cons_self)
      have aFs : a ∈ Fs := by rw [ea]; exact List.mem_cons_self
      obtain ⟨F', k1, k2, k3⟩ := e6 (upd H a ho) sub' Fs' (fun b _ hn => upd_ne fun z => hn (z ▸ aFs)) r nd fun b hb => (hm b hb).imp id fun z => z.1
      unfold upE
      rw [e]
      refine ⟨F', fun c u q => ?_, fun c u q => ?_, S.n, S.hz, k1, k2, fun b hb => ?_, S.fx, S.hx⟩
      · rw [upd_ne fun z => by rw [z, (S.fr a aF).1] at q; cases q]
        exact S.e c u q
      · rw [upd_ne fun z => by rw [z, (S.fr a aF).2] at q; cases q]
        exact S.z c u q
      · rcases k3 b hb with z | z
        · exact S.fr b z.1
        · rcases hm b z with y | y
          · exact S.fr b (e4 b y)
          · exact y.2
/-! ### paths -/
def tP (C : Fc) (W : WX) (g : Env → R Pth) : TE := fun σ H Q => ∃ H₀ F ρ, SR C H₀ F ρ σ H ∧ Goes C.G W (g ρ) σ H H₀ fun q => ∀ v t H' H₀', Ext H₀ H H₀' H' → σ[q.1]? = some (some t) → AtP H' t q.2 v → Q v H'
abbrev QP (C : Fc) (W : WX) (X : Cx) (e : Expr) (g : Env → R Pth) : Prop := PE X e (tP C W g)
def pthR (ρ : Env) (q : Pth) : R Pth := match atE ρ q with
  | some (.own _) => .ok q
  | some (.obj _ _) => .ok q
  | _ => .no
def pVar (i : Nat) : Env → R Pth := fun ρ => pthR ρ (i, [])
theorem pthR_some {q q' : Pth} (h : pthR ρ q = .ok q') : q' = q ∧ ∃ sub, atE ρ q = some sub := by
  unfold pthR at h
  cases e : atE ρ q with
  | none => rw [e] at h; cases h
  | some o =>
    rw [e] at h
    cases o with
    | sh p => cases h
    | own l => cases h; exact ⟨rfl, _, rfl⟩
    | obj c fs => cases h; exact ⟨rfl, _, rfl⟩
theorem pthR_calm {q : Pth} {x : PX} : pthR ρ q ≠ .er x := by
  unfold pthR
  split <;> (intro z; cases z)
theorem qpVar (i : Nat) {x : Str} (hN : X.N[i]? = some x := by rfl) (hv : Vis X.env.scope x := by first | exact Or.inl rfl | exact Or.inr (Or.inl rfl) | exact Or.inr (Or.inr rfl)) (hd : (x == ("__debug__" : Str)) = false := by decide)
    (hcd : (x == ("__classdict__" : Str)) = false := by decide) : QP C W X (.Name x pos) (pVar i) := by
  refine PE.imp (pe_var hN hv hd hcd) fun σ H Q h => ?_
  obtain ⟨H₀, F, ρ, S, h⟩ := h
  unfold pVar at h
  cases e : pthR ρ (i, []) with
  | er x => exact absurd e pthR_calm
  | no => rw [e] at h; exact h.elim
  | ok q =>
    obtain ⟨rfl, sub, hs⟩ := pthR_some e
    rw [e] at h
    obtain ⟨t, vs, Fs, e1, _, _, _, e5, _⟩ := S.at hs
    exact ⟨t, e1, h t t H H₀ (Ext.refl S.z) e1 rfl⟩
/-- b[e] on the way -/
def pIx (g : Env → R Pth) (f : Env → R PV) : Env → R Pth := fun ρ => (g ρ).bind fun q => (f ρ).bind fun p => match atE ρ q, p with
  | some (.own l), .int k => (match ixN l.length k with
    | some j => pthR ρ (q.1, q.2 ++ [.ix j])
    | none => .no)
  | _, _ => .no
theorem atE_snoc {q : Pth} {sub : OV} {s : Stp} (h : atE ρ q = some sub) : atE ρ (q.1, q.2 ++ [s]) = getP [s] sub := by
  unfold atE at h ⊢
  cases e : ρ[q.1]? with
  | none => rw [e] at h; cases h
  | some oo =>
    rw [e] at h
    cases oo with
    | none => cases h
    | some o => exact getP_snoc h
theorem OwnRs.get {G : Gc} {H₀ H : Hp} : ∀ {l : List OV} {xs : List V} {F : List Addr} {j : Nat} {o : OV}, OwnRs G H₀ H l xs F → l[j]? = some o → ∃ x Fj, xs[j]? = some x ∧ OwnR G H₀ H o x Fj ∧ ∀ b ∈ Fj, b ∈ F
  | [], xs, F, j, o, h, e => by simp at e
  | q :: l, xs, F, 0, o, h, e => by
    simp only [OwnRs] at h
    obtain ⟨x, ys, F1, F2, h1, h2, h3, h4⟩ := h
    subst h1 h2
    simp at e
    subst e
    exact ⟨x, F1, rfl, h3, fun b hb => List.mem_append_left _ hb⟩
  | q :: l, xs, F, j + 1, o, h, e => by
    simp only [OwnRs] at h
    obtain ⟨x, ys, F1, F2, h1, h2, h3, h4⟩ := h
    subst h1 h2
    obtain ⟨w, Fj, e1, e2, e3⟩ := OwnRs.get (j := j) h4 (by simpa using e)
    exact ⟨w, Fj, by simpa using e1, e2, fun b hb => List.mem_append_right _ (e3 b hb)⟩
theorem OwnRs.length {G : Gc} {H₀ H : Hp} : ∀ {l : List OV} {xs : List V} {F : List Addr}, OwnRs G H₀ H l xs F → l.length = xs.length
  | [], xs, F, h => by simp only [OwnRs] at h; rw [h.1]; rfl
  | q :: l, xs, F, h => by
    simp only [OwnRs] at h
    obtain ⟨x, ys, F1, F2, h1, h2, h3, h4⟩ := h
    subst h1
    simp only [List.length_cons, OwnRs.length h4]
theorem qpIx {g : Env → R Pth} {f : Env → R PV} (hb : QP C W X b g) (hi : QE C W m X e f) (hs : PlainIx e := by exact fun _ _ => rfl) : QP C W X (.Subscript b e pos) (pIx g f) := by
  refine PE.imp (pe_ix ix_list hb hi hs) fun σ H Q h => ?_
  show tP C W g σ H fun x H1 => tE C W m f σ H1 fun y H2 => rIxL X.K x y H2 Q
  obtain ⟨H₀, F, ρ, S, h⟩ := h
  unfold pIx at h
  rw [Goes.bind] at h
  refine ⟨H₀, F, ρ, S, h.imp fun q eq h v t H1 H₁ E1 et ev => ?_⟩
  rw [Goes.bind] at h
  rw [tE_iff]
  have S1 := S.ext E1
  refine ⟨H₁, F, ρ, S1, (h.later E1).imp fun p _ h w H2 H₂ E2 rw' => ?_⟩
  have S2 := S1.ext E2
  cases ea : atE ρ q with
  | none => rw [ea] at h; exact (show False from h).elim
  | some sub =>
    rw [ea] at h
    match sub, p, ea, h, rw' with
    | .own l, .int k, ea, h, rw' =>
      dsimp only at h
      cases ej : ixN l.length k with
      | none => rw [ej] at h; exact h.elim
      | some j =>
        rw [ej] at h
        dsimp only at h
        cases ep : pthR ρ (q.1, q.2 ++ [.ix j]) with
        | er x => exact absurd ep pthR_calm
        | no => rw [ep] at h; exact h.elim
        | ok q' =>
          obtain ⟨rfl, sub', hs'⟩ := pthR_some ep
          rw [ep] at h
          obtain ⟨t', vs, Fs, e1, e2, e3, e4, e5, _⟩ := S2.at ea
          have et2 : t' = t := by rw [et] at e1; cases e1; rfl
          subst et2
          have ev2 : v = vs := AtP.det (ev.mono E2.s) e5
          subst ev2
          simp only [OwnR] at e2
          obtain ⟨a, xs, F', h1, h2, h3, h4⟩ := e2
          rw [atE_snoc ea] at hs'
          have hl : l[j]? = some sub' := by
            have z : (l[j]?).bind (getP []) = some sub' := hs'
            cases q : l[j]? with
            | none => rw [q] at z; cases z
            | some o => rw [q] at z; exact z
          obtain ⟨x, Fj, p1, p2, p3⟩ := h4.get hl
          simp only [Rep] at rw'
          refine ⟨a, xs, k, x, h1, rw', SqL.of h3, ?_, ?_⟩
          · unfold atI
            rw [← h4.length, ej]
            exact p1
          · exact h x t' H2 H₂ (E1.trans E2) et (AtP.snoc e5 ⟨a, xs, x, h1, h3, p1, rfl⟩)
    | .sh p', p, ea, h, rw' => exact (show False from h).elim
    | .obj c fs, p, ea, h, rw' => exact (show False from h).elim
    | .own l, .non, ea, h, rw' => exact (show False from h).elim
    | .own l, .bl _, ea, h, rw' => exact (show False from h).elim
    | .own l, .str _, ea, h, rw' => exact (show False from h).elim
    | .own l, .lst _, ea, h, rw' => exact (show False from h).elim
    | .own l, .scr _, ea, h, rw' => exact (show False from h).elim
    | .own l, .tup _, ea, h, rw' => exact (show False from h).elim
    | .own l, .ins _ _, ea, h, rw' => exact (show False from h).elim
/-! ### o.append(e) -/
def apR (q : Pth) (n : OV) (ρ : Env) : RS := match atE ρ q with
  | some (.own l) => if l.length < sizeLine then .nx (upE ρ q (.own (l ++ [n]))) else .no
  | _ => .no
def sApp (g : Env → R Pth) (f : Env → R (OV × Env)) : Env → RS := fun ρ => (g ρ).to ρ fun q => match atE ρ q with
  | some (.own _) => (f ρ).to ρ fun r => apR q r.1 r.2
  | _ => .no
theorem app_step {q : Pth} {n : OV} {t v w : V} {Fo : List Addr} (S : SR C H₀ F ρ σ H) (r : OwnR C.G H₀ H n w Fo) (nd : (Fo ++ F).Nodup) (fr : ∀ a ∈ Fo, C.He a = none ∧ H₀ a = none) (et : σ[q.1]? = some (some t)) (ev : AtP H t q.2 v)
    (h : Aft C W D (apR q n ρ)) : ∃ a xs, v = .ref a ∧ H a = some (.lst xs) ∧ xs.length < sizeLine ∧ D.nx σ (upd H a (.lst (xs ++ [w]))) ∧ a ∈ F := by
  unfold apR at h
  cases ea : atE ρ q with
  | none => rw [ea] at h; exact h.elim
  | some sub =>
    rw [ea] at h
    cases sub with
    | sh p => exact h.elim
    | obj c fs => exact h.elim
    | own l =>
      dsimp only at h
      by_cases hl : l.length < sizeLine
      · rw [if_pos hl] at h
        obtain ⟨t', vs, Fs, e1, e2, e3, e4, e5, e6⟩ := S.at ea
        have et2 : t' = t := by rw [et] at e1; cases e1; rfl
        subst et2
        have ev2 : v = vs := AtP.det ev e5
        subst ev2
        simp only [OwnR] at e2
        obtain ⟨a, xs, F', h1, h2, h3, h4⟩ := e2
        obtain ⟨n1, n2, n3⟩ := List.nodup_append.mp nd
        subst h2
        obtain ⟨na, nd'⟩ := List.nodup_cons.mp e3
        have aFo : a ∉ Fo := fun z => n3 a z a (e4 a List.mem_cons_self) rfl
        have keep1 : ∀ b ∈ F', upd H a (.lst (xs ++ [w])) b = H b := fun b hb => upd_ne fun z => na (z ▸ hb)
        have keep2 : ∀ b ∈ Fo, upd H a (.lst (xs ++ [w])) b = H b := fun b hb => upd_ne fun z => aFo (z ▸ hb)
        have o2 : OwnRs C.G H₀ (upd H a (.lst (xs ++ [w]))) (l ++ [n]) (xs ++ [w]) (F' ++ Fo) := OwnRs.snoc (OwnR.mono (Same.refl _) keep2 r) (OwnRs.mono (Same.refl _) keep1 h4)
        obtain ⟨F2, S2⟩ := e6 a (.lst (xs ++ [w])) F' (.own (l ++ [n])) (a :: (F' ++ Fo)) rfl (by simp only [OwnR]; exact ⟨a, _, _, h1, rfl, upd_same, o2⟩)
          (List.nodup_cons.mpr ⟨fun z => (List.mem_append.mp z).elim na aFo, List.nodup_append.mpr ⟨nd', n1, fun x hx y hy e => n3 y hy x (e4 x (List.mem_cons_of_mem _ hx)) e.symm⟩⟩)
          fun b hb => by
            rcases List.mem_cons.mp hb with z | z
            · exact .inl (by rw [z]; exact List.mem_cons_self)
            · rcases List.mem_append.mp z with z | z
              · exact .inl (List.mem_cons_of_mem _ z)
              · exact .inr ⟨fun y => n3 b z b y rfl, fr b z⟩
        exact ⟨a, xs, h1, h3, by rw [← h4.length]; exact hl, h σ _ H₀ F2 S2, e4 a List.mem_cons_self⟩
      · rw [if_neg hl] at h
        exact h.elim
theorem qApp {g : Env → R Pth} {f : Env → R (OV × Env)} {apos cpos : Pos} (ho : QP C W X o g) (he : QM C W X e f) (hsw : swapsWith (.Call (.Attribute o "append" apos) [e] [] cpos) none pos.line X.env = pure false := by rfl)
    (hbase : attributeBase o "append" X.env (eval o X.env) = eval o X.env := by rfl)
    (hfew : ((backTo cpos (starEach (e :: []) X.env)).all (fun x => !x.1) && (backToKw cpos (keywordEach [] X.env)).all (fun x => x.1.isSome)
      && decide ((e :: ([] : List Expr)).length + ([] : List Keyword).length + (if ([] : List Keyword).isEmpty then 0 else 1) < 30)) = true := by rfl)
    (hline : (apos.endLine == cpos.line) = true := by rfl) (hs : starEach (e :: []) X.env = (false, eval e X.env) :: starEach [] X.env := by rfl) (hplain : (backTo cpos (starEach [] X.env)).any (·.1) = false := by rfl) :
    QS C W X (.Expr (.Call (.Attribute o "append" apos) [e] [] cpos) pos) (sApp g f) := by
  have ha : PA X [e] (tCons (tM C W f) tNil) := pa_cons he pa_nil hs
  refine PS.imp (ps_expr (pe_bm PySem.F.plainAttrs_list PySem.F.slot_list_append PySem.F.type_list_append mt_append ho ha hbase hfew hline hs hplain) hsw) fun D σ H h => ?_
  show tP C W g σ H fun x H1 => tyV X.K "list" x H1 ∧ tM C W f σ H1 fun w H2 => rAppend x [w] H2 fun _ H3 => D.nx σ H3
  obtain ⟨H₀, F, ρ, S, h⟩ := h
  refine ⟨H₀, F, ρ, S, (Aft.to S h).imp fun q eq h v t H1 H₁ E1 et ev => ?_⟩
  have S1 := S.ext E1
  cases ea : atE ρ q with
  | none => rw [ea] at h; exact h.elim
  | some sub =>
    rw [ea] at h
    cases sub with
    | sh p => exact h.elim
    | obj c fs => exact h.elim
    | own l =>
      have ty : tyV X.K "list" v H1 := by
        obtain ⟨t', vs, Fs, e1, e2, e3, e4, e5, e6⟩ := S1.at ea
        have et2 : t' = t := by rw [et] at e1; cases e1; rfl
        subst et2
        have ev2 : v = vs := AtP.det ev e5
        subst ev2
        simp only [OwnR] at e2
        obtain ⟨a, xs, F', h1, h2, h3, h4⟩ := e2
        subst h1
        exact .inl ⟨rfl, xs, SqL.of h3⟩
      refine ⟨ty, H₁, F, ρ, S1, (Aft.to S1 h).imp fun r er h w H2 H₂ Fo Fr E2 S2 ro nd fr => ?_⟩
      obtain ⟨a, xs, h1, h2, h3, h4, _⟩ := app_step S2 ro nd fr et (ev.mono E2.s) h
      exact ⟨a, xs, w, h1, rfl, h2, h3, h4⟩
/-! ### o[i] = e -/
theorem OwnRs.put {G : Gc} {H₀ H : Hp} {n : OV} {w : V} {Fo : List Addr} (r : OwnR G H₀ H n w Fo) (ndo : Fo.Nodup) : ∀ {l : List OV} {xs : List V} {F : List Addr} (j : Nat), OwnRs G H₀ H l xs F → F.Nodup → (∀ b ∈ Fo, b ∉ F) → ∃ F', OwnRs G H₀ H (l.set j n) (xs.set j w) F' ∧ F'.Nodup ∧ ∀ b ∈ F', b ∈ F ∨ b ∈ Fo
  | [], xs, F, j, h, nd, ap => by
    simp only [OwnRs] at h
    obtain ⟨h1, h2⟩ := h
    subst h1 h2
    exact ⟨[], by simp [OwnRs], List.nodup_nil, fun b hb => by cases hb⟩
  | q :: l, xs, F, 0, h, nd, ap => by
    simp only [OwnRs] at h
    obtain ⟨x, ys, F1, F2, h1, h2, h3, h4⟩ := h
    subst h1 h2
    refine ⟨Fo ++ F2, by simp only [List.set_cons_zero, OwnRs]; exact ⟨w, ys, Fo, F2, rfl, rfl, r, h4⟩, List.nodup_append.mpr ⟨ndo, (List.nodup_append.mp nd).2.1, fun a ha b hb e => ap a ha (List.mem_append_right _ (e ▸ hb))⟩, fun b hb => ?_⟩
    exact (List.mem_append.mp hb).elim .inr fun z => .inl (List.mem_append_right _ z)
  | q :: l, xs, F, j + 1, h, nd, ap => by
    simp only [OwnRs] at h
    obtain ⟨x, ys, F1, F2, h1, h2, h3, h4⟩ := h
    subst h1 h2
    obtain ⟨n1, n2, n3⟩ := List.nodup_append.mp nd
    obtain ⟨F', k1, k2, k3⟩ := OwnRs.put r ndo j h4 n2 fun b hb z => ap b hb (List.mem_append_right _ z)
    refine ⟨F1 ++ F', by simp only [List.set_cons_succ, OwnRs]; exact ⟨x, _, F1, F', rfl, rfl, h3, k1⟩, List.nodup_append.mpr ⟨n1, k2, fun a ha b hb e => ?_⟩, fun b hb => ?_⟩
    · subst e
      rcases k3 a hb with z | z
      · exact n3 a ha a z rfl
      · exact ap a z (List.mem_append_left _ ha)
    · rcases List.mem_append.mp hb with z | z
      · exact .inl (List.mem_append_left _ z)
      · exact (k3 b z).imp (List.mem_append_right _) id
theorem OwnRf.put {G : Gc} {H₀ H : Hp} {n : OV} {w : V} {Fo : List Addr} {f : Str} (r : OwnR G H₀ H n w Fo) (ndo : Fo.Nodup) : ∀ {l : List (Str × OV)} {xs : List (Str × V)} {F : List Addr}, OwnRf G H₀ H l xs F → F.Nodup → (∀ b ∈ Fo, b ∉ F) → ∃ F', OwnRf G H₀ H (putO f n l) (putF f w xs) F' ∧ F'.Nodup ∧ ∀ b ∈ F', b ∈ F ∨ b ∈ Fo
  | [], xs, F, h, nd, ap => by
    simp only [OwnRf] at h
    obtain ⟨h1, h2⟩ := h
    subst h1 h2
    exact ⟨Fo, by simp only [putO, putF, OwnRf]; exact ⟨w, [], Fo, [], rfl, by simp, r, rfl, rfl⟩, ndo, fun b hb => .inr hb⟩
  | (g, q) :: l, xs, F, h, nd, ap => by
    simp only [OwnRf] at h
    obtain ⟨x, ys, F1, F2, h1, h2, h3, h4⟩ := h
    subst h1 h2
    obtain ⟨n1, n2, n3⟩ := List.nodup_append.mp nd
    by_cases hg : g = f
    · refine ⟨Fo ++ F2, by simp only [putO, putF, if_pos hg, OwnRf]; exact ⟨w, ys, Fo, F2, rfl, rfl, r, h4⟩, List.nodup_append.mpr ⟨ndo, n2, fun a ha b hb e => ap a ha (List.mem_append_right _ (e ▸ hb))⟩, fun b hb => ?_⟩
      exact (List.mem_append.mp hb).elim .inr fun z => .inl (List.mem_append_right _ z)
    · obtain ⟨F', k1, k2, k3⟩ := OwnRf.put r ndo h4 n2 fun b hb z => ap b hb (List.mem_append_right _ z)
      refine ⟨F1 ++ F', by simp only [putO, putF, if_neg hg, OwnRf]; exact ⟨x, _, F1, F', rfl, rfl, h3, k1⟩, List.nodup_append.mpr ⟨n1, k2, fun a ha b hb e => ?_⟩, fun b hb => ?_⟩
      · subst e
        rcases k3 a hb with z | z
        · exact n3 a ha a z rfl
        · exact ap a z (List.mem_append_left _ ha)
      · rcases List.mem_append.mp hb with z | z
        · exact .inl (List.mem_append_left _ z)
        · exact (k3 b z).imp (List.mem_append_right _) id
theorem OwnRf.length {G : Gc} {H₀ H : Hp} : ∀ {l : List (Str × OV)} {xs : List (Str × V)} {F : List Addr}, OwnRf G H₀ H l xs F → l.length = xs.length
  | [], xs, F, h => by simp only [OwnRf] at h; rw [h.1]; rfl
  | (g, q) :: l, xs, F, h => by
    simp only [OwnRf] at h
    obtain ⟨x, ys, F1, F2, h1, h2, h3, h4⟩ := h
    subst h1
    simp only [List.length_cons, OwnRf.length h4]
/-- what is held aside stays apart -/
theorem aside {n : OV} {w : V} {Fo : List Addr} {H' H₀' : Hp} (r : OwnR C.G H₀ H n w Fo) (fr : ∀ a ∈ Fo, C.He a = none ∧ H₀ a = none) (E : Ext H₀ H H₀' H') : OwnR C.G H₀' H' n w Fo ∧ ∀ a ∈ Fo, C.He a = none ∧ H₀' a = none := by
  refine ⟨OwnR.mono E.s0 (fun a ha => ?_) r, fun a ha => ⟨(fr a ha).1, ?_⟩⟩
  · obtain ⟨u, e⟩ := r.there a ha
    rw [e, E.s a u e]
  · obtain ⟨u, e⟩ := r.there a ha
    rw [E.n a (ne_none_of e)]
    exact (fr a ha).2
def stR (q : Pth) (p : PV) (n : OV) (ρ : Env) : RS := match atE ρ q, p with
  | some (.own l), .int k => (match ixN l.length k with
    | some j => .nx (upE ρ q (.own (l.set j n)))
    | none => .no)
  | _, _ => .no
def sSt (g : Env → R Pth) (fi : Env → R PV) (f : Env → R (OV × Env)) : Env → RS := fun ρ => (f ρ).to ρ fun r => (g r.2).to r.2 fun q => (fi r.2).to r.2 fun p => stR q p r.1 r.2
theorem st_step {q : Pth} {p : PV} {n : OV} {t v w y : V} {Fo : List Addr} (S : SR C H₀ F ρ σ H) (r : OwnR C.G H₀ H n w Fo) (nd : (Fo ++ F).Nodup) (fr : ∀ a ∈ Fo, C.He a = none ∧ H₀ a = none) (et : σ[q.1]? = some (some t)) (ev : AtP H t q.2 v) (ry : Rep C.G (md m H₀ H F) p y)
    (h : Aft C W D (stR q p n ρ)) : rSetL v y w H fun H' => D.nx σ H' := by
  unfold stR at h
  cases ea : atE ρ q with
  | none => rw [ea] at h; exact (show False from h).elim
  | some sub =>
    rw [ea] at h
    match sub, p, ea, h, ry with
    | .own l, .int k, ea, h, ry =>
      dsimp only at h
      cases ej : ixN l.length k with
      | none => rw [ej] at h; exact h.elim
      | some j =>
        rw [ej] at h
        obtain ⟨t', vs, Fs, e1, e2, e3, e4, e5, e6⟩ := S.at ea
        have et2 : t' = t := by rw [et] at e1; cases e1; rfl
        subst et2
        have ev2 : v = vs := AtP.det ev e5
        subst ev2
        simp only [OwnR] at e2
        obtain ⟨a, xs, F', h1, h2, h3, h4⟩ := e2
        simp only [Rep] at ry
        obtain ⟨n1, n2, n3⟩ := List.nodup_append.mp nd
        subst h2
        obtain ⟨na, nd'⟩ := List.nodup_cons.mp e3
        have aFo : a ∉ Fo := fun z => n3 a z a (e4 a List.mem_cons_self) rfl
        have keep1 : ∀ b ∈ F', upd H a (.lst (xs.set j w)) b = H b := fun b hb => upd_ne fun z => na (z ▸ hb)
        have keep2 : ∀ b ∈ Fo, upd H a (.lst (xs.set j w)) b = H b := fun b hb => upd_ne fun z => aFo (z ▸ hb)
        obtain ⟨F1, k1, k2, k3⟩ := OwnRs.put (H := upd H a (.lst (xs.set j w))) (OwnR.mono (Same.refl _) keep2 r) n1 j (OwnRs.mono (Same.refl _) keep1 h4) nd' fun b hb z => n3 b hb b (e4 b (List.mem_cons_of_mem _ z)) rfl
        obtain ⟨F2, S2⟩ := e6 a (.lst (xs.set j w)) F' (.own (l.set j n)) (a :: F1) rfl (by simp only [OwnR]; exact ⟨a, _, _, h1, rfl, upd_same, k1⟩)
          (List.nodup_cons.mpr ⟨fun z => (k3 a z).elim na aFo, k2⟩)
          fun b hb => by
            rcases List.mem_cons.mp hb with z | z
            · exact .inl (by rw [z]; exact List.mem_cons_self)
            · rcases k3 b z with z | z
              · exact .inl (List.mem_cons_of_mem _ z)
              · exact .inr ⟨fun y => n3 b z b y rfl, fr b z⟩
        exact ⟨a, xs, k, j, h1, ry, h3, by rw [← h4.length]; exact ej, h σ _ H₀ F2 S2⟩
    | .sh p', p, ea, h, rw' => exact (show False from h).elim
    | .obj c fs, p, ea, h, rw' => exact (show False from h).elim
    | .own l, .non, ea, h, rw' => exact (show False from h).elim
    | .own l, .bl _, ea, h, rw' => exact (show False from h).elim
    | .own l, .str _, ea, h, rw' => exact (show False from h).elim
    | .own l, .lst _, ea, h, rw' => exact (show False from h).elim
    | .own l, .scr _, ea, h, rw' => exact (show False from h).elim
    | .own l, .tup _, ea, h, rw' => exact (show False from h).elim
    | .own l, .ins _ _, ea, h, rw' => exact (show False from h).elim
theorem nd_keep {Fo F : List Addr} (nd : (Fo ++ F).Nodup) : (Fo ++ F).Nodup := nd
theorem qSt {ie : Expr} {g : Env → R Pth} {fi : Env → R PV} {f : Env → R (OV × Env)} (he : QM C W X e f) (ho : QP C W X o g) (hi : QE C W m X ie fi) (ha : ∀ v, assign (.Subscript o ie p) X.env v = (do
      let ov ← holding [v] (eval o X.env)
      let iv ← holding [v, ov] (eval ie X.env)
      standAt p
      holding [v, ov, iv] (setItem ov iv v)
      release [v, ov, iv] []) := by intro _; rfl) (hs : swapsWithSole [.Subscript o ie p] e pos.line X.env = pure false := by rfl) (hw : swappedStores [.Subscript o ie p] e X.env = pure none := by rfl)
    (h1 : (assignEach [.Subscript o ie p] X.env).map (·.2) = [assign (.Subscript o ie p) X.env] := by rfl) : QS C W X (.Assign [.Subscript o ie p] e pos) (sSt g fi f) := by
  refine PS.imp (ps_asg he (pg_sub ho hi set_list ha) hs hw h1) fun D σ H h => ?_
  show tM C W f σ H fun w H1 => tP C W g σ H1 fun v H2 => tE C W m fi σ H2 fun y H3 => rSetL v y w H3 fun H4 => D.nx σ H4
  obtain ⟨H₀, F, ρ, S, h⟩ := h
  refine ⟨H₀, F, ρ, S, (Aft.to S h).imp fun r _ h w H1 H₁ Fo Fr E1 S1 ro nd fr => ?_⟩
  refine ⟨H₁, Fr, r.2, S1, (Aft.to S1 h).imp fun q _ h v t H2 H₂ E2 et ev => ?_⟩
  have S2 := S1.ext E2
  obtain ⟨ro2, fr2⟩ := aside ro fr E2
  show tE C W m fi σ H2 fun y H3 => rSetL v y w H3 fun H4 => D.nx σ H4
  rw [tE_iff]
  refine ⟨H₂, Fr, r.2, S2, (Aft.to S2 h).imp fun p _ h y H3 H₃ E3 ry => ?_⟩
  obtain ⟨ro3, fr3⟩ := aside ro2 fr2 E3
  exact st_step (S2.ext E3) ro3 nd fr3 et (ev.mono E3.s) ry h
/-! ### o.f = e -/
def flR (q : Pth) (ok : Nat → Bool) (fl : Str) (n : OV) (ρ : Env) : RS := match atE ρ q with
  | some (.obj c fs) => if ok c = true ∧ fs.length < 1000 then .nx (upE ρ q (.obj c (putO fl n fs))) else .no
  | _ => .no
def sFl (g : Env → R Pth) (ok : Nat → Bool) (fl : Str) (f : Env → R (OV × Env)) : Env → RS := fun ρ => (f ρ).to ρ fun r => (g r.2).to r.2 fun q => flR q ok fl r.1 r.2
theorem qFl {g : Env → R Pth} {f : Env → R (OV × Env)} {ok : Nat → Bool} {fl : Str} (hK : X.K = C.G.K) (T : ∀ c, ok c = true → Cls C.G.K (C.G.CA c) ∧ NoAttr C.G.K (C.G.CA c) fl) (he : QM C W X e f) (ho : QP C W X o g) (hs : swapsWith e (some (.Attribute o fl p)) pos.line X.env = pure false := by rfl) : QS C W X (.Assign [.Attribute o fl p] e pos) (sFl g ok fl f) := by
  refine PS.imp (ps_fld ho he hs) fun D σ H h => ?_
  show tM C W f σ H fun w H1 => tP C W g σ H1 fun v H2 => ∃ a Ca dx fs, v = .ref a ∧ H2 a = some (.ins Ca dx fs) ∧ Cls X.K Ca ∧ NoAttr X.K Ca fl ∧ fs.length < 1000 ∧ D.nx σ (upd H2 a (.ins Ca dx (putF fl w fs)))
  obtain ⟨H₀, F, ρ, S, h⟩ := h
  refine ⟨H₀, F, ρ, S, (Aft.to S h).imp fun r _ h w H1 H₁ Fo Fr E1 S1 ro nd fr => ?_⟩
  refine ⟨H₁, Fr, r.2, S1, (Aft.to S1 h).imp fun q _ h v t H2 H₂ E2 et ev => ?_⟩
  have S2 := S1.ext E2
  obtain ⟨ro2, fr2⟩ := aside ro fr E2
  unfold flR at h
  cases ea : atE r.2 q with
  | none => rw [ea] at h; exact h.elim
  | some sub =>
    rw [ea] at h
    cases sub with
    | sh p => exact h.elim
    | own l => exact h.elim
    | obj c fs =>
      dsimp only at h
      by_cases hk : ok c = true ∧ fs.length < 1000
      · rw [if_pos hk] at h
        obtain ⟨T1, T2⟩ := T c hk.1
        obtain ⟨t', vs, Fs, e1, e2, e3, e4, e5, e6⟩ := S2.at ea
        have et2 : t' = t := by rw [et] at e1; cases e1; rfl
        subst et2
        have ev2 : v = vs := AtP.det ev e5
        subst ev2
        simp only [OwnR] at e2
        obtain ⟨a, dx, xs, F', h1, h2, h3, h4⟩ := e2
        obtain ⟨n1, n2, n3⟩ := List.nodup_append.mp nd
        subst h2
        obtain ⟨na, nd'⟩ := List.nodup_cons.mp e3
        have aFo : a ∉ Fo := fun z => n3 a z a (e4 a List.mem_cons_self) rfl
        have keep1 : ∀ b ∈ F', upd H2 a (.ins (C.G.CA c) dx (putF fl w xs)) b = H2 b := fun b hb => upd_ne fun z => na (z ▸ hb)
        have keep2 : ∀ b ∈ Fo, upd H2 a (.ins (C.G.CA c) dx (putF fl w xs)) b = H2 b := fun b hb => upd_ne fun z => aFo (z ▸ hb)
        obtain ⟨F1, k1, k2, k3⟩ := OwnRf.put (f := fl) (H := upd H2 a (.ins (C.G.CA c) dx (putF fl w xs))) (OwnR.mono (Same.refl _) keep2 ro2) n1 (OwnRf.mono (Same.refl _) keep1 h4) nd' fun b hb z => n3 b hb b (e4 b (List.mem_cons_of_mem _ z)) rfl
        obtain ⟨F2, S3⟩ := e6 a (.ins (C.G.CA c) dx (putF fl w xs)) F' (.obj c (putO fl r.1 fs)) (a :: F1) rfl (by simp only [OwnR]; exact ⟨a, dx, _, _, h1, rfl, upd_same, k1⟩)
          (List.nodup_cons.mpr ⟨fun z => (k3 a z).elim na aFo, k2⟩)
          fun b hb => by
            rcases List.mem_cons.mp hb with z | z
            · exact .inl (by rw [z]; exact List.mem_cons_self)
            · rcases k3 b z with z | z
              · exact .inl (List.mem_cons_of_mem _ z)
              · exact .inr ⟨fun y => n3 b z b y rfl, fr2 b z⟩
        exact ⟨a, _, dx, xs, h1, h3, by rw [hK]; exact T1, by rw [hK]; exact T2, by rw [← h4.length]; exact hk.2, h σ _ H₂ F2 S3⟩
      · rw [if_neg hk] at h
        exact h.elim
end
end L3

end
section
/-! L3. 11: new lists by operators; defs -/
namespace L3
open PySem PySem.Spec PyProof.Rows L2
section
variable {C : Fc} {W : WX} {D : Ends} {m : Bool} {X : Cx} {a b e : Expr} {es : List Expr} {pos p : Pos} {σ : L2.St} {H H₀ : Hp} {F : List Addr} {ρ : Env} {x : Str} {i : Nat} {fa fb : Env → R PV} {fas : Env → R (List PV)}
/-- an operator that makes a new list -/
def Op2F (Γ : Gc) (r : R2) (g : PV → PV → R (List PV)) : Prop := ∀ (H₀ H : Hp) (p q : PV) (l : List PV) (x y : V) (Q : VK), Same H₀ H → Rep Γ H₀ p x → Rep Γ H₀ q y → g p q = .ok l →
  (∀ xs a, H a = none → Reps Γ H₀ l xs → Q (.ref a) (upd H a (.lst xs))) → r x y H Q
def fOp (g : PV → PV → R (List PV)) (fa fb : Env → R PV) : Env → R OV := fun ρ => (fa ρ).bind fun p => (fb ρ).bind fun q => (g p q).bind fun l => .ok (.own (l.map .sh))
theorem qOpF {op : Operator} {r : R2} {g : PV → PV → R (List PV)} (ho : OpR X (binaryOp op) r) (hg : ∀ p q x, g p q ≠ .er x) (hr : Op2F C.G r g) (ha : QE C W true X a fa) (hb : QE C W true X b fb) : QF C W X (.BinOp a op b pos) (fOp g fa fb) := by
  refine PE.imp (pe_op ho ha hb) fun σ H Q h => ?_
  show tE C W true fa σ H fun x H1 => tE C W true fb σ H1 fun y H2 => r x y H2 Q
  rw [tF_iff] at h
  rw [tE_iff]
  obtain ⟨H₀, F, ρ, S, h⟩ := h
  unfold fOp at h
  rw [Goes.bind] at h
  refine ⟨H₀, F, ρ, S, h.imp fun p _ h v H1 H₁ E1 r1 => ?_⟩
  rw [Goes.bind] at h
  rw [tE_iff]
  refine ⟨H₁, F, ρ, S.ext E1, (h.later E1).imp fun q _ h w H2 H₂ E2 r2 => ?_⟩
  rw [Goes.bind] at h
  have E := E1.trans E2
  cases e : g p q with
  | er x => exact absurd e (hg p q x)
  | no => rw [e] at h; exact h.elim
  | ok l =>
    rw [e] at h
    refine hr H₂ H2 p q l v w Q E2.z (Rep.mono E2.s0 r1) r2 e fun xs a ha r => ?_
    obtain ⟨E3, o3, n3, f3⟩ := own_new (C := C) E2.z ha r
    exact h _ _ _ _ (E.trans E3) o3 n3 fun c hc => ⟨Same.free E.s (f3 c hc).1, (f3 c hc).2⟩
def mulL : PV → PV → R (List PV)
  | .lst l, .int k => if -(2 ^ 63) ≤ k ∧ k < 2 ^ 63 ∧ l.length * k.toNat ≤ sizeLine then .ok (List.replicate k.toNat l).flatten else .no
  | _, _ => .no
def addL : PV → PV → R (List PV)
  | .lst a, .lst b => if a.length + b.length ≤ sizeLine then .ok (a ++ b) else .no
  | _, _ => .no
theorem mulL_ok {G : Gc} : Op2F G rRep mulL := by
  intro H₀ H p q l x y Q zz rp rq e k
  unfold mulL at e
  split at e
  · simp only [Rep] at rp rq
    obtain ⟨a, xs, h1, h2, h3⟩ := rp
    split at e
    · rename_i hc
      cases e
      exact ⟨a, _, xs, h1, rq, zz _ _ h2, hc.1, hc.2.1, by rw [← h3.length]; exact hc.2.2, fun r hr => k _ r hr (h3.rep _)⟩
    · cases e
  · cases e
theorem addL_ok {G : Gc} : Op2F G rCat addL := by
  intro H₀ H p q l x y Q zz rp rq e k
  unfold addL at e
  split at e
  · simp only [Rep] at rp rq
    obtain ⟨a, xs, h1, h2, h3⟩ := rp
    obtain ⟨b, ys, g1, g2, g3⟩ := rq
    split at e
    · rename_i hc
      cases e
      exact ⟨a, b, xs, ys, h1, g1, zz _ _ h2, zz _ _ g2, by rw [← h3.length, ← g3.length]; exact hc, fun r hr => k _ r hr (h3.append g3)⟩
    · cases e
  · cases e
theorem qMulF (ha : QE C W true X a fa) (hb : QE C W true X b fb) : QF C W X (.BinOp a .Mult b pos) (fOp mulL fa fb) := qOpF op_rep (fun p q x => by unfold mulL; split <;> first | exact R.not_er | (intro z; cases z)) mulL_ok ha hb
theorem qAddF (ha : QE C W true X a fa) (hb : QE C W true X b fb) : QF C W X (.BinOp a .Add b pos) (fOp addL fa fb) := qOpF op_cat (fun p q x => by unfold addL; split <;> first | exact R.not_er | (intro z; cases z)) addL_ok ha hb
/-- what has no list in it leaves what is only looked at -/
def eFlat (f : Env → R PV) : Env → R PV := fun ρ => (f ρ).bind fun p => if p.flat = true then .ok p else .no
theorem qFlat (h : QE C W false X a fa) : QE C W m X a (eFlat fa) := by
  refine PE.imp h fun σ H Q h => ?_
  rw [tE_iff] at h ⊢
  obtain ⟨H₀, F, ρ, S, h⟩ := h
  unfold eFlat at h
  rw [Goes.bind] at h
  refine ⟨H₀, F, ρ, S, h.imp fun p _ h v H1 H₁ E1 r1 => ?_⟩
  by_cases hf : p.flat = true
  · rw [if_pos hf] at h
    have S1 := S.ext E1
    have hF : ∀ a ∈ F, ∀ o, vw H₁ H1 F a = some o → isLI o := fun a ha o e => by
      obtain ⟨u, e1, e2⟩ := S1.env.kind a ha
      unfold vw at e
      rw [if_pos ha, e1] at e
      cases e
      exact e2
    have r2 := Rep.mask hF hf r1
    have z : Same (mask (vw H₁ H1 F) F) H₁ := fun c o e => by
      unfold mask at e
      split at e
      · cases e
      · rename_i hc
        unfold vw at e
        rw [if_neg hc] at e
        exact e
    exact h v H1 H₁ E1 (Rep.mono (z_md fun a ha => (S1.fr a ha).2) (Rep.mono z r2))
  · rw [if_neg hf] at h
    exact h.elim
/-! ### calls in a suite -/
theorem qCallH {k : Nat} {f : Addr} {fd : FuncData} {ns : List Str} {Fn : List PV → R OV} (Fo : L2H.FnH X.prog X.w X.K X.mg X.base (L2N.CX X.prog X.w) k f fd ns (spP C.G Fn)) (hr : L2H.RoomH k X.A) (hc : L2H.HotC X) (tk : L2N.Takes X W) (hm : X.mg x = some (.ref f)) (hk : PySem.W.keepIn X.K (.ref f) = true) (hb : Binds X.K fd ns [])
    (ha : QA C W m X (e :: es) fas) (hg : Gl X x := by rfl) (hdb : (x == ("__debug__" : Str)) = false := by decide) (he : starEach (e :: es) X.env = (false, eval e X.env) :: starEach es X.env := by rfl) (hpl : (backTo pos (starEach es X.env)).any (·.1) = false := by rfl) :
    QF C W X (.Call (.Name x p) (e :: es) [] pos) (fCall m Fn [] fas) := by
  refine PE.imp (L2H.pe_callH (E := WE W) Fo hr hc hg hm hk hb (fun σ => L2N.passAt tk σ) ha hdb he hpl) fun σ H Q h => ?_
  show tAs C W m fas σ H fun vs H1 => spP C.G Fn vs H1 Q (WE W σ)
  rw [tF_iff] at h
  rw [tA_iff]
  obtain ⟨H₀, F, ρ, S, h⟩ := h
  unfold fCall at h
  rw [Goes.bind] at h
  refine ⟨H₀, F, ρ, S, h.imp fun ps _ h vs H1 H₁ E1 r1 => ?_⟩
  rw [List.append_nil] at h
  exact call_go (S.ext E1) r1 ((h.later E1).imp fun o _ h v H' H₀' Fv E ro nd fr => h v H' H₀' Fv (E1.trans E) ro nd fun a ha => ⟨Same.free E1.s (fr a ha).1, (fr a ha).2⟩)
/-- in a suite nothing is raised -/
theorem takes0 {X : Cx} : L2N.Takes X W0 := fun u s' ⟨_, _, _, _, _, _, _, _, _, _, _, _, _, _, _, _, w⟩ => w.elim
end
/-! ### defs -/
def startE (n : Nat) (ps : List PV) : Env := ps.map (fun p => some (.sh p)) ++ List.replicate (n - ps.length) none
def outS : RS → R OV
  | .nx _ => .ok (.sh .non)
  | .rt o => .ok o
  | .er x _ => .er x
  | _ => .no
def defF (n np : Nat) (f : Env → RS) : List PV → R OV := fun ps => if ps.length = np then outS (f (startE n ps)) else .no
theorem env_none {G : Gc} {H₀ H : Hp} : ∀ k : Nat, EnvR G H₀ H (List.replicate k none) (List.replicate k none) []
  | 0 => ⟨rfl, rfl⟩
  | k + 1 => ⟨none, _, rfl, env_none k⟩
theorem env_start {G : Gc} {H₀ H : Hp} {k : Nat} : ∀ {ps : List PV} {vs : List V}, Reps G H₀ ps vs → EnvR G H₀ H (ps.map (fun p => some (.sh p)) ++ List.replicate k none) (vs.map some ++ List.replicate k none) []
  | [], vs, r => by simp only [Reps] at r; subst r; exact env_none k
  | p :: ps, vs, r => by
    simp only [Reps] at r
    obtain ⟨x, ys, h1, h2, h3⟩ := r
    subst h1
    exact ⟨x, _, [], [], rfl, rfl, by simp only [OwnR]; exact ⟨h2, trivial⟩, env_start h3⟩
section
variable {P : Program} {w : World} {Γ : Gc} {mg : Str → Option Value} {base : Heap} {x qual : Str} {params : Arguments} {body : List Stmt} {scope : Scope} {dvs : List V} {kws : List (Str × V)} {fa : Addr} {fd : FuncData} {N ns : List Str} {k n np c : Nat} {f : Env → RS}
theorem goes_outS {C : Fc} {W : WX} {Q : VK} {σ : L2.St} {H H₀ : Hp} {r : RS} (hz : C.Hz = H₀) (he : C.He = H) (hW : ∀ cls d σ' H', W cls d σ H' → W cls d σ' H')
    (h : Goes C.G W (outS r) σ H H₀ fun o => ∀ v H' H₀' Fv, Ext H₀ H H₀' H' → OwnR C.G H₀' H' o v Fv → Fv.Nodup → (∀ a ∈ Fv, H a = none ∧ H₀' a = none) → Q v H') :
    Aft C W { nx := fun _ H' => Q .non H', rt := Q } r := by
  subst hz he
  cases r with
  | nx ρ => exact fun σ' H' H₀' F S => h .non H' H₀' [] S.entry (by simp [OwnR, Rep]) List.nodup_nil fun a ha => (by cases ha)
  | rt o => exact fun v H' H₀' Fv E ro nd fr => h v H' H₀' Fv E ro nd fr
  | bk ρ => exact (show False from h).elim
  | ct ρ => exact (show False from h).elim
  | er z ρ => exact fun cls d σ' H' H₀' F S rx => hW _ _ _ _ (h cls d H' H₀' S.entry rx)
  | no => exact h.elim
/-- THE RULE of a def -/
theorem qDef (Fd : FunD Γ.K x qual params body scope dvs kws fa fd) (S : FnScope N ns scope) (hn : N.length = n) (hnp : ns.length = np)
    (hbody : ∀ (cdv : Value) (A : Around) (outer : List PySem.Env) (s : Shared) (H : Hp) (E : XK) (C : Fc), C.G = Γ → C.fx = none → Room k (A.deeper (envOfC qual scope s.heap.objs.size fa cdv)) →
      L2N.Takes (cxOf (L2N.CX P w) P w Γ.K mg base N qual scope fa cdv A outer s H E) (fun cls d _ H => E cls d H) → PassesOwn (model P w) (A.deeper (envOfC qual scope s.heap.objs.size fa cdv)) (envOfC qual scope s.heap.objs.size fa cdv) (cxOf (L2N.CX P w) P w Γ.K mg base N qual scope fa cdv A outer s H E).xe →
      QSs C (fun cls d _ H => E cls d H) (cxOf (L2N.CX P w) P w Γ.K mg base N qual scope fa cdv A outer s H E) body f) :
    FnOk P w Γ.K mg base (L2N.CX P w) (k + 1) fa fd ns (spP Γ (defF n np f)) := by
  refine Fd.ok S (fun vs H Q E h => ?_) fun cdv A outer s H vs Q E hr h => ?_
  · obtain ⟨H₀, ps, hz, r, h⟩ := h
    unfold defF at h
    by_cases hl : ps.length = np
    · rw [← r.length, hl, hnp]
    · rw [if_neg hl] at h
      exact h.elim
  · obtain ⟨H₀, ps, hz, r, h⟩ := h
    unfold defF at h
    by_cases hl : ps.length = np
    · rw [if_pos hl] at h
      have tk : L2N.Takes (cxOf (L2N.CX P w) P w Γ.K mg base N qual scope fa cdv A outer s H E) (fun cls d _ H => E cls d H) := L2N.takes_of rfl rfl rfl rfl
      refine ⟨_, hbody cdv A outer s H E ⟨Γ, H, H₀, none, fun _ => none⟩ rfl rfl hr tk PassesOwn.leaving, H₀, [], startE n ps, ⟨Same.refl _, hz, fun _ _ => rfl, Same.refl _, ?_, List.nodup_nil, fun a ha => (by cases ha), fun i v z => (by cases z), fun a o z => (by cases z)⟩, goes_outS rfl rfl (fun _ _ _ _ z => z) h⟩
      unfold startE L2.start
      rw [hn, r.length]
      exact env_start r
    · rw [if_neg hl] at h
      exact h.elim
/-- the same within a suite -/
theorem qDefH (Fd : FunD Γ.K x qual params body scope dvs kws fa fd) (S : FnScope N ns scope) (hn : N.length = n) (hnp : ns.length = np)
    (hbody : ∀ (cdv : Value) (A : Around) (outer : List PySem.Env) (s : Shared) (H : Hp) (E : XK) (q : Addr × Obj) (C : Fc), C.G = Γ → C.fx = none → L2H.HotC (L2H.cxH (L2N.CX P w) P w Γ.K mg base N qual scope fa cdv A outer s H E q) → L2H.RoomH k (A.deeper (envOfC qual scope s.heap.objs.size fa cdv)) →
      L2N.Takes (L2H.cxH (L2N.CX P w) P w Γ.K mg base N qual scope fa cdv A outer s H E q) (fun cls d _ H => E cls d H) →
      QSs C (fun cls d _ H => E cls d H) (L2H.cxH (L2N.CX P w) P w Γ.K mg base N qual scope fa cdv A outer s H E q) body f) :
    L2H.FnH P w Γ.K mg base (L2N.CX P w) (k + 1) fa fd ns (spP Γ (defF n np f)) := by
  obtain ⟨oc, od, dV, kV, doc, pm, an, cdv, ct, osl, rfl, lk, hcd, _, _⟩ := Fd.ex
  refine L2H.fn_ofH lk hcd S (fun vs H Q E h => ?_) fun A outer s H vs Q E q hot hr h => ?_
  · obtain ⟨H₀, ps, hz, r, h⟩ := h
    unfold defF at h
    by_cases hl : ps.length = np
    · rw [← r.length, hl, hnp]
    · rw [if_neg hl] at h
      exact h.elim
  · obtain ⟨H₀, ps, hz, r, h⟩ := h
    unfold defF at h
    by_cases hl : ps.length = np
    · rw [if_pos hl] at h
      have tk : L2N.Takes (L2H.cxH (L2N.CX P w) P w Γ.K mg base N qual scope fa cdv A outer s H E q) (fun cls d _ H => E cls d H) := L2N.takes_of rfl rfl rfl rfl
      refine ⟨_, hbody cdv A outer s H E q ⟨Γ, H, H₀, none, fun _ => none⟩ rfl rfl ⟨q, hot, List.mem_cons_self⟩ hr tk, H₀, [], startE n ps, ⟨Same.refl _, hz, fun _ _ => rfl, Same.refl _, ?_, List.nodup_nil, fun a ha => (by cases ha), fun i v z => (by cases z), fun a o z => (by cases z)⟩, goes_outS rfl rfl (fun _ _ _ _ z => z) h⟩
      unfold startE L2.start
      rw [hn, r.length]
      exact env_start r
    · rw [if_neg hl] at h
      exact h.elim
/-! an __init__: its first slot is the new instance -/
def outI (c : Nat) : RS → R (List (Str × OV))
  | .nx (some (.obj c' fs) :: _) => if c' = c then .ok fs else .no
  | .er x (some (.obj _ _) :: _) => .er x
  | _ => .no
theorem outI_nx {c c' : Nat} {fs : List (Str × OV)} {ρ : Env} : outI c (.nx (some (.obj c' fs) :: ρ)) = if c' = c then .ok fs else .no := rfl
def initF (n np c : Nat) (f : Env → RS) : List PV → R (List (Str × OV)) := fun ps => if ps.length + 1 = np then outI c (f (some (.obj c []) :: startE (n - 1) ps)) else .no
theorem qInit (Fd : FunD Γ.K x qual params body scope dvs kws fa fd) (S : FnScope N ns scope) (hn : N.length = n) (hnp : ns.length = np)
    (hbody : ∀ (cdv : Value) (A : Around) (outer : List PySem.Env) (s : Shared) (H : Hp) (E : XK) (self : V) (C : Fc), C.G = Γ → C.fx = some (0, self) → Room k (A.deeper (envOfC qual scope s.heap.objs.size fa cdv)) →
      L2N.Takes (cxOf (L2N.CX P w) P w Γ.K mg base N qual scope fa cdv A outer s H E) (fun cls d _ H => E cls d H) → PassesOwn (model P w) (A.deeper (envOfC qual scope s.heap.objs.size fa cdv)) (envOfC qual scope s.heap.objs.size fa cdv) (cxOf (L2N.CX P w) P w Γ.K mg base N qual scope fa cdv A outer s H E).xe →
      QSs C (fun cls d _ H => E cls d H) (cxOf (L2N.CX P w) P w Γ.K mg base N qual scope fa cdv A outer s H E) body f) :
    FnOk P w Γ.K mg base (L2N.CX P w) (k + 1) fa fd ns (spI Γ c (initF n np c f)) := by
  refine Fd.ok S (fun vs H Q E h => ?_) fun cdv A outer s H vs Q E hr h => ?_
  · obtain ⟨x, dx, ws, H₀, ps, e1, hx, h0, hz, r, h⟩ := h
    unfold initF at h
    by_cases hl : ps.length + 1 = np
    · rw [e1, List.length_cons, ← r.length, hl, hnp]
    · rw [if_neg hl] at h
      exact h.elim
  · obtain ⟨x, dx, ws, H₀, ps, e1, hx, h0, hz, r, h⟩ := h
    subst e1
    unfold initF at h
    by_cases hl : ps.length + 1 = np
    · rw [if_pos hl] at h
      have tk : L2N.Takes (cxOf (L2N.CX P w) P w Γ.K mg base N qual scope fa cdv A outer s H E) (fun cls d _ H => E cls d H) := L2N.takes_of rfl rfl rfl rfl
      have dl : ∀ a o, del H x a = some o → a ≠ x ∧ H a = some o := fun a o e => by
        unfold del at e
        split at e
        · cases e
        · rename_i q
          exact ⟨q, e⟩
      have dx0 : del H x x = none := by unfold del; rw [if_pos rfl]
      let C : Fc := ⟨Γ, del H x, H₀, some (0, .ref x), fun _ => none⟩
      have S0 : SR C H₀ [x] (some (.obj c []) :: startE (n - 1) ps) (L2.start N (.ref x :: ws)) H := by
        refine ⟨fun a o e => (dl a o e).2, hz, fun _ _ => rfl, Same.refl _, ?_, by simp, fun a ha => ?_, fun i v z => ?_, fun a o z => (by cases z)⟩
        · unfold startE L2.start
          have e2 : N.length - (V.ref x :: ws).length = n - 1 - ps.length := by
            rw [hn, List.length_cons, r.length]
            omega
          rw [e2]
          refine ⟨.ref x, ws.map some ++ List.replicate (n - 1 - ps.length) none, [x], [], rfl, rfl, ?_, env_start r⟩
          simp only [OwnR, OwnRf]
          exact ⟨x, dx, [], [], rfl, rfl, hx, rfl, rfl⟩
        · rw [List.mem_singleton.mp ha]
          exact ⟨dx0, h0⟩
        · have z : (0, V.ref x) = (i, v) := Option.some.inj z
          cases z
          rfl
      refine ⟨_, hbody cdv A outer s H E (.ref x) C rfl rfl hr tk PassesOwn.leaving, H₀, [x], _, S0, ?_⟩
      -- the new instance still stands in the first slot
      have self : ∀ {c' : Nat} {fs : List (Str × OV)} {ρ' : Env} {σ' : L2.St} {H' H₀' : Hp} {F' : List Addr}, SR C H₀' F' (some (.obj c' fs) :: ρ') σ' H' → ∃ Fo : List Addr, OwnR Γ H₀' H' (.obj c' fs) (.ref x) Fo ∧ Fo.Nodup ∧ (∀ a ∈ Fo, del H x a = none ∧ H₀' a = none) ∧ H₀' x = none ∧ Ext H₀ (del H x) H₀' (del H' x) := by
        intro c' fs ρ' σ' H' H₀' F' T
        obtain ⟨v, Fo, Fr, g1, g2, g3, g4, g5⟩ := EnvR.take (i := 0) T.env rfl T.nd
        have g6 := T.fx 0 _ rfl
        rw [g1] at g6
        have ev : v = .ref x := by cases g6; rfl
        subst ev
        have fr : ∀ a ∈ Fo, del H x a = none ∧ H₀' a = none := fun a ha => T.fr a (g5 a (.inl ha))
        have xF : x ∈ Fo := by
          simp only [OwnR] at g2
          obtain ⟨a, dx', vs', F1, k1, k2, _⟩ := g2
          cases k1
          rw [k2]
          exact List.mem_cons_self
        have x0 := (fr x xF).2
        refine ⟨Fo, g2, (List.nodup_append.mp g4).1, fr, x0, fun a o e => ?_, T.hz, fun a o e => ?_, T.n⟩
        · obtain ⟨q1, _⟩ := dl a o e
          unfold del
          rw [if_neg q1]
          exact T.e a o e
        · unfold del
          rw [if_neg fun q => by rw [q, x0] at e; cases e]
          exact T.z a o e
      generalize f (some (.obj c []) :: startE (n - 1) ps) = r at h
      cases r with
      | nx ρ' =>
        match ρ', h with
        | some (.obj c' fs) :: ρ', h =>
          intro σ' H' H₀' F' T
          obtain ⟨Fo, g2, g3, g4, g5, g6⟩ := self T
          by_cases hc : c' = c
          · subst hc
            have h : match (outI c' (.nx (some (.obj c' fs) :: ρ'))) with
              | .ok fs => ∀ H' H₀' Fv, Ext H₀ (del H x) H₀' (del H' x) → OwnR Γ H₀' H' (.obj c' fs) (.ref x) Fv → Fv.Nodup → (∀ a ∈ Fv, (a = x ∨ H a = none) ∧ H₀' a = none) → Q .non H'
              | .er z => ∀ cls d H' H₀', Ext H₀ (del H x) H₀' (del H' x) → RepX Γ H₀' z cls d → E cls d H'
              | .no => False := h
            rw [outI_nx, if_pos rfl] at h
            refine h H' H₀' Fo g6 g2 g3 fun a ha => ⟨?_, (g4 a ha).2⟩
            have z := (g4 a ha).1
            unfold del at z
            split at z
            · rename_i q; exact .inl q
            · exact .inr z
          · have h : match (outI c (.nx (some (.obj c' fs) :: ρ'))) with
              | .ok fs => ∀ H' H₀' Fv, Ext H₀ (del H x) H₀' (del H' x) → OwnR Γ H₀' H' (.obj c fs) (.ref x) Fv → Fv.Nodup → (∀ a ∈ Fv, (a = x ∨ H a = none) ∧ H₀' a = none) → Q .non H'
              | .er z => ∀ cls d H' H₀', Ext H₀ (del H x) H₀' (del H' x) → RepX Γ H₀' z cls d → E cls d H'
              | .no => False := h
            rw [outI_nx, if_neg hc] at h
            exact h.elim
        | [], h => exact (show False from h).elim
        | none :: _, h => exact (show False from h).elim
        | some (.sh _) :: _, h => exact (show False from h).elim
        | some (.own _) :: _, h => exact (show False from h).elim
      | er z ρ' =>
        match ρ', h with
        | some (.obj c' fs) :: ρ', h =>
          intro cls d σ' H' H₀' F' T rx
          obtain ⟨Fo, g2, g3, g4, g5, g6⟩ := self T
          have h : ∀ cls d H' H₀', Ext H₀ (del H x) H₀' (del H' x) → RepX Γ H₀' z cls d → E cls d H' := h
          exact h cls d H' H₀' g6 rx
        | [], h => exact (show False from h).elim
        | none :: _, h => exact (show False from h).elim
        | some (.sh _) :: _, h => exact (show False from h).elim
        | some (.own _) :: _, h => exact (show False from h).elim
      | rt o => exact (show False from h).elim
      | bk ρ' => exact (show False from h).elim
      | ct ρ' => exact (show False from h).elim
      | no => exact (show False from h).elim
    · rw [if_neg hl] at h
      exact h.elim
end
end L3

end
section
/-! L3. 12: xs.append(y); z = list(y) -/
namespace L3
open PySem PySem.Spec PyProof.Rows L2
def shs : List OV → Option (List PV)
  | [] => some []
  | .sh p :: l => (shs l).map (p :: ·)
  | _ :: _ => none
def sAppList (g : Env → R Pth) (j i : Nat) (f : Env → RS) : Env → RS := fun ρ => (g ρ).to ρ fun q => match atE ρ q, ρ[j]? with
  | some (.own l), some (some (.own its)) => (match shs its with
    | some _ => sSeq (apR q (.own its)) (fun ρ' => f (ρ'.set i (some (.own its)))) (ρ.set j none)
    | none => .no)
  | _, _ => .no
theorem shs_ok {G : Gc} {H₀ H : Hp} : ∀ {l : List OV} {ps : List PV} {xs : List V} {F : List Addr}, shs l = some ps → OwnRs G H₀ H l xs F → Reps G H₀ ps xs ∧ l = ps.map .sh
  | [], ps, xs, F, e, h => by cases e; simp only [OwnRs] at h; rw [h.1]; exact ⟨Reps.nil, rfl⟩
  | .sh p :: l, ps, xs, F, e, h => by
    simp only [shs] at e
    cases q : shs l with
    | none => rw [q] at e; cases e
    | some qs =>
      rw [q] at e
      cases e
      simp only [OwnRs, OwnR] at h
      obtain ⟨x, ys, F1, F2, h1, h2, h3, h4⟩ := h
      obtain ⟨r1, r2⟩ := shs_ok q h4
      subst h1
      exact ⟨Reps.cons h3.1 r1, by rw [r2]; rfl⟩
  | .own _ :: l, ps, xs, F, e, h => by cases e
  | .obj _ _ :: l, ps, xs, F, e, h => by cases e
section
variable {C : Fc} {W : WX} {X : Cx} {o : Expr} {rest : List Stmt} {y z : Str} {i j : Nat} {pos pos2 apos cpos py py2 pz pl pc : Pos}
theorem qAppList {g : Env → R Pth} {f : Env → RS} (hK : X.K = C.G.K) (hx : fxOk C i) (hN : X.N.Nodup) (hm : X.mg "list" = none) (ho : QP C W X o g) (hr : QSs C W X rest f)
    (hj : X.N[j]? = some y := by rfl) (hi : X.N[i]? = some z := by rfl) (hv : Vis X.env.scope y := by first | exact Or.inl rfl | exact Or.inr (Or.inl rfl) | exact Or.inr (Or.inr rfl)) (hl : Loc X.env.scope z := by first | exact Or.inl rfl | exact Or.inr rfl)
    (hf : X.fn z = true ∨ X.env.scope.names.lookup z = some .local := by first | exact .inl rfl | exact .inr rfl)
    (hd : (y == ("__debug__" : Str)) = false := by decide) (hcd : (y == ("__classdict__" : Str)) = false := by decide) (hgl : Gl X "list" := by rfl)
    (hsw : swapsWith (.Call (.Attribute o "append" apos) [.Name y py] [] cpos) none pos.line X.env = pure false := by rfl)
    (hbase : attributeBase o "append" X.env (eval o X.env) = eval o X.env := by rfl)
    (hfew : ((backTo cpos (starEach (.Name y py :: []) X.env)).all (fun x => !x.1) && (backToKw cpos (keywordEach [] X.env)).all (fun x => x.1.isSome)
      && decide ((.Name y py :: ([] : List Expr)).length + ([] : List Keyword).length + (if ([] : List Keyword).isEmpty then 0 else 1) < 30)) = true := by rfl)
    (hline : (apos.endLine == cpos.line) = true := by rfl) (hs : starEach (.Name y py :: []) X.env = (false, eval (.Name y py) X.env) :: starEach [] X.env := by rfl) (hplain : (backTo cpos (starEach [] X.env)).any (·.1) = false := by rfl)
    (hs2 : starEach (.Name y py2 :: []) X.env = (false, eval (.Name y py2) X.env) :: starEach [] X.env := by rfl) (hpl2 : (backTo pc (starEach [] X.env)).any (·.1) = false := by rfl)
    (hsw2 : swapsWith (.Call (.Name "list" pl) [.Name y py2] [] pc) (some (.Name z pz)) pos2.line X.env = pure false := by rfl) :
    QSs C W X (.Expr (.Call (.Attribute o "append" apos) [.Name y py] [] cpos) pos :: .Assign [.Name z pz] (.Call (.Name "list" pl) [.Name y py2] [] pc) pos2 :: rest) (sAppList g j i f) := by
  have hy1 : PE X (.Name y py) (tVar j) := pe_var hj hv hd hcd
  have hy2 : PE X (.Name y py2) (tVar j) := pe_var hj hv hd hcd
  have ha1 : PA X [.Name y py] (tCons (tVar j) tNil) := pa_cons hy1 pa_nil hs
  have ha2 : PA X [.Name y py2] (tCons (tVar j) tNil) := pa_cons hy2 pa_nil hs2
  have s1 := ps_expr (pe_bm PySem.F.plainAttrs_list PySem.F.slot_list_append PySem.F.type_list_append mt_append ho ha1 hbase hfew hline hs hplain) hsw
  have s2 := ps_set (pos' := pz) (pos := pos2) hN hi hl (pe_callTy (p := pl) (pos := pc) call_list_of hgl hm bt_list ha2 (by decide) (by decide) hs2 hpl2) hsw2 hf
  refine PSs.imp (pss_cons s1 (pss_cons s2 hr)) fun D σ H h => ?_
  show tP C W g σ H fun x H1 => tyV X.K "list" x H1 ∧ ∃ v, σ[j]? = some (some v) ∧ rAppend x [v] H1 fun _ H2 => ∃ v, σ[j]? = some (some v) ∧ ∃ p ys, [v] = [.ref p] ∧ (SqL X.K H2 p ys ∨ SqT X.K H2 p ys) ∧ ∀ l, H2 l = none → tS C W f D (σ.set i (some (.ref l))) (upd H2 l (.lst ys))
  obtain ⟨H₀, F, ρ, S, h⟩ := h
  refine ⟨H₀, F, ρ, S, (Aft.to S h).imp fun q eq h v t H1 H₁ E1 et ev => ?_⟩
  have S1 := S.ext E1
  cases ea : atE ρ q with
  | none => rw [ea] at h; exact (show False from h).elim
  | some sub =>
    rw [ea] at h
    cases ej : ρ[j]? with
    | none => rw [ej] at h; cases sub <;> exact (show False from h).elim
    | some oj =>
      rw [ej] at h
      match sub, oj, ea, ej, h with
      | .own l, some (.own its), ea, ej, h =>
        dsimp only at h
        cases es : shs its with
        | none => rw [es] at h; exact h.elim
        | some ps =>
          rw [es] at h
          dsimp only at h
          have ty : tyV X.K "list" v H1 := by
            obtain ⟨t', vs, Fs, e1, e2, e3, e4, e5, e6⟩ := S1.at ea
            have et2 : t' = t := by rw [et] at e1; cases e1; rfl
            subst et2
            have ev2 : v = vs := AtP.det ev e5
            subst ev2
            simp only [OwnR] at e2
            obtain ⟨a, xs, F', h1, h2, h3, h4⟩ := e2
            subst h1
            exact .inl ⟨rfl, xs, SqL.of h3⟩
          obtain ⟨w, Fo, Fr, k1, k2, k3, k4, k5⟩ := S1.env.take ej S1.nd
          have S2 : SR { C with Hx := H₁ } H₁ Fr (ρ.set j none) σ H1 := ⟨S1.e, S1.z, S1.n, S1.hz, k3, (List.nodup_append.mp k4).2.1, fun a ha => S1.fr a (k5 a (.inr ha)), S1.fx, Same.refl _⟩
          have k2' := k2
          simp only [OwnR] at k2'
          obtain ⟨b, ys, F', g1, g2, g3, g4⟩ := k2'
          obtain ⟨r1, r2⟩ := shs_ok es g4
          -- what stands behind the append
          have hA : Aft { C with Hx := H₁ } W { nx := fun σ' H' => σ' = σ → ∀ l, H' l = none → Same H₁ H' → tS C W f D (σ'.set i (some (.ref l))) (upd H' l (.lst ys)), rt := D.rt, bk := D.bk, ct := D.ct } (apR q (.own its) (ρ.set j none)) := by
            unfold sSeq at h
            cases er : apR q (.own its) (ρ.set j none) with
            | nx ρ' =>
              rw [er] at h
              intro σ' H' H₀' F' T e l hl zz
              obtain ⟨E2, o2, n2, f2⟩ := own_new (C := C) T.z hl (Reps.mono T.hx r1)
              have T2 := (T.unx S1.hx).ext E2
              obtain ⟨F2, T3⟩ := T2.put (i := i) o2 n2 (fun a ha => ⟨Same.free T.e (f2 a ha).1, (f2 a ha).2, fun z => by
                obtain ⟨u, e⟩ := T.env.there a z
                rw [(f2 a ha).1] at e
                cases e⟩) hx
              rw [r2] at h
              exact ⟨_, F2, _, T3, h⟩
            | rt o => exfalso; revert er; unfold apR; split <;> first | (intro z; cases z; done) | (split <;> (intro z; cases z))
            | bk ρ' => exfalso; revert er; unfold apR; split <;> first | (intro z; cases z; done) | (split <;> (intro z; cases z))
            | ct ρ' => exfalso; revert er; unfold apR; split <;> first | (intro z; cases z; done) | (split <;> (intro z; cases z))
            | er x ρ' => exfalso; revert er; unfold apR; split <;> first | (intro z; cases z; done) | (split <;> (intro z; cases z))
            | no => rw [er] at h; exact h.elim
          obtain ⟨a, xs, p1, p2, p3, p4, p5⟩ := app_step S2 k2 k4 (fun a ha => S1.fr a (k5 a (.inl ha))) et ev hA
          refine ⟨ty, w, k1, a, xs, w, p1, rfl, p2, p3, w, k1, b, ys, by rw [g1], .inl (SqL.of ?_), fun l hl => p4 rfl l hl fun c u e => ?_⟩
          · have nb : b ≠ a := fun z => (List.nodup_append.mp k4).2.2 b (by rw [g2]; exact List.mem_cons_self) a p5 z
            rw [upd_ne nb]
            exact g3
          · have nc : c ≠ a := fun z => by rw [z, (S2.fr a p5).2] at e; cases e
            rw [upd_ne nc]
            exact S1.z c u e
      | .sh p, oj, ea, ej, h => exact (show False from h).elim
      | .obj c fs, oj, ea, ej, h => exact (show False from h).elim
      | .own l, none, ea, ej, h => exact (show False from h).elim
      | .own l, some (.sh p), ea, ej, h => exact (show False from h).elim
      | .own l, some (.obj c fs), ea, ej, h => exact (show False from h).elim
end
end L3

end
section
/-! L3. 13: the head's facts -/
namespace X4
open PySem PySem.Spec PyProof.Rows L2 He
abbrev Ck := PySem.W.Frag → Bool
/-- an own error class: its name, its field, its __init__ -/
structure SupD where
  x : Str
  f : Str
  qual : Str
  params : Arguments
  body : List Stmt
  scope : Scope
abbrev SupW := Option (Str × Str × Arguments × FuncBody × Scope × Addr × Addr)
def supW (K : PySem.W.Frag) (x : Str) : SupW := match K.lookup (ma K (ga K x) "__init__") with
  | some ⟨_, _, .func fd, _⟩ => some (fd.name, fd.qualname, fd.params, fd.body, fd.scope, fd.globals, fd.builtins)
  | _ => none
def SupD.val (d : SupD) : SupW := some ("__init__", d.qual, d.params, .stmts d.body, d.scope, mainGlobals, builtinsNs)
def supCl : List (Str × Addr) → Value → Value → Value → Option (Addr × Addr)
  | [(n, cc)], .none, .none, .ref cda => if n = "__class__" then some (cc, cda) else none
  | _, _, _, _ => none
theorem supCl_ok {cl : List (Str × Addr)} {dV kV cd : Value} {cc cda : Addr} (h : supCl cl dV kV cd = some (cc, cda)) : cl = [(("__class__" : Str), cc)] ∧ dV = .none ∧ kV = .none ∧ cd = .ref cda := by
  unfold supCl at h
  split at h
  · split at h
    · rename_i hn
      subst hn
      cases h
      exact ⟨rfl, rfl, rfl, rfl⟩
    · cases h
  · cases h
def supFn (K : PySem.W.Frag) (qual mfile : Str) (C fI : Addr) : Bool := match K.lookup fI with
  | some ⟨_, _, .func fd, _⟩ => (match supCl fd.closure fd.defaults fd.kwdefaults fd.code with
    | some (cc, cda) => PySem.W.codeIn K (.ref cda) qual && ((match K.lookup cda with
        | some ⟨_, _, .fields vs, _⟩ => (match (vs[2]? : Option Value) with
          | some (Value.str file _) => mfile == file
          | _ => false)
        | _ => false) && (match K.lookup cc with
        | some ⟨_, _, .cell (some (.ref D)), _⟩ => decide (D = C)
        | _ => false))
    | none => false)
  | _ => false
def supCls (K : PySem.W.Frag) (C : Addr) : Bool := match K.lookup C with
  | some ⟨.type "type", _, .cls cd, sl⟩ => (match cd.mro, sl.toList with
    | .ref C' :: bm, [_, _, _, _, some (.builtin n), _] => C' == C && n == "ValueError.__new__" && !cd.hasDel && cd.hasDict && PySem.HandSPX.refsVE bm
    | _, _ => false)
  | _ => false
def supB (mfile : Str) (d : SupD) : Ck := fun K => supCls K (ga K d.x) && (eqO (PySem.W.findIn K (.ref (ga K d.x)) "__setattr__") (some (some (.builtin "object.__setattr__"))) && (eqO (PySem.W.findIn K (.ref (ga K d.x)) d.f) (some none) && (eqO (PySem.W.findIn K (.ref (ga K d.x)) "__init__") (some (some (.ref (ma K (ga K d.x) "__init__")))) &&
  (decide (PySem.W.typeIn K (.ref (ma K (ga K d.x) "__init__")) = some (.type "function")) && (decide (PySem.W.subIn K (.ref (ga K d.x)) (.type "ValueError") = some true) && (decide (PySem.W.mroIn K (ga K d.x) (.ref (ga K d.x)) = some true) && (eqO (PySem.W.ks_superIn K (ga K d.x) (ga K d.x) "__init__") (some (some (.builtin "ValueError.__init__"))) &&
  (eqO (PySem.W.nsIn K cStatics "thirdparty.any") (some none) && (eqO (PySem.W.nsIn K mainGlobals "super") (some none) && supFn K d.qual mfile (ga K d.x) (ma K (ga K d.x) "__init__"))))))))))
theorem supCls_ok {K : PySem.W.Frag} {C : Addr} (q : supCls K C = true) : ∃ nm q N bs bm sn sub ab col dd k0 k1 k2 k3 k5, K.lookup C = some (excClassObj nm q C N bs bm true sn sub ab col dd k0 k1 k2 k3 k5 "ValueError.__new__") ∧ PySem.HandSPX.refsVE bm = true := by
  unfold supCls at q
  split at q
  · rename_i dd cd sl ho
    split at q
    · rename_i C' bm k0 k1 k2 k3 n k5 hm hs
      simp only [Bool.and_eq_true, beq_iff_eq, Bool.not_eq_true'] at q
      obtain ⟨⟨⟨⟨rfl, rfl⟩, hdel⟩, hdd⟩, ht⟩ := q
      obtain ⟨nm, bs, mro, ns, qn, hd, sn, sub, ab, col, del⟩ := cd
      dsimp only at hm hdel hdd
      subst hm hdel hdd
      have hsl : sl = #[k0, k1, k2, k3, some (.builtin "ValueError.__new__"), k5] := by
        obtain ⟨l⟩ := sl
        simp only at hs
        rw [hs]
      subst hsl
      exact ⟨nm, qn, ns, bs, bm, sn, sub, ab, col, dd, k0, k1, k2, k3, k5, ho, ht⟩
    · cases q
  · cases q
theorem sup_ok {prog : Program} {K : PySem.W.Frag} {d : SupD} {mfile : Str} {p1 p2 p3 p4 p5 p6 p7 p8 q1 q2 q3 q4 : Pos} {msg : Str} {k : Nat} (e : supW K d.x = d.val) (c : supB mfile d K = true) (hp : d.params = X3.supA p1 p2 d.f) (hb : d.body = X3.supB msg d.f k p3 p4 p5 p6 p7 p8 q1 q2 q3 q4) (hs : d.scope = X3.supS d.f)
    (hmf : prog.main.file = mfile) (htop : (prog.main.scope.names.lookup ("super" : Str)).isSome = false) (hne : (d.f == ("self" : Str)) = false ∧ (d.f == ("super" : Str)) = false ∧ (d.f == ("__class__" : Str)) = false ∧ (d.f == ("__debug__" : Str)) = false) (hbn : X3.BindS d.f) (hline : X3.LineS msg k p3 p4 p5 p6 p7) :
    X3.SupC prog K (ga K d.x) (ma K (ga K d.x) "__init__") d.f := by
  obtain ⟨x, f, qual, params, body, scope⟩ := d
  dsimp only at hp hb hs hne hbn
  subst hp hb hs
  obtain ⟨c1, c⟩ := ba c
  obtain ⟨c2, c⟩ := ba c
  obtain ⟨c3, c⟩ := ba c
  obtain ⟨c4, c⟩ := ba c
  obtain ⟨c5, c⟩ := ba c
  obtain ⟨c6, c⟩ := ba c
  obtain ⟨c7, c⟩ := ba c
  obtain ⟨c8, c⟩ := ba c
  obtain ⟨c9, c⟩ := ba c
  obtain ⟨c10, c11⟩ := ba c
  refine ⟨supCls_ok c1, eqO_ok c2, eqO_ok c3, eqO_ok c4, of_decide_eq_true c5, of_decide_eq_true c6, of_decide_eq_true c7, eqO_ok c8, eqO_ok c9, eqO_ok c10, htop, hne, hbn, ?_⟩
  unfold supW at e
  unfold supFn at c11
  dsimp only at e c11
  cases q : K.lookup (ma K (ga K x) "__init__") with
  | none => rw [q] at c11; cases c11
  | some o =>
    obtain ⟨oc, od, dt, osl⟩ := o
    rw [q] at c11 e
    cases dt with
    | func fd =>
      obtain ⟨n1, n2, n3, n4, n5, n6, n7, n8, n9, n10, n11, n12, n13, n14, n15⟩ := fd
      have e2 : (some (n1, n2, n3, n4, n5, n6, n15) : SupW) = some (("__init__" : Str), qual, X3.supA p1 p2 f, FuncBody.stmts (X3.supB msg f k p3 p4 p5 p6 p7 p8 q1 q2 q3 q4), X3.supS f, mainGlobals, builtinsNs) := e
      simp only [Option.some.injEq, Prod.mk.injEq] at e2
      obtain ⟨h1, h2, h3, h4, h5, h6, h7⟩ := e2
      subst h1 h2 h3 h4 h5 h6 h7
      dsimp only at c11
      cases qc : supCl n7 n8 n9 n13 with
      | none => rw [qc] at c11; cases c11
      | some cq =>
        obtain ⟨cc, cda⟩ := cq
        rw [qc] at c11
        obtain ⟨g1, g2, g3, g4⟩ := supCl_ok qc
        subst g1 g2 g3 g4
        obtain ⟨b2, b⟩ := ba c11
        obtain ⟨b3, b4⟩ := ba b
        refine ⟨_, msg, k, oc, od, n10, n11, n12, cda, cc, n14, osl, p1, p2, p3, p4, p5, p6, p7, p8, q1, q2, q3, q4, rfl, b2, hline, ?_, ?_⟩
        · split at b3
          · rename_i z1 z2 vs z3 hk
            split at b3
            · rename_i file tf hv
              exact ⟨_, _, _, vs, file, tf, hk, hv, by rw [hmf]; exact b3⟩
            · cases b3
          · cases b3
        · split at b4
          · rename_i z1 z2 D z3 hk
            have eD : D = ga K x := of_decide_eq_true b4
            subst eD
            exact ⟨_, _, _, hk⟩
          · cases b4
    | _ => cases c11
/-! the Hook -/
def asX (g : Addr → Option Obj) : Nat → List Addr
  | 0 => [mainGlobals, cStatics]
  | n + 1 => growD g (asX g n)
abbrev AlX : Type := Bool × List FnW × List SupW
def obsX (fs : List Ck) (fn : List DefD) (sx : List SupD) (K : PySem.W.Frag) : AlX := ((fs.all fun f => f K) && fn.all fun d => d.ok K, fn.map fun d => fnW K d.at_, sx.map fun d => supW K d.x)
def valX (fn : List DefD) (sx : List SupD) : AlX := (true, fn.map DefD.val, sx.map SupD.val)
def SaysX (fs : List Ck) (fn : List DefD) (sx : List SupD) (K : PySem.W.Frag) : Prop := obsX fs fn sx K = valX fn sx
def obsXG (n : Nat) (fs : List Ck) (fn : List DefD) (sx : List SupD) (g : Addr → Option Obj) : AlX := obsX fs fn sx (frG g (asX g n))
def hookX (n : Nat) (fs : List Ck) (fn : List DefD) (sx : List SupD) : PySem.W.Hook where
  α := AlX
  obs := fun s => obsXG n fs fn sx s.heap.get?
  val := fun _ => valX fn sx
  says := fun _ h => ∃ K : PySem.W.Frag, K.In h ∧ SaysX fs fn sx K
  of := fun _ _ e => ⟨_, frG_in, e⟩
  keeps := fun _ _ _ ⟨K, hK, c⟩ k => ⟨K, PySem.W.Frag.In.keeps hK k, c⟩
theorem obsXG_eq {n : Nat} {fs : List Ck} {fn : List DefD} {sx : List SupD} {g : Addr → Option Obj} {s : Shared} (h : ∀ a, g a = s.heap.get? a) : obsXG n fs fn sx g = (hookX n fs fn sx).obs s := by
  have e : g = s.heap.get? := funext h
  rw [e] <;> rfl
section
variable {fs : List Ck} {fn : List DefD} {sx : List SupD} {K : PySem.W.Frag}
theorem SaysX.fact (c : SaysX fs fn sx K) (i : Nat) {f : Ck} (h : fs[i]? = some f := by rfl) : f K = true := by
  have c1 := (ba (show ((fs.all fun f => f K) && fn.all fun d => d.ok K) = true from congrArg (fun z : AlX => z.1) c)).1
  exact List.all_eq_true.mp c1 f (List.mem_of_getElem? h)
theorem SaysX.def_ (c : SaysX fs fn sx K) (i : Nat) {d : DefD} (h : fn[i]? = some d := by rfl) : ∃ fd, FunD K d.name d.qual d.params d.body d.scope (d.dvs K) (d.kws K) (fAd K d.at_) fd := by
  have c2 := (ba (show ((fs.all fun f => f K) && fn.all fun d => d.ok K) = true from congrArg (fun z : AlX => z.1) c)).2
  have e : fn.map (fun d => fnW K d.at_) = fn.map DefD.val := congrArg (fun z : AlX => z.2.1) c
  have e2 : (fn.map fun d => fnW K d.at_)[i]? = (fn.map DefD.val)[i]? := by rw [e]
  rw [List.getElem?_map, List.getElem?_map, h] at e2
  exact DefD.funD (Option.some.inj e2) (List.all_eq_true.mp c2 d (List.mem_of_getElem? h))
theorem SaysX.sup (c : SaysX fs fn sx K) (i : Nat) {d : SupD} (h : sx[i]? = some d := by rfl) : supW K d.x = d.val := by
  have e : sx.map (fun d => supW K d.x) = sx.map SupD.val := congrArg (fun z : AlX => z.2.2) c
  have e2 : (sx.map fun d => supW K d.x)[i]? = (sx.map SupD.val)[i]? := by rw [e]
  rw [List.getElem?_map, List.getElem?_map, h] at e2
  exact Option.some.inj e2
end
/-! single facts -/
def fa (f : Fa) : Ck := fun K => f.ok K
/-- a value by its address -/
def tupAt (a : PySem.W.Frag → Addr) (vs : List Dv) : Ck := fun K => match K.lookup (a K) with
  | some ⟨.type c, _, .seq its _, _⟩ => decide (c = "tuple") && (decide (its.size ≤ sizeLine) && relAll (vs.map (Dv.v K)) its.toList)
  | _ => false
theorem tupAt_ok {K : PySem.W.Frag} {a : PySem.W.Frag → Addr} {vs : List Dv} (h : tupAt a vs K = true) (H : Hp) : SqT K H (a K) (vs.map (Dv.v K)) := by
  unfold tupAt at h
  cases q : K.lookup (a K) with
  | none =>
    rw [q] at h
    cases h
  | some o =>
    obtain ⟨oc, od, dt, osl⟩ := o
    rw [q] at h
    cases oc with
    | type c =>
      cases dt with
      | seq its n =>
        obtain ⟨h1, h2⟩ := ba (show (decide (c = "tuple") && (decide (its.size ≤ sizeLine) && relAll (vs.map (Dv.v K)) its.toList)) = true from h)
        obtain ⟨h3, h4⟩ := ba h2
        exact .inr ⟨_, its, n, q, congrArg Value.type (of_decide_eq_true h1), rfl, of_decide_eq_true h3, relAll_ok h4⟩
      | _ => cases h
    | _ => cases dt <;> cases h
def exiB (K : PySem.W.Frag) (D : Addr) : Bool := (PySem.W.clsIn K D).isSome && (eqO (PySem.W.findIn K (.ref D) "__getattribute__") (some (some (.builtin "BaseException.__getattribute__"))) && (eqO (PySem.W.findIn K (.ref D) "__getattr__") (some none) && (decide (PySem.W.subIn K (.ref D) (.type "BaseException") = some true) &&
  (eqO (PySem.W.findIn K (.ref D) "__class__") (some (some (.builtin "object.__class__"))) && (eqO (PySem.W.specialIn K (.builtin "object.__class__") "__get__") (some (some (.builtin "getset_descriptor.__get__"))) && (decide (PySem.W.takesIn K (.builtin "object.__class__") = some true) && decide (PySem.W.mroIn K D (.type "object") = some true)))))))
theorem exi_ok {K : PySem.W.Frag} {D : Addr} (c : exiB K D = true) : X3.ExI K D := by
  obtain ⟨c1, c⟩ := ba c
  obtain ⟨c2, c⟩ := ba c
  obtain ⟨c3, c⟩ := ba c
  obtain ⟨c4, c⟩ := ba c
  obtain ⟨c5, c⟩ := ba c
  obtain ⟨c6, c⟩ := ba c
  obtain ⟨c7, c8⟩ := ba c
  exact ⟨c1, eqO_ok c2, eqO_ok c3, of_decide_eq_true c4, eqO_ok c5, eqO_ok c6, of_decide_eq_true c7, of_decide_eq_true c8⟩
def iscB (K : PySem.W.Frag) (x : Str) : Bool := (Fa.cls x).ok K && (eqO (PySem.W.findIn K (.ref (ga K x)) "__class__") (some (some (.builtin "object.__class__"))) && (eqO (PySem.W.specialIn K (.builtin "object.__class__") "__get__") (some (some (.builtin "getset_descriptor.__get__"))) && (decide (PySem.W.takesIn K (.builtin "object.__class__") = some true) && decide (PySem.W.mroIn K (ga K x) (.type "object") = some true))))
theorem isc_ok {K : PySem.W.Frag} {x : Str} (c : iscB K x = true) : L3.IsC K (ga K x) := by
  obtain ⟨c1, c⟩ := ba c
  obtain ⟨c2, c⟩ := ba c
  obtain ⟨c3, c⟩ := ba c
  obtain ⟨c4, c5⟩ := ba c
  exact ⟨cls_ok c1, eqO_ok c2, eqO_ok c3, of_decide_eq_true c4, of_decide_eq_true c5⟩
def kitB2 (v u : PySem.W.Frag → Value) (b : Bool) : Ck := fun K => decide (PySem.W.kitOne K (v K) (u K) = some b)
def exmB (x y : Str) (b : Bool) : Ck := fun K => decide (PySem.W.exmOne K (.ref (ga K x)) (.ref (ga K y)) = some b)
def raisB (x : Str) : Ck := fun K => decide (PySem.W.subIn K (.ref (ga K x)) (.type "BaseException") = some true) && decide (PySem.W.typeIn K (.ref (ga K x)) = some (.type "type"))
theorem rais_ok {X : Cx} {x : Str} (c : raisB x X.K = true) : Raises X (.ref (ga X.K x)) := by
  obtain ⟨c1, c2⟩ := ba c
  exact raises_own (of_decide_eq_true c1) (of_decide_eq_true c2)
/-! the end -/
theorem walk_X {l : PySem.W.OpenLaw} {n k : Nat} {q : Program} {loose : List Str} {XP : (Str → Option Value) → Heap → Prop} {YP : World → Heap → Prop} {d : DefRec} {x : Str} {Fn : List L3.PV → L3.R L3.OV}
    (hn : l.most = some n) (hn2 : n ≤ sizeLine) (hdf : d.params.defaults = []) (hr : Room k callerA)
    (F : ∀ (w : World) (mg : Str → Option Value) (fa : Addr) (h : Heap), YP w h → h.Ns mainGlobals mg → mg d.name = some (.ref fa) →
      ∃ (Γ : L3.Gc) (fd : FuncData), Γ.K.In h ∧ (∀ (s : Shared) (u : Value), BindsTo s fd ⟨[u], []⟩ [(x, u)]) ∧ ∀ base : Heap, Γ.K.In base → base.Ns mainGlobals mg → FnOk l.prog w Γ.K mg base (L2N.CX l.prog w) k fa fd [x] (L3.spP Γ Fn))
    (hF : ∀ ns : List Int, ns.length ≤ n → (∀ z ∈ ns, Builtin.Int.intBits z ≤ 1048576) → Fn [.scr (ns.map .int)] = .ok (.sh (.bl true))) :
    PySem.W.WalkO q loose XP YP l.row.toRowW d [] (fun f vs => PySem.call f vs) := by
  refine Att.attach_callB hn hdf fun w s₀ s₁ mg mb fa o pm cd doc a vs ns G Y ho hd hcd hmg hobj hints hlen hbits hg => ?_
  obtain ⟨Γ, fd, KX, hb, hFn⟩ := F w mg fa _ Y G.T.g hmg
  refine law_call KX G.T.g G.T.b G.T.builtins G.T.nolimit hg hobj hints (Nat.le_trans hlen hn2) hr hFn hb (fun H hO hS => ?_) fun H e s' hc => ?_
  · refine ⟨H, [.scr (ns.map .int)], Same.refl _, ?_, ?_⟩
    · refine L3.Reps.one ?_
      simp only [L3.Rep]
      refine ⟨a, _, rfl, hS, ?_⟩
      clear hlen hbits hints hS
      induction ns with
      | nil => exact L3.Reps.nil
      | cons i ns ih => exact L3.Reps.cons (by simp only [L3.Rep]) ih
    · rw [hF ns hlen hbits]
      intro v H' H₀' Fv E r nd fr
      simp only [L3.OwnR, L3.Rep] at r
      exact r.1
  · obtain ⟨_, _, _, _, _, _, _, _, _, _, _, _, z⟩ := hc
    exact z
end X4

end
section
/-! L3. 14: own ==, list(range(..)), small helps -/
namespace L3
open PySem PySem.Spec PyProof.Rows L2
/-! ### != by an own __eq__ -/
section
open PySem.W
variable {prog : Program} {w : World} {A : Around} {E : Value → Shared → Prop} {s : Shared} {K : Frag} {x C L f : Addr} {h₀ : Heap} {m : Str → Option Value} {ox : Obj} {od : Option Obj} {b tb : Value}
theorem ne_body {Q : Fin → Shared → Prop} (hu : A.units < cLine) (X : K.In s.heap) (I : InstAt s.heap x ox C od) (hs : findIn K (.ref C) "__eq__" = some (some (.ref f))) (hf : isFn K (.ref f) = true)
    (h : wpAny (model prog w) A (call (.ref f) [.ref x, b]) (fun v s' => ∃ k, v = .bool k ∧ Q (.done (.ret (.bool (!k)))) s') E s) : wpAny (model prog w) A (Builtin.«object.__ne__» ⟨[.ref x, b], []⟩) Q E s := by
  unfold Builtin.«object.__ne__»
  repeat (first | with_reducible refine wpAny_cRoomFor hu ?_ | (with_reducible refine ifBound_K (args := [b]) X I hs hf (wpAny_mono h (fun v s' q => ?_) fun _ _ e => e)) | wp_step)
  obtain ⟨k, rfl, q⟩ := q
  repeat (first | with_reducible refine wpAny_truthy_bool ?_ | wp_step)
  exact q
theorem ne_K {Q : Value → Shared → Prop} (hu : A.units + 1 < cLine) (Fr0 : Fr h₀ L s.heap m) (X₀ : K.In h₀) (I : InstAt s.heap x ox C od) (hb : Looks (model prog w) s.heap (typeOf b) tb) (hn : notFirst K C tb = true)
    (hs : findIn K (.ref C) "__eq__" = some (some (.ref f))) (hf : isFn K (.ref f) = true) (hne : findIn K (.ref C) "__ne__" = some (some (.builtin "object.__ne__"))) (hob : subIn K (.ref C) (.type "object") = some true)
    (h : wpAny (model prog w) A.in1 (call (.ref f) [.ref x, b]) (fun v s' => ∃ k, v = .bool k ∧ Q (.bool (!k)) s') E s) : wpAny (model prog w) A (richCompare .NotEq (.ref x) b) Q E s := by
  have X := X₀.keeps Fr0.keep
  have hu0 : A.units < cLine := Nat.lt_of_succ_lt hu
  have one : wpAny (model prog w) A (tryCompare (.ref x) (cmpInfo .NotEq).2.1 b) (fun r s' => ∃ v, r = some v ∧ Q v s') E s := by
    show wpAny (model prog w) A (tryCompare (.ref x) "__ne__" b) (fun r s' => ∃ v, r = some v ∧ Q v s') E s
    unfold tryCompare
    refine wpAny_bind ?_
    simp only [callSpecialIfBound?, bindSpecialIfBound?]
    refine wpAny_holding (wpAny_bind (wpAny_bind (wpAny_bind (I.type.here ((looks_findIn X hne).here ?_)))))
    simp only [F.cmp_object.ne.bind]
    refine wpAny_bind (wpAny_askSetting (wpAny_ite ?_))
    have hc : wpAny (model prog w) A (call (.builtin "object.__ne__") [.ref x, b]) (fun v s' => ∃ k, v = .bool k ∧ Q (.bool k) s') E s := by
      refine wpAny_call (codeAny_call_builtin F.cmp_object.ne.plain F.cmpEntry_ne ?_)
      simp only [checkBuiltinCall, F.cmpKind_ne, F.cmpSplit_ne]
      have LI : Looks (model prog w) s.heap (isInstance (.ref x) (.type "object")) true := I.type.andThen (looks_subIn X hob)
      refine wpAny_bind (LI.here ?_)
      have ha := F.cmpArgs_ne (.ref x) b
      cases hsig : Manifest.signature? "object.__ne__" with
      | none =>
        refine wpAny_pure ?_
        exact ne_body (A := A.in1) (by show A.units + 1 < cLine; exact hu) X I hs hf (wpAny_mono h (fun v s' q => (let ⟨k, e, q⟩ := q; ⟨k, e, ⟨!k, rfl, q⟩⟩)) fun _ _ e => e)
      | some sig =>
        simp only [argsOk, hsig] at ha
        have h2 : Bind.checkArgs "object.__ne__" sig ⟨[.ref x, b], []⟩ = pure () := ha
        show wpAny _ _ (Bind.checkArgs "object.__ne__" sig ⟨[.ref x, b], []⟩) _ _ _
        rw [h2]
        refine wpAny_pure ?_
        exact ne_body (A := A.in1) (by show A.units + 1 < cLine; exact hu) X I hs hf (wpAny_mono h (fun v s' q => (let ⟨k, e, q⟩ := q; ⟨k, e, ⟨!k, rfl, q⟩⟩)) fun _ _ e => e)
    have fin : wpAny (model prog w) A (call (.builtin "object.__ne__") ([.ref x] ++ [b]) >>= fun v => pure (some v)) (fun r s' => wpAny (model prog w) A (match r with
        | some .notImplemented => pure none
        | none => pure none
        | some v => pure (some v)) (fun r s' => ∃ v, r = some v ∧ Q v s') E s') E s := wpAny_bind (wpAny_mono hc (fun v s' q => (by obtain ⟨k, rfl, q⟩ := q; exact wpAny_pure (wpAny_pure ⟨_, rfl, q⟩))) fun _ _ h' => h')
    split
    · exact wpAny_bind (wpAny_pure (wpAny_pure fin))
    · exact wpAny_tryCatch (wpAny_bind (wpAny_pure (wpAny_pure fin)))
  unfold richCompare
  simp only [oneThing_ref]
  refine wpAny_holding (wpAny_bind (wpAny_cRoomFor hu0 ?_))
  refine wpAny_bind (I.type.here (wpAny_bind (hb.here ?_)))
  split
  · rename_i q
    have e : subIn K tb (.ref C) = some false := by
      rcases Bool.or_eq_true_iff.mp hn with e | e
      · rw [beq_iff_eq.mp e] at q; simp at q
      · exact beq_iff_eq.mp e
    refine wpAny_bind ((looks_subIn X e).here ?_)
    simp only [Bool.false_eq_true, if_false]
    refine wpAny_bind (wpAny_mono one (fun r s' z => ?_) fun _ _ e => e)
    obtain ⟨v, rfl, hq⟩ := z
    exact wpAny_pure hq
  · refine wpAny_bind (wpAny_pure ?_)
    simp only [Bool.false_eq_true, if_false]
    refine wpAny_bind (wpAny_mono one (fun r s' z => ?_) fun _ _ e => e)
    obtain ⟨v, rfl, hq⟩ := z
    exact wpAny_pure hq
end
/-- what an own == must have -/
structure EqC (K : PySem.W.Frag) (Ca f : Addr) : Prop where
  eq : PySem.W.findIn K (.ref Ca) "__eq__" = some (some (.ref f))
  fn : PySem.W.isFn K (.ref f) = true
  ne : PySem.W.findIn K (.ref Ca) "__ne__" = some (some (.builtin "object.__ne__"))
  ob : PySem.W.subIn K (.ref Ca) (.type "object") = some true
  tu : PySem.W.subIn K (.type "tuple") (.ref Ca) = some false
def rEqO (K : PySem.W.Frag) (Ca : Addr) (sp : Sp) (neg : Bool) : R2 := fun x y H Q => ∃ a b dx fs, x = .ref a ∧ y = .ref b ∧ H a = some (.ins Ca dx fs) ∧ ((∃ dy gs, H b = some (.ins Ca dy gs)) ∨ ∃ xs, SqT K H b xs) ∧
  sp [x, y] H (fun v H' => ∃ k, v = .bl k ∧ Q (.bl (if neg then !k else k)) H') fun _ _ _ => False
section
variable {X : Cx} {Ca f : Addr} {fd : FuncData} {ns : List Str} {k : Nat} {sp : Sp}
theorem type_of_y {pins : List (Addr × Obj)} {σ : L2.St} {H : Hp} {s : Shared} {b : Addr} (T : EqC X.K Ca f) (I : Inv X pins σ H s) (h : (∃ dy gs, H b = some (.ins Ca dy gs)) ∨ ∃ xs, SqT X.K H b xs) :
    ∃ tb, PySem.W.Looks (model X.prog X.w) s.heap (typeOf (.ref b)) tb ∧ PySem.W.notFirst X.K Ca tb = true := by
  rcases h with ⟨dy, gs, h⟩ | ⟨xs, h⟩
  · obtain ⟨mA, J, _⟩ := ins_get I.hok h
    obtain ⟨od, J, _⟩ := J.look
    exact ⟨_, J.type, by simp [PySem.W.notFirst]⟩
  · obtain ⟨its, rv, pl, hz⟩ := I.tuple h
    obtain ⟨o, ho, hc, _⟩ := pl
    exact ⟨.type "tuple", fun A Q E s' kk q => wpAny_typeOf_ref (kk _ _ ho) (by rw [hc]; exact q), by simp [PySem.W.notFirst, T.tu]⟩
theorem run_eqO {A : Around} {pins : List (Addr × Obj)} {σ : L2.St} {H : Hp} {s : Shared} {a b : Addr} {Q : VK} (Fo : FnOk X.prog X.w X.K X.mg X.base (L2N.CX X.prog X.w) k f fd ns sp) (hr : Room k A) (hfr : A.frames = X.A.frames) (hb : Binds X.K fd ns []) (I : Inv X pins σ H s)
    (h : sp [.ref a, .ref b] H (fun v H' => ∃ k, v = .bl k ∧ Q (.bl k) H') fun _ _ _ => False) :
    wpAny (model X.prog X.w) A (call (.ref f) [.ref a, .ref b]) (fun u s' => ∃ k H', u = .bool k ∧ Inv X pins σ H' s' ∧ Q (.bl k) H') X.xe s := by
  have e0 : Env0 X.prog X.w X.K X.mg X.base A X.stack s H := by
    have e := I.env0
    exact ⟨by rw [hfr]; exact e.frames, e.mod, e.bs, e.bsz, e.funs, e.frf, e.hok, e.bare⟩
  have hl := Fo.len _ _ _ _ h
  have r2 : Vals [V.ref a, V.ref b] [Value.ref a, Value.ref b] := .cons rfl (.cons rfl .nil)
  refine wpAny_call (codeAny_mono (Fo.run A X.stack s H ⟨[.ref a, .ref b], []⟩ [.ref a, .ref b] [.ref a, .ref b] _ _ hr e0 (by
    have := hb s [.ref a, .ref b] I.kIn (by simpa using hl)
    simpa using this) r2 h) fun r s' hq => ?_)
  cases r with
  | error e =>
    obtain ⟨_, _, _, _, _, _, _, _, _, _, _, _, z⟩ := hq
    exact z.elim
  | ok fl =>
    cases fl with
    | ret u =>
      obtain ⟨z, H', I', rz, k, ez, q⟩ := I.after hq
      subst ez
      cases rz
      exact ⟨k, H', rfl, I', q⟩
    | next => exact False.elim hq
    | brk => exact False.elim hq
    | cont => exact False.elim hq
theorem op_eqO (T : EqC X.K Ca f) (Fo : FnOk X.prog X.w X.K X.mg X.base (L2N.CX X.prog X.w) k f fd ns sp) (hr : Room k X.A) (hb : Binds X.K fd ns []) : OpR X (compareOp .Eq) (rEqO X.K Ca sp false) := by
  intro pins s σ H x y v u Q I rx ry h
  obtain ⟨a, b, dx, fs, rfl, rfl, ha, hy, h⟩ := h
  cases rx
  cases ry
  obtain ⟨mA, J, _⟩ := ins_get I.hok ha
  obtain ⟨od, J, _⟩ := J.look
  obtain ⟨m, hF⟩ := I.fr
  obtain ⟨tb, L1, L2⟩ := type_of_y T I hy
  show wpAny (model X.prog X.w) X.A (richCompare .Eq (.ref a) (.ref b)) (EP X pins σ Q) X.xe s
  refine PySem.W.cmp_K (op := .Eq) hr.units0 hF I.ok.mod.kin J L1 L2 T.eq T.fn ?_
  refine wpAny_mono (run_eqO Fo hr rfl hb I h) (fun v s' q => ?_) fun _ _ e => e
  obtain ⟨k, H', rfl, I', q⟩ := q
  exact ⟨.bl k, H', I', rfl, q⟩
theorem op_neO (T : EqC X.K Ca f) (Fo : FnOk X.prog X.w X.K X.mg X.base (L2N.CX X.prog X.w) k f fd ns sp) (hr : Room (k + 1) X.A) (hb : Binds X.K fd ns []) : OpR X (compareOp .NotEq) (rEqO X.K Ca sp true) := by
  intro pins s σ H x y v u Q I rx ry h
  obtain ⟨a, b, dx, fs, rfl, rfl, ha, hy, h⟩ := h
  cases rx
  cases ry
  obtain ⟨mA, J, _⟩ := ins_get I.hok ha
  obtain ⟨od, J, _⟩ := J.look
  obtain ⟨m, hF⟩ := I.fr
  obtain ⟨tb, L1, L2⟩ := type_of_y T I hy
  show wpAny (model X.prog X.w) X.A (richCompare .NotEq (.ref a) (.ref b)) (EP X pins σ Q) X.xe s
  refine ne_K (by have := hr.units; omega) hF I.ok.mod.kin J L1 L2 T.eq T.fn T.ne T.ob ?_
  refine wpAny_mono (run_eqO (A := X.A.in1) (Q := fun v H' => ∃ k, v = .bl k ∧ Q (.bl (!k)) H') Fo hr.in1 rfl hb I ?_) (fun v s' q => ?_) fun _ _ e => e
  · refine cast ?_ h
    congr
    funext v H'
    refine propext ⟨fun ⟨k, e, q⟩ => ⟨k, e, k, rfl, q⟩, fun ⟨k, e, k', e', q⟩ => ⟨k, e, ?_⟩⟩
    cases e'
    exact q
  · obtain ⟨k, H', rfl, I', k', e, q⟩ := q
    cases e
    exact ⟨k, rfl, .bl (!k), H', I', rfl, q⟩
end
def eqY (c : Nat) : PV → Bool
  | .ins c'' _ => decide (c'' = c)
  | .tup _ => true
  | _ => false
def eqoK (c : Nat) (Fn : List PV → R OV) (neg : Bool) (p q : PV) : R PV := match p with
  | .ins c' _ => if c' = c ∧ eqY c q = true then (match Fn [p, q] with
      | .ok (.sh (.bl b)) => .ok (.bl (if neg then !b else b))
      | _ => .no) else .no
  | _ => .no
def eEqO (neg : Bool) (c : Nat) (Fn : List PV → R OV) (fa fb : Env → R PV) : Env → R PV := fun ρ => (fa ρ).bind fun p => (fb ρ).bind fun q => eqoK c Fn neg p q
section
variable {C : Fc} {W : WX} {m : Bool} {X : Cx} {a b : Expr} {pos : Pos} {f : Addr} {fd : FuncData} {ns : List Str} {k c : Nat} {Fn : List PV → R OV} {fa fb : Env → R PV} {σ : L2.St} {H : Hp} {neg : Bool}
theorem eqo_go (hK : X.K = C.G.K) {Q : VK} (h : tE C W m (eEqO neg c Fn fa fb) σ H Q) : tE C W m fa σ H fun x H1 => tE C W m fb σ H1 fun y H2 => rEqO X.K (C.G.CA c) (spP C.G Fn) neg x y H2 Q := by
  rw [tE_iff] at h ⊢
  obtain ⟨H₀, F, ρ, S, h⟩ := h
  unfold eEqO at h
  rw [Goes.bind] at h
  refine ⟨H₀, F, ρ, S, h.imp fun p _ h1 v H1 H₁ E1 r1 => ?_⟩
  clear h
  rw [Goes.bind] at h1
  rw [tE_iff]
  have S1 := S.ext E1
  refine ⟨H₁, F, ρ, S1, (h1.later E1).imp fun q _ h w H2 H₂ E2 r2 => ?_⟩
  clear h1
  have S2 := S1.ext E2
  have r1 := Rep.mono (md_ext E2) r1
  have E := E1.trans E2
  unfold eqoK at h
  cases p with
  | ins c' fs =>
    dsimp only at h
    by_cases hc : c' = c ∧ eqY c q = true
    rotate_left
    · rw [if_neg hc] at h
      exact h.elim
    rw [if_pos hc] at h
    obtain ⟨hc1, hc2⟩ := hc
    subst hc1
    have r1' := r1
    simp only [Rep] at r1'
    obtain ⟨a', dx, vs, e1, e2, e3⟩ := r1'
    have yk : ∃ b', w = .ref b' ∧ ((∃ dy gs, H2 b' = some (.ins (C.G.CA c') dy gs)) ∨ ∃ xs, SqT X.K H2 b' xs) := by
      cases q with
      | ins c'' gs =>
        have hc3 : c'' = c' := by simpa [eqY] using hc2
        subst hc3
        have r2' := r2
        simp only [Rep] at r2'
        obtain ⟨b', dy, ws, g1, g2, g3⟩ := r2'
        exact ⟨b', g1, .inl ⟨dy, ws, md_H S2.z _ _ g2⟩⟩
      | tup l =>
        have r2' := r2
        simp only [Rep] at r2'
        obtain ⟨b', xs, g1, g2, g3⟩ := r2'
        exact ⟨b', g1, .inr ⟨xs, by rw [hK]; exact Same.seqT (md_H S2.z) g2⟩⟩
      | _ => simp [eqY] at hc2
    obtain ⟨b', g1, g2⟩ := yk
    subst e1 g1
    cases eF : Fn [.ins c' fs, q] with
    | er z => rw [eF] at h; exact h.elim
    | no => rw [eF] at h; exact h.elim
    | ok o =>
      rw [eF] at h
      match o, eF, h with
      | .sh (.bl bb), eF, h =>
        refine ⟨a', b', dx, vs, rfl, rfl, md_H S2.z _ _ e2, g2, md m H₂ H2 F, [.ins c' fs, q], md_H S2.z, Reps.cons r1 (Reps.one r2), ?_⟩
        rw [eF]
        intro v H' Hc Fv Ec ro nd fr
        obtain ⟨H₀', E', c1, c2, c3⟩ := cap S2 Ec
        simp only [OwnR, Rep] at ro
        exact ⟨bb, ro.1, h _ H' H₀' (E.trans E') (by simp only [Rep])⟩
      | .sh .non, eF, h => exact (show False from h).elim
      | .sh (.int _), eF, h => exact (show False from h).elim
      | .sh (.str _), eF, h => exact (show False from h).elim
      | .sh (.lst _), eF, h => exact (show False from h).elim
      | .sh (.scr _), eF, h => exact (show False from h).elim
      | .sh (.tup _), eF, h => exact (show False from h).elim
      | .sh (.ins _ _), eF, h => exact (show False from h).elim
      | .own _, eF, h => exact (show False from h).elim
      | .obj _ _, eF, h => exact (show False from h).elim
  | _ => exact (show False from h).elim
theorem tst_go' {f : Env → R PV} {Q : Bool → Hp → Prop} (h : tTt C W (eTst f) σ H Q) : tE C W m f σ H fun x H' => ∃ k, x = .bl k ∧ Q k H' := tst_go h
theorem qEqO (hK : X.K = C.G.K) (Fo : FnOk X.prog X.w X.K X.mg X.base (L2N.CX X.prog X.w) k f fd ns (spP C.G Fn)) (T : EqC X.K (C.G.CA c) f) (hr : Room k X.A) (hb : Binds X.K fd ns []) (ha : QE C W m X a fa) (hb' : QE C W m X b fb) (hm : behindInMarks .Eq b = false := by first | exact nomark _ | rfl) :
    QE C W m X (.Compare a [.Eq] [b] pos) (eEqO false c Fn fa fb) := PE.imp (pe_cmpR (op_eqO T Fo hr hb) ha hb' hm) fun σ H Q h => eqo_go hK h
theorem qNeO (hK : X.K = C.G.K) (Fo : FnOk X.prog X.w X.K X.mg X.base (L2N.CX X.prog X.w) k f fd ns (spP C.G Fn)) (T : EqC X.K (C.G.CA c) f) (hr : Room (k + 1) X.A) (hb : Binds X.K fd ns []) (ha : QE C W m X a fa) (hb' : QE C W m X b fb) (hm : behindInMarks .NotEq b = false := by first | exact nomark _ | rfl) :
    QE C W m X (.Compare a [.NotEq] [b] pos) (eEqO true c Fn fa fb) := PE.imp (pe_cmpR (op_neO T Fo hr hb) ha hb' hm) fun σ H Q h => eqo_go hK h
theorem tEqO (hK : X.K = C.G.K) (Fo : FnOk X.prog X.w X.K X.mg X.base (L2N.CX X.prog X.w) k f fd ns (spP C.G Fn)) (T : EqC X.K (C.G.CA c) f) (hr : Room k X.A) (hb : Binds X.K fd ns []) (ha : QE C W m X a fa) (hb' : QE C W m X b fb) (hm : behindInMarks .Eq b = false := by first | exact nomark _ | rfl) :
    QT C W X (.Compare a [.Eq] [b] pos) (eTst (eEqO false c Fn fa fb)) := PT.imp (pt_cmpR (op_eqO T Fo hr hb) ha hb' hm) fun σ H Q h => eqo_go (m := m) hK (tst_go' h)
theorem tNeO (hK : X.K = C.G.K) (Fo : FnOk X.prog X.w X.K X.mg X.base (L2N.CX X.prog X.w) k f fd ns (spP C.G Fn)) (T : EqC X.K (C.G.CA c) f) (hr : Room (k + 1) X.A) (hb : Binds X.K fd ns []) (ha : QE C W m X a fa) (hb' : QE C W m X b fb) (hm : behindInMarks .NotEq b = false := by first | exact nomark _ | rfl) :
    QT C W X (.Compare a [.NotEq] [b] pos) (eTst (eEqO true c Fn fa fb)) := PT.imp (pt_cmpR (op_neO T Fo hr hb) ha hb' hm) fun σ H Q h => eqo_go (m := m) hK (tst_go' h)
/-! ### list(range(n)) -/
def bLstR : List PV → R OV
  | [.int n] => if 0 ≤ n ∧ n ≤ 1000000 then .ok (.own ((rngP 0 n.toNat).map .sh)) else .no
  | _ => .no
theorem reps_rng {G : Gc} {Hv : Hp} {n : Int} : Reps G Hv (rngP 0 n.toNat) (rgV 0 n) := by
  unfold rngP rgV
  rw [show (n - 0).toNat = n.toNat by simp]
  generalize List.range n.toNat = l
  induction l with
  | nil => exact Reps.nil
  | cons i l ih => exact Reps.cons (by simp only [Rep]) ih
theorem qListR {e : Expr} {p pos p2 pos2 : Pos} {fe : Env → R PV} (hc : X.calm = true) (hm : X.mg "list" = none) (hm2 : X.mg "range" = none) (he : QE C W true X e fe) (hg : Gl X "list" := by rfl) (hg2 : Gl X "range" := by rfl) (na : starEach [e] X.env = (false, eval e X.env) :: starEach [] X.env := by rfl)
    (na2 : starEach [.Call (.Name "range" p2) [e] [] pos2] X.env = (false, eval (.Call (.Name "range" p2) [e] [] pos2) X.env) :: starEach [] X.env := by rfl) : QF C W X (.Call (.Name "list" p) [.Call (.Name "range" p2) [e] [] pos2] [] pos) (fB bLstR (aCons fe aNil)) := by
  refine PE.imp (pe_listRg hc hg hm (prg_1 hg2 hm2 he na) na2) fun σ H Q h => ?_
  show tE C W true fe σ H fun x H1 => ∃ n, x = .int n ∧ RgOk 0 n ∧ ∀ q, H1 q = none → Q (.ref q) (upd H1 q (.lst (rgV 0 n)))
  rw [tF_iff] at h
  rw [tE_iff]
  obtain ⟨H₀, F, ρ, S, h⟩ := h
  unfold fB aCons aNil at h
  rw [Goes.bind, Goes.bind] at h
  refine ⟨H₀, F, ρ, S, h.imp fun p _ h v H1 H₁ E1 r1 => ?_⟩
  have h : Goes C.G W (bLstR [p]) σ H H₀ fun o => ∀ v H' H₀' Fv, Ext H₀ H H₀' H' → OwnR C.G H₀' H' o v Fv → Fv.Nodup → (∀ a ∈ Fv, H a = none ∧ H₀' a = none) → Q v H' := h
  unfold bLstR at h
  cases p with
  | int n =>
    dsimp only at h
    by_cases hn : 0 ≤ n ∧ n ≤ 1000000
    · rw [if_pos hn] at h
      simp only [Rep] at r1
      refine ⟨n, r1, RgOk.of_le (Int.le_refl _) (by omega) (by omega) hn.1, fun q hq => ?_⟩
      obtain ⟨E3, o3, n3, f3⟩ := own_new (C := C) E1.z hq (reps_rng (G := C.G) (Hv := H₁) (n := n))
      exact h _ _ _ _ (E1.trans E3) o3 n3 fun c hc => ⟨Same.free E1.s (f3 c hc).1, (f3 c hc).2⟩
    · rw [if_neg hn] at h
      exact h.elim
  | _ => exact (show False from h).elim
end
/-! ### small helps -/
theorem fxo_none {G : Gc} {He Hz Hx : Hp} {i : Nat} : fxOk ⟨G, He, Hz, none, Hx⟩ i := fun _ _ z => nomatch z
theorem fxo_some {G : Gc} {He Hz Hx : Hp} {i j : Nat} {v : V} (h : j ≠ i) : fxOk ⟨G, He, Hz, some (j, v), Hx⟩ i := fun j' v' z => by
  have z : (j, v) = (j', v') := Option.some.inj z
  cases z
  exact h
theorem fxs_none {G : Gc} {He Hz Hx : Hp} {l : List Nat} : ∀ i ∈ l, fxOk ⟨G, He, Hz, none, Hx⟩ i := fun _ _ => fxo_none
theorem fxs_some {G : Gc} {He Hz Hx : Hp} {l : List Nat} {j : Nat} {v : V} (h : j ∉ l) : ∀ i ∈ l, fxOk ⟨G, He, Hz, some (j, v), Hx⟩ i := fun i hi => fxo_some fun z => h (z ▸ hi)
/-- a name that an inner block takes, as a comprehension's target -/
theorem lcNameC {C : Fc} {X : Cx} {pos : Pos} {scope : Scope} {i : Nat} {x : Str} (hx : fxOk C i) (hN : X.N.Nodup) (hi : X.N[i]? = some x) (hl : ∀ c cl, (compEnvC scope cl c X.env).scope.names.lookup x = some .cell) (hc : (scope.names.lookup x == some .cell) = true) :
    ∃ g : TG, (∀ (s : Shared) (H : Hp) (c : Addr) (cl : List (Str × Addr)) (fp : List Addr), PG (X.blk s H scope (compEnvC scope cl c X.env) fp) (.Name x pos) g) ∧ ∀ (p : PV) (v : V) (H₀ : Hp) (F : List Addr) (ρ ρ' : Env) (σ : L2.St) (H : Hp) (Q : L2.St → Hp → Prop), SR C H₀ F ρ σ H → Rep C.G H₀ p v → tgS (.nm i) p ρ = .ok ρ' → (∀ σ' F', SR C H₀ F' ρ' σ' H → (∀ vs, (∀ j ∈ (Tg.nm i).slots, j ∈ vs) → wipe σ' vs = wipe σ vs) → Q σ' H) → g v σ H Q :=
  ⟨gName i, fun s H c cl fp => pg_name hN hi (.inr (hl c cl)) (.inl hc), fun p v H₀ F ρ ρ' σ H Q S r e k => by
    simp only [tgS] at e
    cases e
    obtain ⟨F', S'⟩ := S.sh r hx
    exact k _ F' S' fun vs hv => wipe_set (hv i (by simp [Tg.slots]))⟩
/-- isinstance of a built-in class, of what is no instance of an own class -/
def tbT (t : String) : String → Option Bool := fun s => if s = "NoneType" ∨ s = "bool" ∨ s = "int" ∨ s = "str" ∨ s = "list" ∨ s = "tuple" then kitB s t else none
theorem tbT_ok {t : String} : ∀ s b, tbT t s = some b → kitB s t = some b := fun s b h => by
  unfold tbT at h
  split at h
  · exact h
  · cases h
def ibN : Nat → Option Bool := fun _ => none
theorem ibN_ok {P : Nat → Bool → Prop} : ∀ c b, ibN c = some b → P c b := fun _ _ h => nomatch h
theorem hotc {X : Cx} {a : Addr} {ob : Obj} {cls : Value} {d : Option Addr} {pl : List (Addr × Obj)} (hz : L2N.Zn cls d ob) (hf : ∃ vs, ob.data = .fields vs) : L2H.HotC (X.suite a ((a, ob) :: pl)) :=
  let ⟨vs, e⟩ := hf
  ⟨(a, ob), ⟨rfl, vs, e, hz.2.2 vs e⟩, List.mem_cons_self⟩
theorem room_mark {k : Nat} {A : Around} {h : Option Value} (r : L2H.RoomH k A) : L2H.RoomH k (A.mark h) := ⟨r.dp, r.un⟩
theorem hu_of {k : Nat} {A : Around} (r : Room k A) : A.units + 65 < cLine := by have := r.un; omega
theorem huH_of {k : Nat} {A : Around} (r : L2H.RoomH k A) : A.units + 65 < cLine := by have := r.un; omega
theorem dep_of {k : Nat} {A : Around} (r : Room k A) : A.depth + 1 < recursionLimit := by have := r.dp; omega
end L3

end
section
/-! L3. 15: the head's facts, more of them -/
namespace X4
open PySem PySem.Spec PyProof.Rows L2 He
def eqcB (x : Str) : Ck := fun K => eqO (PySem.W.findIn K (.ref (ga K x)) "__eq__") (some (some (.ref (ma K (ga K x) "__eq__")))) && (PySem.W.isFn K (.ref (ma K (ga K x) "__eq__")) && (eqO (PySem.W.findIn K (.ref (ga K x)) "__ne__") (some (some (.builtin "object.__ne__"))) &&
  (decide (PySem.W.subIn K (.ref (ga K x)) (.type "object") = some true) && decide (PySem.W.subIn K (.type "tuple") (.ref (ga K x)) = some false))))
theorem eqc_ok {K : PySem.W.Frag} {x : Str} (c : eqcB x K = true) : L3.EqC K (ga K x) (ma K (ga K x) "__eq__") := by
  obtain ⟨c1, c⟩ := ba c
  obtain ⟨c2, c⟩ := ba c
  obtain ⟨c3, c⟩ := ba c
  obtain ⟨c4, c5⟩ := ba c
  exact ⟨eqO_ok c1, c2, eqO_ok c3, of_decide_eq_true c4, of_decide_eq_true c5⟩
def xfCk (x : Str) : Ck := fun K => L2.xfB K (ga K x)
theorem xfc_ok {K : PySem.W.Frag} {x : Str} (c : xfCk x K = true) : XfC K (ga K x) := xfB_ok c
def exiC (x : Str) : Ck := fun K => exiB K (ga K x)
def kitRR (x y : Str) (b : Bool) : Ck := fun K => decide (PySem.W.kitOne K (.ref (ga K x)) (.ref (ga K y)) = some b)
def kitTR (t : String) (y : Str) (b : Bool) : Ck := fun K => decide (PySem.W.kitOne K (.type t) (.ref (ga K y)) = some b)
theorem kitRR_ok {K : PySem.W.Frag} {x y : Str} {b : Bool} (c : kitRR x y b K = true) : PySem.W.kitOne K (.ref (ga K x)) (.ref (ga K y)) = some b := of_decide_eq_true c
theorem kitTR_ok {K : PySem.W.Frag} {t : String} {y : Str} {b : Bool} (c : kitTR t y b K = true) : PySem.W.kitOne K (.type t) (.ref (ga K y)) = some b := of_decide_eq_true c
theorem exmB_ok {K : PySem.W.Frag} {x y : Str} {b : Bool} (c : exmB x y b K = true) : PySem.W.exmOne K (.ref (ga K x)) (.ref (ga K y)) = some b := of_decide_eq_true c
def tupC (x : Str) (vs : List Dv) : Ck := fun K => tupB K x vs
/-- all defs at once -/
theorem SaysX.defs {fs : List Ck} {fn : List DefD} {sx : List SupD} {K : PySem.W.Frag} (c : SaysX fs fn sx K) (h0 : 0 < fn.length) : ∃ fd : Nat → FuncData, ∀ (i : Nat) (d : DefD), fn[i]? = some d → FunD K d.name d.qual d.params d.body d.scope (d.dvs K) (d.kws K) (fAd K d.at_) (fd i) := by
  obtain ⟨f0, _⟩ := c.def_ 0 (d := fn[0]) (by rw [List.getElem?_eq_getElem h0])
  have key : ∀ i : Nat, ∃ f : FuncData, ∀ d : DefD, fn[i]? = some d → FunD K d.name d.qual d.params d.body d.scope (d.dvs K) (d.kws K) (fAd K d.at_) f := by
    intro i
    cases e : fn[i]? with
    | none => exact ⟨f0, fun d h => nomatch h⟩
    | some d0 =>
      obtain ⟨f, hf⟩ := c.def_ i e
      exact ⟨f, fun d h => by cases h; exact hf⟩
  exact ⟨fun i => (key i).choose, fun i => (key i).choose_spec⟩
theorem binds_all {K : PySem.W.Frag} {x qual : Str} {params : Arguments} {body : List Stmt} {scope : Scope} {dvs : List V} {kws : List (Str × V)} {f : Addr} {fd : FuncData} {ps : List Str} (F : FunD K x qual params body scope dvs kws f fd) (hd : dvs ≠ [])
    (h : ∀ (T : Addr) (kV doc pm : Value) (an : Option Addr) (cdv ct : Value) (us its : List Value), us.length = ps.length → its.length = dvs.length →
      ∃ k, bindArgs (PySem.W.fnOf x qual params body scope (.ref T) kV doc pm an cdv ct) ⟨us, []⟩ = seqItems? (.ref T) >>= k ∧ k (some its.toArray) = pure (ps.zip us)) : Vals [] [] ∧ Binds K fd ps [] := by
  obtain ⟨ds, h1, h2⟩ := FunD.binds1 (ps := ps) F ps.length dvs.length hd (by simp) fun T kV doc pm an cdv ct us its hu hi => by
    obtain ⟨k, e1, e2⟩ := h T kV doc pm an cdv ct us its hu hi
    exact ⟨k, e1, by rw [e2, List.drop_eq_nil_of_le (by omega), List.append_nil]⟩
  rw [List.drop_eq_nil_of_le (Nat.le_refl _)] at h1
  cases h1
  exact ⟨.nil, h2⟩
end X4

end
section
/-! L3. 16: the plain functions, reckoned by simp -/
namespace L3
open PySem PySem.Spec PyProof.Rows L2
/-- a proof by computing that simp is to name -/
theorem nr {α : Sort _} {a b : α} (h : a = b) : a = b := h
/-! ### one thing after another: every rule has its continuation by name, so that simp never looks under a binder -/
section
variable {ρ ρ' : Env} {fa fb : Env → R PV} {c d : Env → R Bool} {s t : Env → RS} {fas : Env → R (List PV)} {fo go : Env → R OV} {fm : Env → R (OV × Env)} {p q : PV} {o : OV} {i j : Nat} {x : PX}
def seqS : RS → (Env → RS) → RS
  | .nx ρ, g => g ρ
  | r, _ => r
@[simp] theorem seqS_nx : seqS (.nx ρ) s = s ρ := nr rfl
@[simp] theorem seqS_rt : seqS (.rt o) s = .rt o := nr rfl
@[simp] theorem seqS_bk : seqS (.bk ρ) s = .bk ρ := nr rfl
@[simp] theorem seqS_ct : seqS (.ct ρ) s = .ct ρ := nr rfl
@[simp] theorem seqS_er : seqS (.er x ρ) s = .er x ρ := nr rfl
@[simp] theorem sSeq_at : sSeq s t ρ = seqS (s ρ) t := by unfold sSeq; cases s ρ <;> rfl
@[simp] theorem sNx_at : sNx ρ = .nx ρ := nr rfl
@[simp] theorem sBk_at : sBk ρ = .bk ρ := nr rfl
@[simp] theorem sCt_at : sCt ρ = .ct ρ := nr rfl
def ifS : R Bool → (Env → RS) → (Env → RS) → Env → RS
  | .ok k, s, t, ρ => if k = true then s ρ else t ρ
  | .er x, _, _, ρ => .er x ρ
  | .no, _, _, _ => .no
@[simp] theorem ifS_true : ifS (.ok true) s t ρ = s ρ := nr rfl
@[simp] theorem ifS_false : ifS (.ok false) s t ρ = t ρ := nr rfl
@[simp] theorem ifS_er : ifS (.er x) s t ρ = .er x ρ := nr rfl
@[simp] theorem sIf_at : sIf c s t ρ = ifS (c ρ) s t ρ := by unfold sIf; cases c ρ <;> rfl
def setS (i : Nat) : R (OV × Env) → Env → RS
  | .ok q, _ => .nx (q.2.set i (some q.1))
  | .er x, ρ => .er x ρ
  | .no, _ => .no
@[simp] theorem setS_ok : setS i (.ok (o, ρ)) ρ' = .nx (ρ.set i (some o)) := nr rfl
@[simp] theorem setS_er : setS i (.er x) ρ' = .er x ρ' := nr rfl
@[simp] theorem sSet_at : sSet i fm ρ = setS i (fm ρ) ρ := by unfold sSet; cases fm ρ <;> rfl
def rtS : R (OV × Env) → Env → RS
  | .ok q, _ => .rt q.1
  | .er x, ρ => .er x ρ
  | .no, _ => .no
@[simp] theorem rtS_ok : rtS (.ok (o, ρ)) ρ' = .rt o := nr rfl
@[simp] theorem rtS_er : rtS (.er x) ρ' = .er x ρ' := nr rfl
@[simp] theorem sRt_at : sRt fm ρ = rtS (fm ρ) ρ := by unfold sRt; cases fm ρ <;> rfl
@[simp] theorem sRtN_at : sRtN ρ = .rt (.sh .non) := nr rfl
def doS {α : Type} : R α → Env → RS
  | .ok _, ρ => .nx ρ
  | .er x, ρ => .er x ρ
  | .no, _ => .no
@[simp] theorem doS_ok {α : Type} {a : α} : doS (.ok a) ρ = .nx ρ := nr rfl
@[simp] theorem doS_er {α : Type} : doS (.er x : R α) ρ = .er x ρ := nr rfl
@[simp] theorem sDo_at {α : Type} {f : Env → R α} : sDo f ρ = doS (f ρ) ρ := by unfold sDo; cases f ρ <;> rfl
def rzS (k : Nat) (fl : Str) : R PV → Env → RS
  | .ok p, ρ => .er ⟨k, [(fl, p)]⟩ ρ
  | .er x, ρ => .er x ρ
  | .no, _ => .no
@[simp] theorem rzS_ok {k : Nat} {fl : Str} : rzS k fl (.ok p) ρ = .er ⟨k, [(fl, p)]⟩ ρ := nr rfl
@[simp] theorem sRz_at {k : Nat} {fl : Str} : sRz k fl fa ρ = rzS k fl (fa ρ) ρ := by unfold sRz; cases fa ρ <;> rfl
@[simp] theorem sFz_at : sFz i s ρ = s (frz i ρ) := nr rfl
def tgN : R Env → Env → RS
  | .ok ρ', _ => .nx ρ'
  | .er x, ρ => .er x ρ
  | .no, _ => .no
@[simp] theorem tgN_ok : tgN (.ok ρ) ρ' = .nx ρ := nr rfl
def tgG (T : Tg) : R PV → Env → RS
  | .ok p, ρ => tgN (tgS T p ρ) ρ
  | .er x, ρ => .er x ρ
  | .no, _ => .no
@[simp] theorem tgG_ok {T : Tg} : tgG T (.ok p) ρ = tgN (tgS T p ρ) ρ := nr rfl
@[simp] theorem sTg_at {T : Tg} : sTg T fa ρ = tgG T (fa ρ) ρ := by
  unfold sTg
  cases fa ρ with
  | ok p =>
    show (tgS T p ρ).to ρ _ = tgN _ _
    cases tgS T p ρ <;> rfl
  | er x => rfl
  | no => rfl
def parS (i j : Nat) : R (List PV) → Env → RS
  | .ok [p, q], ρ => .nx ((ρ.set i (some (.sh p))).set j (some (.sh q)))
  | .ok _, _ => .no
  | .er x, ρ => .er x ρ
  | .no, _ => .no
@[simp] theorem parS_ok : parS i j (.ok [p, q]) ρ = .nx ((ρ.set i (some (.sh p))).set j (some (.sh q))) := nr rfl
@[simp] theorem sPar_at (h : ∃ p q, fas ρ = .ok [p, q]) : sPar i j fas ρ = parS i j (fas ρ) ρ := by
  obtain ⟨p, q, h⟩ := h
  unfold sPar
  rw [h]
  rfl
def forS (T : Tg) (fg : List Nat) (s : Env → RS) : R (List PV) → Env → RS
  | .ok ps, ρ => forGo T fg s ps (wipeE ρ fg)
  | .er x, ρ => .er x ρ
  | .no, _ => .no
@[simp] theorem forS_ok {T : Tg} {fg : List Nat} {ps : List PV} : forS T fg s (.ok ps) ρ = forGo T fg s ps (wipeE ρ fg) := nr rfl
@[simp] theorem sFor_at {T : Tg} {fg : List Nat} {fi : Env → R (List PV)} : sFor T fg fi s ρ = forS T fg s (fi ρ) ρ := by unfold sFor; cases fi ρ <;> rfl
@[simp] theorem sWhile_at {fu : Env → Nat} {fg : List Nat} : sWhile fu fg c s ρ = whGo fg c s (fu ρ) (wipeE ρ fg) := nr rfl
/-! expressions -/
@[simp] theorem eVar_zero {ρ : Env} : eVar 0 (some (.sh p) :: ρ) = .ok p := nr rfl
@[simp] theorem eVar_succ {x : Option OV} {ρ : Env} : eVar (i + 1) (x :: ρ) = eVar i ρ := nr rfl
@[simp] theorem eOwn_zero {ρ : Env} : eOwn 0 (some o :: ρ) = .ok o.pv := nr rfl
@[simp] theorem eOwn_succ {x : Option OV} {ρ : Env} : eOwn (i + 1) (x :: ρ) = eOwn i ρ := nr rfl
@[simp] theorem eCst_at : eCst p ρ = .ok p := nr rfl
def bin2 (g : PV → PV → R PV) : R PV → R PV → R PV
  | .ok p, .ok q => g p q
  | .ok _, r => r
  | r, _ => r
@[simp] theorem bin2_ok {g : PV → PV → R PV} : bin2 g (.ok p) (.ok q) = g p q := nr rfl
@[simp] theorem bin2_er {g : PV → PV → R PV} {r : R PV} : bin2 g (.er x) r = .er x := nr rfl
@[simp] theorem bin2_er' {g : PV → PV → R PV} : bin2 g (.ok p) (.er x) = .er x := nr rfl
@[simp] theorem eBin_at {g : PV → PV → R PV} : eBin g fa fb ρ = bin2 g (fa ρ) (fb ρ) := by
  unfold eBin
  cases fa ρ <;> cases fb ρ <;> rfl
@[simp] theorem eIdx_at : eIdx fa fb ρ = bin2 idxR (fa ρ) (fb ρ) := eBin_at
def un1 (g : PV → R PV) : R PV → R PV
  | .ok p => g p
  | r => r
@[simp] theorem un1_ok {g : PV → R PV} : un1 g (.ok p) = g p := nr rfl
@[simp] theorem un1_er {g : PV → R PV} : un1 g (.er x) = .er x := nr rfl
@[simp] theorem eUn_at {g : PV → R PV} : eUn g fa ρ = un1 g (fa ρ) := by unfold eUn; cases fa ρ <;> rfl
def tst : R PV → R Bool
  | .ok (.bl b) => .ok b
  | .ok _ => .no
  | .er x => .er x
  | .no => .no
@[simp] theorem tst_bl {b : Bool} : tst (.ok (.bl b)) = .ok b := nr rfl
@[simp] theorem tst_er : tst (.er x) = .er x := nr rfl
@[simp] theorem eTst_at : eTst fa ρ = tst (fa ρ) := by
  unfold eTst
  cases fa ρ with
  | ok p => cases p <;> rfl
  | er x => rfl
  | no => rfl
def tru1 : R PV → R Bool
  | .ok p => truthR p
  | .er x => .er x
  | .no => .no
@[simp] theorem tru1_ok : tru1 (.ok p) = truthR p := nr rfl
@[simp] theorem eTru_at : eTru fa ρ = tru1 (fa ρ) := by unfold eTru; cases fa ρ <;> rfl
def andR : R Bool → R Bool → R Bool
  | .ok k, r => if k = true then r else .ok false
  | r, _ => r
@[simp] theorem andR_true {r : R Bool} : andR (.ok true) r = r := nr rfl
@[simp] theorem andR_false {r : R Bool} : andR (.ok false) r = .ok false := nr rfl
@[simp] theorem andR_ok {b k : Bool} : andR (.ok b) (.ok k) = .ok (b && k) := by cases b <;> rfl
@[simp] theorem bAnd_at : bAnd c d ρ = andR (c ρ) (d ρ) := by unfold bAnd; cases c ρ <;> rfl
def orR : R Bool → R Bool → R Bool
  | .ok k, r => if k = true then .ok true else r
  | r, _ => r
@[simp] theorem orR_true {r : R Bool} : orR (.ok true) r = .ok true := nr rfl
@[simp] theorem orR_false {r : R Bool} : orR (.ok false) r = r := nr rfl
@[simp] theorem orR_ok {b k : Bool} : orR (.ok b) (.ok k) = .ok (b || k) := by cases b <;> rfl
@[simp] theorem bOr_at : bOr c d ρ = orR (c ρ) (d ρ) := by unfold bOr; cases c ρ <;> rfl
def notR : R Bool → R Bool
  | .ok k => .ok (!k)
  | r => r
@[simp] theorem notR_ok {b : Bool} : notR (.ok b) = .ok (!b) := nr rfl
@[simp] theorem notR_er : notR (.er x) = .er x := nr rfl
@[simp] theorem bNot_at : bNot c ρ = notR (c ρ) := by unfold bNot; cases c ρ <;> rfl
def andP : R PV → R PV → R PV
  | .ok (.bl k), r => if k = true then r else .ok (.bl false)
  | .ok _, _ => .no
  | r, _ => r
@[simp] theorem andP_true {r : R PV} : andP (.ok (.bl true)) r = r := nr rfl
@[simp] theorem andP_false {r : R PV} : andP (.ok (.bl false)) r = .ok (.bl false) := nr rfl
@[simp] theorem andP_ok {b k : Bool} : andP (.ok (.bl b)) (.ok (.bl k)) = .ok (.bl (b && k)) := by cases b <;> rfl
@[simp] theorem eAnd_at : eAnd fa fb ρ = andP (fa ρ) (fb ρ) := by
  unfold eAnd
  cases fa ρ with
  | ok p => cases p with
    | bl b => cases b <;> rfl
    | _ => rfl
  | er x => rfl
  | no => rfl
def orP : R PV → R PV → R PV
  | .ok (.bl k), r => if k = true then .ok (.bl true) else r
  | .ok _, _ => .no
  | r, _ => r
@[simp] theorem orP_true {r : R PV} : orP (.ok (.bl true)) r = .ok (.bl true) := nr rfl
@[simp] theorem orP_false {r : R PV} : orP (.ok (.bl false)) r = r := nr rfl
@[simp] theorem orP_ok {b k : Bool} : orP (.ok (.bl b)) (.ok (.bl k)) = .ok (.bl (b || k)) := by cases b <;> rfl
@[simp] theorem eOr_at : eOr fa fb ρ = orP (fa ρ) (fb ρ) := by
  unfold eOr
  cases fa ρ with
  | ok p => cases p with
    | bl b => cases b <;> rfl
    | _ => rfl
  | er x => rfl
  | no => rfl
def notP : R PV → R PV
  | .ok (.bl b) => .ok (.bl (!b))
  | .ok _ => .no
  | r => r
@[simp] theorem notP_ok {b : Bool} : notP (.ok (.bl b)) = .ok (.bl (!b)) := nr rfl
@[simp] theorem eNot_at : eNot fa ρ = notP (fa ρ) := by
  unfold eNot
  cases fa ρ with
  | ok p => cases p <;> rfl
  | er x => rfl
  | no => rfl
def ifR {α : Type} : R Bool → R α → R α → R α
  | .ok k, r, r' => if k = true then r else r'
  | .er x, _, _ => .er x
  | .no, _, _ => .no
@[simp] theorem ifR_true {α : Type} {r r' : R α} : ifR (.ok true) r r' = r := nr rfl
@[simp] theorem ifR_false {α : Type} {r r' : R α} : ifR (.ok false) r r' = r' := nr rfl
theorem ifR_ok {α : Type} {b : Bool} {u v : α} : ifR (.ok b) (.ok u) (.ok v) = .ok (if b = true then u else v) := by cases b <;> rfl
@[simp] theorem ifR_int {b : Bool} {u v : Int} : ifR (.ok b) (.ok (PV.int u)) (.ok (PV.int v)) = .ok (PV.int (if b = true then u else v)) := by cases b <;> rfl
@[simp] theorem eIf_at : eIf c fa fb ρ = ifR (c ρ) (fa ρ) (fb ρ) := by unfold eIf; cases c ρ <;> rfl
def cons2 : R PV → R (List PV) → R (List PV)
  | .ok p, .ok ps => .ok (p :: ps)
  | .ok _, r => r
  | .er x, _ => .er x
  | .no, _ => .no
@[simp] theorem cons2_ok {ps : List PV} : cons2 (.ok p) (.ok ps) = .ok (p :: ps) := nr rfl
@[simp] theorem cons2_er {r : R (List PV)} : cons2 (.er x) r = .er x := nr rfl
@[simp] theorem aNil_at : aNil ρ = .ok [] := nr rfl
@[simp] theorem aCons_at : aCons fa fas ρ = cons2 (fa ρ) (fas ρ) := by
  unfold aCons
  cases fa ρ <;> cases fas ρ <;> rfl
def app1 {α β : Type} (g : α → R β) : R α → R β
  | .ok a => g a
  | .er x => .er x
  | .no => .no
@[simp] theorem app1_ok {α β : Type} {g : α → R β} {a : α} : app1 g (.ok a) = g a := nr rfl
@[simp] theorem app1_er {α β : Type} {g : α → R β} : app1 g (.er x) = .er x := nr rfl
theorem bind_app {α β : Type} {r : R α} {g : α → R β} : r.bind g = app1 g r := by cases r <;> rfl
@[simp] theorem eTup_at : eTup fas ρ = app1 mkTup (fas ρ) := bind_app
@[simp] theorem fLst_at : fLst fas ρ = app1 mkLst (fas ρ) := bind_app
def fz1 : R OV → R PV
  | .ok o => .ok o.pv
  | .er x => .er x
  | .no => .no
@[simp] theorem fz1_ok : fz1 (.ok o) = .ok o.pv := nr rfl
@[simp] theorem fz1_er : fz1 (.er x) = .er x := nr rfl
@[simp] theorem eFz_at : eFz fo ρ = fz1 (fo ρ) := by unfold eFz; cases fo ρ <;> rfl
def sh1 : R PV → R OV
  | .ok p => .ok (.sh p)
  | .er x => .er x
  | .no => .no
@[simp] theorem sh1_ok : sh1 (.ok p) = .ok (.sh p) := nr rfl
@[simp] theorem sh1_er : sh1 (.er x) = .er x := nr rfl
@[simp] theorem fSh_at : fSh fa ρ = sh1 (fa ρ) := by unfold fSh; cases fa ρ <;> rfl
@[simp] theorem eB_at {g : List PV → R PV} : eB g fas ρ = app1 g (fas ρ) := bind_app
@[simp] theorem fB_at {g : List PV → R OV} : fB g fas ρ = app1 g (fas ρ) := bind_app
@[simp] theorem iSeq_at : iSeq fa ρ = app1 seqR (fa ρ) := bind_app
@[simp] theorem iRg_at {g : List PV → R (List PV)} : iRg g fas ρ = app1 g (fas ρ) := bind_app
@[simp] theorem tYesB_at : tYesB ρ = .ok true := nr rfl
def shM : R PV → Env → R (OV × Env)
  | .ok p, ρ => .ok (.sh p, ρ)
  | .er x, _ => .er x
  | .no, _ => .no
@[simp] theorem shM_ok : shM (.ok p) ρ = .ok (.sh p, ρ) := nr rfl
@[simp] theorem shM_er : shM (.er x) ρ = .er x := nr rfl
@[simp] theorem mSh_at : mSh fa ρ = shM (fa ρ) ρ := by unfold mSh; cases fa ρ <;> rfl
def frM : R OV → Env → R (OV × Env)
  | .ok o, ρ => .ok (o, ρ)
  | .er x, _ => .er x
  | .no, _ => .no
@[simp] theorem frM_ok : frM (.ok o) ρ = .ok (o, ρ) := nr rfl
@[simp] theorem frM_er : frM (.er x) ρ = .er x := nr rfl
@[simp] theorem mFr_at : mFr fo ρ = frM (fo ρ) ρ := by unfold mFr; cases fo ρ <;> rfl
def mvC (x : Option OV) : R (OV × Env) → R (OV × Env)
  | .ok q => .ok (q.1, x :: q.2)
  | r => r
@[simp] theorem mvC_ok {y : Option OV} : mvC y (.ok (o, ρ)) = .ok (o, y :: ρ) := nr rfl
@[simp] theorem mMv_zero {ρ : Env} : mMv 0 (some o :: ρ) = .ok (o, none :: ρ) := nr rfl
@[simp] theorem mMv_succ {y : Option OV} {ρ : Env} : mMv (i + 1) (y :: ρ) = mvC y (mMv i ρ) := by
  unfold mMv
  rw [List.getElem?_cons_succ]
  cases h : (ρ[i]? : Option (Option OV)) with
  | none => rfl
  | some z => cases z <;> simp [mvC]
def lst1 : R (List PV) → R OV
  | .ok l => .ok (.own (l.map .sh))
  | .er x => .er x
  | .no => .no
@[simp] theorem lst1_ok {l : List PV} : lst1 (.ok l) = .ok (.own (l.map .sh)) := nr rfl
def opF (g : PV → PV → R (List PV)) : R PV → R PV → R OV
  | .ok p, .ok q => lst1 (g p q)
  | .ok _, .er x => .er x
  | .ok _, .no => .no
  | .er x, _ => .er x
  | .no, _ => .no
@[simp] theorem opF_ok {g : PV → PV → R (List PV)} : opF g (.ok p) (.ok q) = lst1 (g p q) := nr rfl
@[simp] theorem fOp_at {g : PV → PV → R (List PV)} : fOp g fa fb ρ = opF g (fa ρ) (fb ρ) := by
  unfold fOp
  cases fa ρ with
  | ok p =>
    cases fb ρ with
    | ok q =>
      show (g p q).bind _ = lst1 _
      cases g p q <;> rfl
    | er x => rfl
    | no => rfl
  | er x => rfl
  | no => rfl
def flat1 : R PV → R PV
  | .ok p => if p.flat = true then .ok p else .no
  | r => r
@[simp] theorem flat1_ok (h : p.flat = true) : flat1 (.ok p) = .ok p := if_pos h
@[simp] theorem flat1_er : flat1 (.er x) = .er x := nr rfl
@[simp] theorem eFlat_at : eFlat fa ρ = flat1 (fa ρ) := by unfold eFlat; cases fa ρ <;> rfl
def call1 (m : Bool) (Fn : List PV → R OV) (dps : List PV) : R (List PV) → R OV
  | .ok ps => capR m (Fn (ps ++ dps))
  | .er x => .er x
  | .no => .no
@[simp] theorem call1_ok {m : Bool} {Fn : List PV → R OV} {dps ps : List PV} : call1 m Fn dps (.ok ps) = capR m (Fn (ps ++ dps)) := nr rfl
@[simp] theorem fCall_at {m : Bool} {Fn : List PV → R OV} {dps : List PV} : fCall m Fn dps fas ρ = call1 m Fn dps (fas ρ) := by unfold fCall; cases fas ρ <;> rfl
theorem capR_flat {m : Bool} (h : o.flat = true) : capR m (.ok o) = .ok o := if_pos (.inr h)
theorem capR_flat_er {m : Bool} (h : PV.flatf x.fs = true) : capR m (.er x) = .er x := if_pos (.inr h)
def meth1 (m : Bool) (k : Nat) (mth : Str) (Fn : List PV → R OV) (dps : List PV) : R PV → R (List PV) → R OV
  | .ok (.ins c' fs), r => if c' = k ∧ fs.lookup mth = none then (match r with
    | .ok ps => capR m (Fn (.ins c' fs :: (ps ++ dps)))
    | .er x => .er x
    | .no => .no) else .no
  | .ok _, _ => .no
  | .er x, _ => .er x
  | .no, _ => .no
@[simp] theorem meth1_ins {m : Bool} {k c' : Nat} {fs : List (Str × PV)} {mth : Str} {Fn : List PV → R OV} {dps ps : List PV} (h1 : c' = k) (h2 : fs.lookup mth = none) : meth1 m k mth Fn dps (.ok (.ins c' fs)) (.ok ps) = capR m (Fn (.ins c' fs :: (ps ++ dps))) := if_pos ⟨h1, h2⟩
@[simp] theorem fMeth_at {m : Bool} {k : Nat} {mth : Str} {Fn : List PV → R OV} {dps : List PV} : fMeth m k mth Fn dps fa fas ρ = meth1 m k mth Fn dps (fa ρ) (fas ρ) := by
  unfold fMeth
  cases fa ρ with
  | ok p =>
    cases p with
    | ins c' fs =>
      show (if _ then (fas ρ).bind _ else _) = if _ then _ else _
      cases fas ρ <;> rfl
    | _ => rfl
  | er x => rfl
  | no => rfl
def mkO (m : Bool) (k : Nat) : R (List (Str × OV)) → R OV
  | .ok fs => capR m (.ok (.obj k fs))
  | .er x => capR m (.er x)
  | .no => .no
@[simp] theorem mkO_ok {m : Bool} {k : Nat} {fs : List (Str × OV)} : mkO m k (.ok fs) = capR m (.ok (.obj k fs)) := nr rfl
@[simp] theorem mkO_er {m : Bool} {k : Nat} : mkO m k (.er x) = capR m (.er x) := nr rfl
def make1 (m : Bool) (k : Nat) (FI : List PV → R (List (Str × OV))) (dps : List PV) : R (List PV) → R OV
  | .ok ps => mkO m k (FI (ps ++ dps))
  | .er x => .er x
  | .no => .no
@[simp] theorem make1_ok {m : Bool} {k : Nat} {FI : List PV → R (List (Str × OV))} {dps ps : List PV} : make1 m k FI dps (.ok ps) = mkO m k (FI (ps ++ dps)) := nr rfl
@[simp] theorem fMake_at {m : Bool} {k : Nat} {FI : List PV → R (List (Str × OV))} {dps : List PV} : fMake m k FI dps fas ρ = make1 m k FI dps (fas ρ) := by
  unfold fMake
  cases fas ρ with
  | ok ps =>
    show capR m ((FI (ps ++ dps)).bind _) = mkO m k _
    cases FI (ps ++ dps) <;> rfl
  | er x => rfl
  | no => rfl
def fldR (f : Str) (ok : Nat → Bool) : R PV → R PV
  | .ok (.ins c fs) => if ok c then R.of (fs.lookup f) else .no
  | .ok _ => .no
  | r => r
@[simp] theorem fldR_ins {f : Str} {ok : Nat → Bool} {k : Nat} {fs : List (Str × PV)} (h : ok k = true) : fldR f ok (.ok (.ins k fs)) = R.of (fs.lookup f) := if_pos h
@[simp] theorem eFld_at {f : Str} {ok : Nat → Bool} : eFld f ok fa ρ = fldR f ok (fa ρ) := by
  unfold eFld
  cases fa ρ with
  | ok p => cases p <;> rfl
  | er x => rfl
  | no => rfl
@[simp] theorem eIsi_at {tb : String → Option Bool} {ib : Nat → Option Bool} : eIsi tb ib fa ρ = un1 (isiP tb ib) (fa ρ) := eUn_at
def sl3 : R PV → R (Option Int) → R (Option Int) → R PV
  | .ok p, .ok l, .ok h => slR p l h
  | .ok _, .ok _, .er x => .er x
  | .ok _, .er x, _ => .er x
  | .er x, _, _ => .er x
  | _, _, _ => .no
@[simp] theorem sl3_ok {l h : Option Int} : sl3 (.ok p) (.ok l) (.ok h) = slR p l h := nr rfl
@[simp] theorem eSl_at {l h : Env → R (Option Int)} : eSl fa l h ρ = sl3 (fa ρ) (l ρ) (h ρ) := by
  unfold eSl
  cases fa ρ <;> cases l ρ <;> cases h ρ <;> rfl
@[simp] theorem oNone_at : oNone ρ = .ok none := nr rfl
def oInt1 : R PV → R (Option Int)
  | .ok (.int i) => .ok (some i)
  | .ok _ => .no
  | .er x => .er x
  | .no => .no
@[simp] theorem oInt1_int {i : Int} : oInt1 (.ok (.int i)) = .ok (some i) := nr rfl
@[simp] theorem oSome_at : oSome fa ρ = oInt1 (fa ρ) := by
  unfold oSome
  cases fa ρ with
  | ok p => cases p <;> rfl
  | er x => rfl
  | no => rfl
def isN1 (neg : Bool) : R PV → R PV
  | .ok p => .ok (.bl (isN p != neg))
  | r => r
@[simp] theorem isN1_ok {neg : Bool} : isN1 neg (.ok p) = .ok (.bl (isN p != neg)) := nr rfl
@[simp] theorem eIsN_at : eIsN fa ρ = isN1 false (fa ρ) := by unfold eIsN; cases fa ρ <;> simp [isN1]
@[simp] theorem eNotN_at : eNotN fa ρ = isN1 true (fa ρ) := by unfold eNotN; cases fa ρ <;> simp [isN1]
@[simp] theorem isN_non : isN .non = true := nr rfl
@[simp] theorem isN_int {i : Int} : isN (.int i) = false := nr rfl
@[simp] theorem isN_tup {l : List PV} : isN (.tup l) = false := nr rfl
@[simp] theorem eEqO_at {neg : Bool} {k : Nat} {Fn : List PV → R OV} : eEqO neg k Fn fa fb ρ = bin2 (eqoK k Fn neg) (fa ρ) (fb ρ) := by
  unfold eEqO
  cases fa ρ <;> cases fb ρ <;> rfl
@[simp] theorem eXf_at {ok : Nat → Bool} {x : PX} {fl : Str} (h : ok x.c = true) : eXf ok x fl ρ = R.of (x.fs.lookup fl) := if_pos h
@[simp] theorem eXi_at {ib : Nat → Option Bool} {x : PX} : eXi ib x ρ = R.of ((ib x.c).map .bl) := nr rfl
def tryS (hs : List Hd) : RS → RS
  | .er x ρ' => handle hs x ρ'
  | r => r
@[simp] theorem tryS_er {hs : List Hd} : tryS hs (.er x ρ) = handle hs x ρ := nr rfl
@[simp] theorem tryS_nx {hs : List Hd} : tryS hs (.nx ρ) = .nx ρ := nr rfl
@[simp] theorem tryS_rt {hs : List Hd} : tryS hs (.rt o) = .rt o := nr rfl
@[simp] theorem tryS_bk {hs : List Hd} : tryS hs (.bk ρ) = .bk ρ := nr rfl
@[simp] theorem tryS_ct {hs : List Hd} : tryS hs (.ct ρ) = .ct ρ := nr rfl
@[simp] theorem sTry_at {hs : List Hd} : sTry s hs ρ = tryS hs (s ρ) := by unfold sTry; cases s ρ <;> rfl
@[simp] theorem handle_nm {m : Nat → Option Bool} {su : PX → Env → RS} {hs : List Hd} (h1 : m x.c = some true) (h3 : i < ρ.length) : handle (⟨m, some i, su⟩ :: hs) x ρ = goneS i (calmS (su x (ρ.set i none))) := by
  unfold handle
  simp only [h1]
  exact if_pos h3
@[simp] theorem handle_bare {m : Nat → Option Bool} {su : PX → Env → RS} {hs : List Hd} (h1 : m x.c = some true) : handle (⟨m, none, su⟩ :: hs) x ρ = calmS (su x ρ) := by
  unfold handle
  simp only [h1]
@[simp] theorem handle_not {m : Nat → Option Bool} {nm : Option Nat} {su : PX → Env → RS} {hs : List Hd} (h1 : m x.c = some false) : handle (⟨m, nm, su⟩ :: hs) x ρ = handle hs x ρ := by
  rw [handle]
  simp only [h1]
@[simp] theorem handle_nil : handle [] x ρ = .er x ρ := nr rfl
@[simp] theorem calmS_nx : calmS (.nx ρ) = .nx ρ := nr rfl
@[simp] theorem calmS_rt : calmS (.rt o) = .rt o := nr rfl
@[simp] theorem calmS_bk : calmS (.bk ρ) = .bk ρ := nr rfl
@[simp] theorem calmS_ct : calmS (.ct ρ) = .ct ρ := nr rfl
@[simp] theorem goneS_nx : goneS i (.nx ρ) = .nx (ρ.set i none) := nr rfl
@[simp] theorem goneS_rt : goneS i (.rt o) = .rt o := nr rfl
@[simp] theorem goneS_bk : goneS i (.bk ρ) = .bk (ρ.set i none) := nr rfl
@[simp] theorem goneS_ct : goneS i (.ct ρ) = .ct (ρ.set i none) := nr rfl
/-! results -/
@[simp] theorem outS_nx : outS (.nx ρ) = .ok (.sh .non) := nr rfl
@[simp] theorem outS_rt : outS (.rt o) = .ok o := nr rfl
@[simp] theorem outS_er {x : PX} : outS (.er x ρ) = .er x := nr rfl
theorem defF_at {n np : Nat} {ps : List PV} (h : ps.length = np) : defF n np s ps = outS (s (startE n ps)) := if_pos h
theorem initF_at {n np k : Nat} {ps : List PV} (h : ps.length + 1 = np) : initF n np k s ps = outI k (s (some (.obj k []) :: startE (n - 1) ps)) := if_pos h
@[simp] theorem outI_ok {k : Nat} {fs : List (Str × OV)} : outI k (.nx (some (.obj k fs) :: ρ)) = .ok fs := if_pos rfl
@[simp] theorem outI_er {k k' : Nat} {fs : List (Str × OV)} : outI k (.er x (some (.obj k' fs) :: ρ)) = .er x := nr rfl
/-! places -/
@[simp] theorem atE_zero {ρ : Env} {π : List Stp} : atE (some o :: ρ) (0, π) = getP π o := nr rfl
@[simp] theorem atE_succ {x : Option OV} {ρ : Env} {π : List Stp} : atE (x :: ρ) (i + 1, π) = atE ρ (i, π) := nr rfl
@[simp] theorem upE_zero {ρ : Env} {π : List Stp} {n : OV} : upE (some o :: ρ) (0, π) n = some (setP π o n) :: ρ := nr rfl
@[simp] theorem upE_succ {x : Option OV} {ρ : Env} {π : List Stp} {n : OV} : upE (x :: ρ) (i + 1, π) n = x :: upE ρ (i, π) n := by
  unfold upE
  rw [List.getElem?_cons_succ]
  cases h : (ρ[i]? : Option (Option OV)) with
  | none => rfl
  | some y => cases y <;> simp
@[simp] theorem getP_nil : getP [] o = some o := by unfold getP; rfl
def getL (π : List Stp) : Option OV → Option OV
  | some o => getP π o
  | none => none
@[simp] theorem getL_some {π : List Stp} : getL π (some o) = getP π o := nr rfl
@[simp] theorem getP_ix {l : List OV} {π : List Stp} : getP (.ix j :: π) (.own l) = getL π l[j]? := by
  show (l[j]?).bind (getP π) = _
  cases l[j]? <;> rfl
@[simp] theorem getP_fl {f : Str} {k : Nat} {fs : List (Str × OV)} {π : List Stp} : getP (.fl f :: π) (.obj k fs) = getL π (fs.lookup f) := by
  show (fs.lookup f).bind (getP π) = _
  cases fs.lookup f <;> rfl
@[simp] theorem setP_nil {n : OV} : setP [] o n = n := by unfold setP; rfl
theorem setP_ix {l : List OV} {π : List Stp} {n : OV} : setP (.ix j :: π) (.own l) n = (match l[j]? with
    | some o => .own (l.set j (setP π o n))
    | none => .own l) := rfl
@[simp] theorem setP_ix1 {l : List OV} {n : OV} : setP [.ix j] (.own l) n = .own (l.set j n) := by
  rw [setP_ix]
  cases h : l[j]? with
  | some o => simp only [setP_nil]
  | none =>
    have hl : l.length ≤ j := List.getElem?_eq_none_iff.mp h
    show OV.own l = _
    rw [List.set_eq_of_length_le hl]
@[simp] theorem setP_fl1 {f : Str} {k : Nat} {fs : List (Str × OV)} {n y : OV} (h : fs.lookup f = some y) : setP [.fl f] (.obj k fs) n = .obj k (putO f n fs) := by
  show (match fs.lookup f with
    | some o => OV.obj k (putO f (setP [] o n) fs)
    | none => .obj k fs) = _
  rw [h]
  simp
def ownR (q : Pth) : Option OV → R Pth
  | some (.own _) => .ok q
  | some (.obj _ _) => .ok q
  | _ => .no
@[simp] theorem ownR_own {q : Pth} {l : List OV} : ownR q (some (.own l)) = .ok q := nr rfl
@[simp] theorem ownR_obj {q : Pth} {k : Nat} {fs : List (Str × OV)} : ownR q (some (.obj k fs)) = .ok q := nr rfl
theorem pthR_at {q : Pth} : pthR ρ q = ownR q (atE ρ q) := by
  unfold pthR ownR
  rfl
@[simp] theorem pVar_at : pVar i ρ = ownR (i, []) (atE ρ (i, [])) := pthR_at
def ixR (ρ : Env) (q : Pth) : Option OV → PV → R Pth
  | some (.own l), .int k => (match ixN l.length k with
    | some j => pthR ρ (q.1, q.2 ++ [.ix j])
    | none => .no)
  | _, _ => .no
@[simp] theorem ixR_at {q : Pth} {l : List OV} {k : Int} (h0 : 0 ≤ k) (h1 : k < l.length) : ixR ρ q (some (.own l)) (.int k) = ownR (q.1, q.2 ++ [.ix k.toNat]) (atE ρ (q.1, q.2 ++ [.ix k.toNat])) := by
  have e : ixN l.length k = some k.toNat := by unfold ixN; rw [if_pos h0, if_pos h1]
  show (match ixN l.length k with
    | some j => pthR ρ (q.1, q.2 ++ [Stp.ix j])
    | none => .no) = _
  rw [e]
  exact pthR_at
def ix2 (ρ : Env) : R Pth → R PV → R Pth
  | .ok q, .ok p => ixR ρ q (atE ρ q) p
  | .ok _, .er x => .er x
  | .er x, _ => .er x
  | _, _ => .no
@[simp] theorem ix2_ok {q : Pth} : ix2 ρ (.ok q) (.ok p) = ixR ρ q (atE ρ q) p := nr rfl
@[simp] theorem pIx_at {g : Env → R Pth} : pIx g fa ρ = ix2 ρ (g ρ) (fa ρ) := by
  unfold pIx
  cases g ρ <;> cases fa ρ <;> rfl
def apG (q : Pth) : Option OV → R (OV × Env) → Env → RS
  | some (.own _), .ok r, _ => apR q r.1 r.2
  | some (.own _), .er x, ρ => .er x ρ
  | _, _, _ => .no
@[simp] theorem apG_ok {q : Pth} {l : List OV} : apG q (some (.own l)) (.ok (o, ρ)) ρ' = apR q o ρ := nr rfl
def ap2 (ρ : Env) : R Pth → R (OV × Env) → RS
  | .ok q, r => apG q (atE ρ q) r ρ
  | .er x, _ => .er x ρ
  | .no, _ => .no
@[simp] theorem ap2_ok {q : Pth} {r : R (OV × Env)} : ap2 ρ (.ok q) r = apG q (atE ρ q) r ρ := nr rfl
@[simp] theorem sApp_at {g : Env → R Pth} : sApp g fm ρ = ap2 ρ (g ρ) (fm ρ) := by
  unfold sApp
  cases g ρ with
  | ok q =>
    show (match atE ρ q with
      | some (.own _) => (fm ρ).to ρ fun r => apR q r.1 r.2
      | _ => .no) = apG q (atE ρ q) (fm ρ) ρ
    cases atE ρ q with
    | none => rfl
    | some y =>
      cases y with
      | own l => cases fm ρ <;> rfl
      | _ => rfl
  | er x => rfl
  | no => rfl
def apN (q : Pth) (n : OV) (ρ : Env) : Option OV → RS
  | some (.own l) => if l.length < sizeLine then .nx (upE ρ q (.own (l ++ [n]))) else .no
  | _ => .no
@[simp] theorem apN_own {q : Pth} {n : OV} {l : List OV} (h : l.length < sizeLine) : apN q n ρ (some (.own l)) = .nx (upE ρ q (.own (l ++ [n]))) := if_pos h
@[simp] theorem apR_at {q : Pth} {n : OV} : apR q n ρ = apN q n ρ (atE ρ q) := nr rfl
def stG (q : Pth) (n : OV) (ρ : Env) : Option OV → PV → RS
  | some (.own l), .int k => (match ixN l.length k with
    | some j => .nx (upE ρ q (.own (l.set j n)))
    | none => .no)
  | _, _ => .no
@[simp] theorem stG_own {q : Pth} {n : OV} {l : List OV} {k : Int} (h0 : 0 ≤ k) (h1 : k < l.length) : stG q n ρ (some (.own l)) (.int k) = .nx (upE ρ q (.own (l.set k.toNat n))) := by
  have e : ixN l.length k = some k.toNat := by unfold ixN; rw [if_pos h0, if_pos h1]
  show (match ixN l.length k with
    | some j => RS.nx (upE ρ q (.own (l.set j n)))
    | none => .no) = _
  rw [e]
theorem stR_at {q : Pth} {n : OV} : stR q p n ρ = stG q n ρ (atE ρ q) p := rfl
def st2 : R Pth → R PV → OV → Env → RS
  | .ok q, .ok p, o, ρ => stR q p o ρ
  | .ok _, .er x, _, ρ => .er x ρ
  | .er x, _, _, ρ => .er x ρ
  | _, _, _, _ => .no
@[simp] theorem st2_ok {q : Pth} : st2 (.ok q) (.ok p) o ρ = stG q o ρ (atE ρ q) p := nr rfl
def st3 (g : Env → R Pth) (fi : Env → R PV) : R (OV × Env) → Env → RS
  | .ok r, _ => st2 (g r.2) (fi r.2) r.1 r.2
  | .er x, ρ => .er x ρ
  | .no, _ => .no
@[simp] theorem st3_ok {g : Env → R Pth} {fi : Env → R PV} : st3 g fi (.ok (o, ρ)) ρ' = st2 (g ρ) (fi ρ) o ρ := nr rfl
@[simp] theorem sSt_at {g : Env → R Pth} {fi : Env → R PV} : sSt g fi fm ρ = st3 g fi (fm ρ) ρ := by
  unfold sSt
  cases fm ρ with
  | ok r =>
    show (g r.2).to r.2 (fun q => (fi r.2).to r.2 fun p => stR q p r.1 r.2) = st2 (g r.2) (fi r.2) r.1 r.2
    cases g r.2 <;> cases fi r.2 <;> rfl
  | er x => rfl
  | no => rfl
def flG (q : Pth) (ok : Nat → Bool) (fl : Str) (n : OV) (ρ : Env) : Option OV → RS
  | some (.obj c fs) => if ok c = true ∧ fs.length < 1000 then .nx (upE ρ q (.obj c (putO fl n fs))) else .no
  | _ => .no
@[simp] theorem flG_obj {q : Pth} {ok : Nat → Bool} {fl : Str} {n : OV} {k : Nat} {fs : List (Str × OV)} (h : ok k = true) (h2 : fs.length < 1000) : flG q ok fl n ρ (some (.obj k fs)) = .nx (upE ρ q (.obj k (putO fl n fs))) := if_pos ⟨h, h2⟩
def fl2 (ok : Nat → Bool) (fl : Str) : R Pth → OV → Env → RS
  | .ok q, o, ρ => flR q ok fl o ρ
  | .er x, _, ρ => .er x ρ
  | .no, _, _ => .no
@[simp] theorem fl2_ok {ok : Nat → Bool} {fl : Str} {q : Pth} : fl2 ok fl (.ok q) o ρ = flG q ok fl o ρ (atE ρ q) := nr rfl
def fl3 (g : Env → R Pth) (ok : Nat → Bool) (fl : Str) : R (OV × Env) → Env → RS
  | .ok r, _ => fl2 ok fl (g r.2) r.1 r.2
  | .er x, ρ => .er x ρ
  | .no, _ => .no
@[simp] theorem fl3_ok {g : Env → R Pth} {ok : Nat → Bool} {fl : Str} : fl3 g ok fl (.ok (o, ρ)) ρ' = fl2 ok fl (g ρ) o ρ := nr rfl
@[simp] theorem sFl_at {g : Env → R Pth} {ok : Nat → Bool} {fl : Str} : sFl g ok fl fm ρ = fl3 g ok fl (fm ρ) ρ := by
  unfold sFl
  cases fm ρ with
  | ok r =>
    show (g r.2).to r.2 (fun q => flR q ok fl r.1 r.2) = fl2 ok fl (g r.2) r.1 r.2
    cases g r.2 <;> rfl
  | er x => rfl
  | no => rfl
@[simp] theorem putO_nil {f : Str} {n : OV} : putO f n [] = [(f, n)] := nr rfl
@[simp] theorem putO_ne {f g : Str} {n x : OV} {r : List (Str × OV)} (h : g ≠ f) : putO f n ((g, x) :: r) = (g, x) :: putO f n r := if_neg h
@[simp] theorem putO_eq {f : Str} {n x : OV} {r : List (Str × OV)} : putO f n ((f, x) :: r) = (f, n) :: r := if_pos rfl
@[simp] theorem frz_zero {ρ : Env} : frz 0 (some o :: ρ) = some (.sh o.pv) :: ρ := nr rfl
@[simp] theorem frz_succ {x : Option OV} {ρ : Env} : frz (i + 1) (x :: ρ) = x :: frz i ρ := by
  unfold frz
  rw [List.getElem?_cons_succ]
  cases h : (ρ[i]? : Option (Option OV)) with
  | none => rfl
  | some y => cases y <;> simp
@[simp] theorem wipeE_nil : wipeE ρ [] = ρ := nr rfl
@[simp] theorem wipeE_cons {v : Nat} {vs : List Nat} : wipeE ρ (v :: vs) = (wipeE ρ vs).set v none := nr rfl
@[simp] theorem tgS_nm : tgS (.nm i) p ρ = .ok (ρ.set i (some (.sh p))) := nr rfl
@[simp] theorem tgS_tup {l : List PV} {is : List Nat} (h : l.length = is.length) : tgS (.tp is) (.tup l) ρ = .ok (setMany is l ρ) := if_pos h
@[simp] theorem tgS_lst {l : List PV} {is : List Nat} (h : l.length = is.length) : tgS (.tp is) (.lst l) ρ = .ok (setMany is l ρ) := if_pos h
@[simp] theorem setMany_nil {ps : List PV} : setMany [] ps ρ = ρ := nr rfl
@[simp] theorem setMany_cons {is : List Nat} {ps : List PV} : setMany (i :: is) (p :: ps) ρ = setMany is ps (ρ.set i (some (.sh p))) := nr rfl
/-- xs.append(y); z = list(y) -/
def apl2 (ρ : Env) (i j : Nat) (f : Env → RS) : R Pth → RS
  | .ok q => (match atE ρ q, ρ[j]? with
    | some (.own _), some (some (.own its)) => (match shs its with
      | some _ => sSeq (apR q (.own its)) (fun ρ' => f (ρ'.set i (some (.own its)))) (ρ.set j none)
      | none => .no)
    | _, _ => .no)
  | .er x => .er x ρ
  | .no => .no
@[simp] theorem sAppList_at {g : Env → R Pth} : sAppList g j i s ρ = apl2 ρ i j s (g ρ) := by
  unfold sAppList
  cases g ρ with
  | ok q => rfl
  | er x => rfl
  | no => rfl
theorem shs_map : ∀ l : List PV, shs (l.map OV.sh) = some l
  | [] => rfl
  | p :: l => by rw [List.map_cons, shs, shs_map l]; rfl
end
/-! values -/
@[simp] theorem pv_sh {p : PV} : (OV.sh p).pv = p := by simp only [OV.pv]
@[simp] theorem pv_own {l : List OV} : (OV.own l).pv = .lst (OV.pvs l) := by simp only [OV.pv]
@[simp] theorem pv_obj {c : Nat} {fs : List (Str × OV)} : (OV.obj c fs).pv = .ins c (OV.pvf fs) := by simp only [OV.pv]
theorem pvs_eq : ∀ l : List OV, OV.pvs l = l.map OV.pv
  | [] => by simp only [OV.pvs, List.map_nil]
  | o :: l => by simp only [OV.pvs, List.map_cons, pvs_eq l]
@[simp] theorem pvs_nil : OV.pvs [] = [] := by simp only [OV.pvs]
@[simp] theorem pvs_cons {o : OV} {l : List OV} : OV.pvs (o :: l) = o.pv :: OV.pvs l := by simp only [OV.pvs]
@[simp] theorem pvs_append {l k : List OV} : OV.pvs (l ++ k) = OV.pvs l ++ OV.pvs k := by simp only [pvs_eq, List.map_append]
@[simp] theorem pvs_map {α : Type} {f : α → OV} {l : List α} : OV.pvs (l.map f) = l.map fun x => (f x).pv := by rw [pvs_eq, List.map_map]; rfl
@[simp] theorem pvf_nil : OV.pvf [] = [] := by simp only [OV.pvf]
@[simp] theorem pvf_cons {f : Str} {o : OV} {l : List (Str × OV)} : OV.pvf ((f, o) :: l) = (f, o.pv) :: OV.pvf l := by simp only [OV.pvf]
theorem pvs_length (l : List OV) : (OV.pvs l).length = l.length := by rw [pvs_eq, List.length_map]
section
variable {a b : Int} {x y : Str} {l r : List PV} {p q : PV}
@[simp] theorem add_int : pyAdd (.int a) (.int b) = .ok (.int (a + b)) := nr rfl
@[simp] theorem add_str (h : x.length + y.length ≤ sizeLine) : pyAdd (.str x) (.str y) = .ok (.str (x ++ y)) := if_pos h
@[simp] theorem add_lst (h : l.length + r.length ≤ sizeLine) : pyAdd (.lst l) (.lst r) = .ok (.lst (l ++ r)) := if_pos h
@[simp] theorem add_tup (h : l.length + r.length ≤ sizeLine) : pyAdd (.tup l) (.tup r) = .ok (.tup (l ++ r)) := if_pos h
@[simp] theorem sub_int : pySub (.int a) (.int b) = .ok (.int (a - b)) := nr rfl
@[simp] theorem neg_int : pyNeg (.int a) = .ok (.int (-a)) := nr rfl
@[simp] theorem mod_int (h : 0 < b) : pyMod (.int a) (.int b) = .ok (.int (a % b)) := by
  show (if decide (0 < b) = true then _ else _) = _
  rw [if_pos (decide_eq_true h)]
theorem log2_le {n k : Nat} (h : n < 2 ^ k) (hk : 0 < k) : n.log2 < k := by
  by_cases z : n = 0
  · subst z; simpa using hk
  · exact (Nat.log2_lt z).mpr h
@[simp] theorem fdiv_int (h : 0 < b) (h2 : b < 2 ^ 200) : pyFdiv (.int a) (.int b) = .ok (.int (a / b)) := by
  show (if (decide (0 < b) && decide (b.natAbs.log2 < 9000)) = true then _ else _) = _
  have e : b.natAbs.log2 < 200 := log2_le (by have : (b.natAbs : Int) < 2 ^ 200 := by omega
                                              exact_mod_cast this) (by decide)
  rw [if_pos (by simp [h]; omega)]
@[simp] theorem mul_int (h : -(2 ^ 64) < b ∧ b < 2 ^ 64) : pyMul (.int a) (.int b) = .ok (.int (a * b)) := by
  show (if mulOk a b = true then _ else _) = _
  rw [if_pos (by unfold mulOk; simp only [Bool.or_eq_true, decide_eq_true_eq]; omega)]
theorem mul_int_l (h : -(2 ^ 64) < a ∧ a < 2 ^ 64) : pyMul (.int a) (.int b) = .ok (.int (a * b)) := by
  show (if mulOk a b = true then _ else _) = _
  rw [if_pos (by unfold mulOk; simp only [Bool.or_eq_true, decide_eq_true_eq]; omega)]
@[simp] theorem pow_int (h : 0 ≤ b) (h1 : b ≤ 1000000) (h2 : a.natAbs < 2 ^ 64) : pyPow (.int a) (.int b) = .ok (.int (a ^ b.toNat)) := by
  show (if (decide (0 ≤ b) && decide (b ≤ 1000000) && decide (a.natAbs < 2 ^ 64)) = true then _ else _) = _
  rw [if_pos (by simp only [Bool.and_eq_true, decide_eq_true_eq]; exact ⟨⟨h, h1⟩, h2⟩)]
@[simp] theorem lt_int : pyLt (.int a) (.int b) = .ok (.bl (decide (a < b))) := nr rfl
@[simp] theorem le_int : pyLe (.int a) (.int b) = .ok (.bl (decide (a ≤ b))) := nr rfl
@[simp] theorem gt_int : pyGt (.int a) (.int b) = .ok (.bl (decide (b < a))) := nr rfl
@[simp] theorem ge_int : pyGe (.int a) (.int b) = .ok (.bl (decide (b ≤ a))) := nr rfl
@[simp] theorem eq_int : pyEq (.int a) (.int b) = .ok (.bl (decide (a = b))) := nr rfl
@[simp] theorem ne_int : pyNe (.int a) (.int b) = .ok (.bl (!decide (a = b))) := nr rfl
@[simp] theorem eq_str : pyEq (.str x) (.str y) = .ok (.bl (decide (x = y))) := nr rfl
@[simp] theorem ne_str : pyNe (.str x) (.str y) = .ok (.bl (!decide (x = y))) := nr rfl
@[simp] theorem eq_bl {c d : Bool} : pyEq (.bl c) (.bl d) = .ok (.bl (decide (c = d))) := nr rfl
@[simp] theorem ne_bl {c d : Bool} : pyNe (.bl c) (.bl d) = .ok (.bl (!decide (c = d))) := nr rfl
@[simp] theorem idx_lst : idxR (.lst l) (.int a) = R.of (atI l a) := nr rfl
@[simp] theorem idx_scr : idxR (.scr l) (.int a) = R.of (atI l a) := nr rfl
@[simp] theorem idx_tup : idxR (.tup l) (.int a) = R.of (atI l a) := nr rfl
@[simp] theorem mkTup_ok (h : l.length ≤ sizeLine) : mkTup l = .ok (.tup l) := if_pos h
@[simp] theorem mkLst_ok (h : l.length ≤ sizeLine) : mkLst l = .ok (.own (l.map .sh)) := if_pos h
@[simp] theorem len_lst : bLen [.lst l] = .ok (.int l.length) := nr rfl
@[simp] theorem len_scr : bLen [.scr l] = .ok (.int l.length) := nr rfl
@[simp] theorem len_tup : bLen [.tup l] = .ok (.int l.length) := nr rfl
@[simp] theorem abs_int : bAbs [.int a] = .ok (.int (if a < 0 then -a else a)) := nr rfl
@[simp] theorem int_int : bInt [.int a] = .ok (.int a) := nr rfl
@[simp] theorem max_int : bMax [.int a, .int b] = .ok (.int (if b > a then b else a)) := nr rfl
@[simp] theorem min_int : bMin [.int a, .int b] = .ok (.int (if b < a then b else a)) := nr rfl
@[simp] theorem tuple_lst : bTuple [.lst l] = .ok (.tup l) := nr rfl
@[simp] theorem tuple_tup : bTuple [.tup l] = .ok (.tup l) := nr rfl
@[simp] theorem list_lst : bList [.lst l] = .ok (.own (l.map .sh)) := nr rfl
@[simp] theorem list_tup : bList [.tup l] = .ok (.own (l.map .sh)) := nr rfl
@[simp] theorem seq_lst : seqR (.lst l) = .ok l := nr rfl
@[simp] theorem seq_scr : seqR (.scr l) = .ok l := nr rfl
@[simp] theorem seq_tup : seqR (.tup l) = .ok l := nr rfl
@[simp] theorem rng1_int (h : -(2 ^ 62) ≤ a ∧ a < 2 ^ 62) : rng1R [.int a] = .ok (rngP 0 a.toNat) := if_pos h
@[simp] theorem rng2_int (h : -(2 ^ 62) ≤ a ∧ a < 2 ^ 62) (h' : -(2 ^ 62) ≤ b ∧ b < 2 ^ 62) : rng2R [.int a, .int b] = .ok (rngP a (b - a).toNat) := if_pos ⟨h.1, h.2, h'.1, h'.2⟩
@[simp] theorem listR_int (h : 0 ≤ a ∧ a ≤ 1000000) : bLstR [.int a] = .ok (.own ((rngP 0 a.toNat).map .sh)) := if_pos h
/-- the one item of a list -/
theorem atI_of {α : Type} {l : List α} {a : Int} (h0 : 0 ≤ a) (h1 : a < l.length) : atI l a = l[a.toNat]? := by
  unfold atI ixN
  rw [if_pos h0, if_pos h1]
  rfl
theorem atI_natP {α : Type} {l : List α} {k : Nat} : atI l (k : Int) = l[k]? := by
  by_cases h : (k : Int) < l.length
  · rw [atI_of (by omega) h, Int.toNat_natCast]
  · unfold atI ixN
    rw [if_pos (by omega), if_neg h]
    exact (List.getElem?_eq_none (by omega)).symm
@[simp] theorem atI_map {α β : Type} {f : α → β} {l : List α} : atI (l.map f) a = (atI l a).map f := by
  unfold atI
  rw [List.length_map]
  cases ixN l.length a with
  | none => rfl
  | some j => simp
theorem atI_some {α : Type} {l : List α} {a : Int} (h0 : 0 ≤ a) (h1 : a < l.length) : atI l a = some (l[a.toNat]'(by omega)) := by
  rw [atI_of h0 h1]
  exact List.getElem?_eq_getElem _
@[simp] theorem atI_zero {α : Type} {x : α} {l : List α} : atI (x :: l) 0 = some x := by
  rw [atI_of (by omega) (by simp only [List.length_cons]; omega)]
  rfl
@[simp] theorem atI_one {α : Type} {x y : α} {l : List α} : atI (x :: y :: l) 1 = some y := by
  rw [atI_of (by omega) (by simp only [List.length_cons]; omega)]
  rfl
@[simp] theorem atI_two {α : Type} {x y z : α} {l : List α} : atI (x :: y :: z :: l) 2 = some z := by
  rw [atI_of (by omega) (by simp only [List.length_cons]; omega)]
  rfl
end
/-! loops -/
section
variable {α : Type} {T : Tg} {fg : List Nat} {fb : Env → RS} {ρ : Env} {f : α → PV}
theorem forGo_nil : forGo T fg fb [] ρ = .nx ρ := rfl
theorem forGo_cons_nx {p : PV} {ps : List PV} {ρ1 ρ2 : Env} (h1 : tgS T p ρ = .ok ρ1) (h2 : fb ρ1 = .nx ρ2) : forGo T fg fb (p :: ps) ρ = forGo T fg fb ps (wipeE ρ2 fg) := by
  rw [forGo, h1]
  dsimp only
  rw [h2]
theorem forGo_cons_ct {p : PV} {ps : List PV} {ρ1 ρ2 : Env} (h1 : tgS T p ρ = .ok ρ1) (h2 : fb ρ1 = .ct ρ2) : forGo T fg fb (p :: ps) ρ = forGo T fg fb ps (wipeE ρ2 fg) := by
  rw [forGo, h1]
  dsimp only
  rw [h2]
theorem forGo_cons_bk {p : PV} {ps : List PV} {ρ1 ρ2 : Env} (h1 : tgS T p ρ = .ok ρ1) (h2 : fb ρ1 = .bk ρ2) : forGo T fg fb (p :: ps) ρ = .nx (wipeE ρ2 fg) := by
  rw [forGo, h1]
  dsimp only
  rw [h2]
theorem forGo_cons_rt {p : PV} {ps : List PV} {ρ1 : Env} {o : OV} (h1 : tgS T p ρ = .ok ρ1) (h2 : fb ρ1 = .rt o) : forGo T fg fb (p :: ps) ρ = .rt o := by
  rw [forGo, h1]
  dsimp only
  rw [h2]
theorem forGo_cons_er {p : PV} {ps : List PV} {ρ1 ρ2 : Env} {x : PX} (h1 : tgS T p ρ = .ok ρ1) (h2 : fb ρ1 = .er x ρ2) : forGo T fg fb (p :: ps) ρ = .er x ρ2 := by
  rw [forGo, h1]
  dsimp only
  rw [h2]
/-- how one turn goes on: its environment at the next turn's start -/
def Turn (T : Tg) (fg : List Nat) (fb : Env → RS) (p : PV) (ρ ρ' : Env) : Prop := ∃ ρ1 ρ2, tgS T p ρ = .ok ρ1 ∧ (fb ρ1 = .nx ρ2 ∨ fb ρ1 = .ct ρ2) ∧ wipeE ρ2 fg = ρ'
theorem Turn.go {p : PV} {ps : List PV} {ρ' : Env} (h : Turn T fg fb p ρ ρ') : forGo T fg fb (p :: ps) ρ = forGo T fg fb ps ρ' := by
  obtain ⟨ρ1, ρ2, h1, h2 | h2, rfl⟩ := h
  · exact forGo_cons_nx h1 h2
  · exact forGo_cons_ct h1 h2
theorem Turn.nm {i : Nat} {p : PV} {ρ2 ρ' : Env} (h : fb (ρ.set i (some (.sh p))) = .nx ρ2) (e : wipeE ρ2 fg = ρ') : Turn (.nm i) fg fb p ρ ρ' := ⟨_, ρ2, rfl, .inl h, e⟩
/-- by the state: a fold -/
theorem forGo_fold {β : Type} (enc : β → Env) (stp : β → α → β) (I : β → Prop) : ∀ (l : List α) (b : β), I b → (∀ x ∈ l, ∀ b, I b → I (stp b x) ∧ Turn T fg fb (f x) (enc b) (enc (stp b x))) → forGo T fg fb (l.map f) (enc b) = .nx (enc (l.foldl stp b)) ∧ I (l.foldl stp b)
  | [], b, hb, _ => ⟨rfl, hb⟩
  | x :: l, b, hb, h => by
    obtain ⟨h1, h2⟩ := h x List.mem_cons_self b hb
    rw [List.map_cons, h2.go, List.foldl_cons]
    exact forGo_fold enc stp I l _ h1 fun y hy => h y (List.mem_cons_of_mem _ hy)
/-- the same, the turns counted -/
theorem forGo_foldN {β : Type} (enc : β → Env) (stp : β → α → β) (I : Nat → β → Prop) : ∀ (l : List α) (k : Nat) (b : β), I k b → (∀ j x b, l[j]? = some x → I (k + j) b → I (k + j + 1) (stp b x) ∧ Turn T fg fb (f x) (enc b) (enc (stp b x))) → forGo T fg fb (l.map f) (enc b) = .nx (enc (l.foldl stp b)) ∧ I (k + l.length) (l.foldl stp b)
  | [], k, b, hb, _ => ⟨rfl, hb⟩
  | x :: l, k, b, hb, h => by
    obtain ⟨h1, h2⟩ := h 0 x b rfl hb
    rw [List.map_cons, h2.go, List.foldl_cons]
    obtain ⟨e1, e2⟩ := forGo_foldN enc stp I l (k + 1) _ h1 fun j y b hy hi => by
      have := h (j + 1) y b hy (by rw [← Nat.add_assoc, Nat.add_right_comm]; exact hi)
      rw [← Nat.add_assoc, Nat.add_right_comm k j 1] at this
      exact this
    exact ⟨e1, by rw [List.length_cons, ← Nat.add_assoc, Nat.add_right_comm]; exact e2⟩
/-- by an invariant -/
theorem forGo_inv (I : Nat → Env → Prop) : ∀ (l : List α) (k : Nat) (ρ : Env), I k ρ → (∀ i x ρ, l[i]? = some x → I (k + i) ρ → ∃ ρ', Turn T fg fb (f x) ρ ρ' ∧ I (k + i + 1) ρ') → ∃ ρ', forGo T fg fb (l.map f) ρ = .nx ρ' ∧ I (k + l.length) ρ'
  | [], k, ρ, h0, _ => ⟨ρ, rfl, h0⟩
  | x :: l, k, ρ, h0, h => by
    obtain ⟨ρ1, t, h1⟩ := h 0 x ρ rfl h0
    rw [List.map_cons, t.go]
    obtain ⟨ρ', e, h2⟩ := forGo_inv I l (k + 1) ρ1 h1 fun i y ρ hy hi => by
      have := h (i + 1) y ρ hy (by rw [← Nat.add_assoc, Nat.add_right_comm]; exact hi)
      rw [← Nat.add_assoc, Nat.add_right_comm k i 1] at this
      exact this
    exact ⟨ρ', e, by rw [List.length_cons, ← Nat.add_assoc, Nat.add_right_comm]; exact h2⟩
/-- a loop that only looks: each turn leaves all as it was -/
theorem forGo_same (l : List α) (h : ∀ x ∈ l, Turn T fg fb (f x) ρ ρ) : forGo T fg fb (l.map f) ρ = .nx ρ := by
  induction l with
  | nil => rfl
  | cons x l ih =>
    rw [List.map_cons, (h x List.mem_cons_self).go]
    exact ih fun y hy => h y (List.mem_cons_of_mem _ hy)
/-- a loop that looks and hands back at the first bad item -/
theorem forGo_all {good : α → Bool} {o : OV} (l : List α) (h : ∀ x ∈ l, good x = true → Turn T fg fb (f x) ρ ρ) (h2 : ∀ x ∈ l, good x = false → ∃ ρ1, tgS T (f x) ρ = .ok ρ1 ∧ fb ρ1 = .rt o) : forGo T fg fb (l.map f) ρ = if l.all good = true then .nx ρ else .rt o := by
  induction l with
  | nil => rfl
  | cons x l ih =>
    rw [List.map_cons, List.all_cons]
    cases hg : good x with
    | true =>
      rw [(h x List.mem_cons_self hg).go, Bool.true_and]
      exact ih (fun y hy => h y (List.mem_cons_of_mem _ hy)) fun y hy => h2 y (List.mem_cons_of_mem _ hy)
    | false =>
      obtain ⟨ρ1, e1, e2⟩ := h2 x List.mem_cons_self hg
      rw [forGo_cons_rt e1 e2, Bool.false_and, if_neg Bool.false_ne_true]
theorem rngP_eq {lo : Int} {n : Nat} : rngP lo n = (List.range n).map fun (k : Nat) => PV.int (lo + (k : Int)) := rfl
theorem lcGo_map {i : Nat} {e : Env → R OV} {g : α → OV} (l : List α) (h : ∀ x ∈ l, e (ρ.set i (some (.sh (f x)))) = .ok (g x)) : lcGo (.nm i) tYesB e ρ (l.map f) = .ok (l.map g) := by
  induction l with
  | nil => rfl
  | cons x l ih =>
    rw [List.map_cons, lcGo, tgS_nm]
    simp only [R.bind_ok, tYesB_at, R.calm_ok', if_true, h x List.mem_cons_self, ih fun y hy => h y (List.mem_cons_of_mem _ hy), List.map_cons]
theorem lcGo_filter {i : Nat} {t : Env → R Bool} {e : Env → R OV} {g : α → OV} {c : α → Bool} (l : List α) (ht : ∀ x ∈ l, t (ρ.set i (some (.sh (f x)))) = .ok (c x)) (h : ∀ x ∈ l, c x = true → e (ρ.set i (some (.sh (f x)))) = .ok (g x)) : lcGo (.nm i) t e ρ (l.map f) = .ok ((l.filter c).map g) := by
  induction l with
  | nil => rfl
  | cons x l ih =>
    have ih := ih (fun y hy => ht y (List.mem_cons_of_mem _ hy)) fun y hy => h y (List.mem_cons_of_mem _ hy)
    rw [List.map_cons, lcGo, tgS_nm]
    cases hc : c x with
    | true => simp only [R.bind_ok, R.calm_ok', ht x List.mem_cons_self, hc, if_true, h x List.mem_cons_self hc, ih, List.map_cons, List.filter_cons]
    | false => simp only [R.bind_ok, R.calm_ok', ht x List.mem_cons_self, hc, Bool.false_eq_true, if_false, ih, List.filter_cons]
theorem fLc_at {T : Tg} {vs : List Nat} {fi : Env → R (List PV)} {t : Env → R Bool} {e : Env → R OV} {ps : List PV} {os : List OV} (h : fi ρ = .ok ps) (hl : ps.length ≤ sizeLine) (h2 : lcGo T t e (wipeE ρ vs) ps = .ok os) : fLc T vs fi t e ρ = .ok (.own os) := by
  unfold fLc
  rw [h, R.bind_ok, if_pos hl, h2]
  rfl
end
/-- one turn's end, as a value -/
def endT (fg : List Nat) : RS → Option Env
  | .nx ρ => some (wipeE ρ fg)
  | .ct ρ => some (wipeE ρ fg)
  | _ => none
@[simp] theorem endT_nx {fg : List Nat} {ρ : Env} : endT fg (.nx ρ) = some (wipeE ρ fg) := nr rfl
@[simp] theorem endT_ct {fg : List Nat} {ρ : Env} : endT fg (.ct ρ) = some (wipeE ρ fg) := nr rfl
theorem endT_some {fg : List Nat} {r : RS} {ρ' : Env} (h : endT fg r = some ρ') : ∃ ρ2, (r = .nx ρ2 ∨ r = .ct ρ2) ∧ wipeE ρ2 fg = ρ' := by
  cases r with
  | nx ρ => exact ⟨ρ, .inl rfl, Option.some.inj h⟩
  | ct ρ => exact ⟨ρ, .inr rfl, Option.some.inj h⟩
  | _ => cases h
theorem Turn.of {fg : List Nat} {fb : Env → RS} {i : Nat} {p : PV} {ρ ρ' : Env} (h : endT fg (fb (ρ.set i (some (.sh p)))) = some ρ') : Turn (.nm i) fg fb p ρ ρ' := by
  obtain ⟨ρ2, h1, h2⟩ := endT_some h
  exact ⟨_, ρ2, rfl, h1, h2⟩
theorem Turn.ofT {T : Tg} {fg : List Nat} {fb : Env → RS} {p : PV} {ρ ρ1 ρ' : Env} (h0 : tgS T p ρ = .ok ρ1) (h : endT fg (fb ρ1) = some ρ') : Turn T fg fb p ρ ρ' := by
  obtain ⟨ρ2, h1, h2⟩ := endT_some h
  exact ⟨_, ρ2, h0, h1, h2⟩
@[simp] theorem rngP_length {lo : Int} {n : Nat} : (rngP lo n).length = n := by simp [rngP]
theorem szl : sizeLine = 16777216 := by first | rfl | decide
@[simp] theorem isi_int_int {a : Int} : isiP (tbT "int") ibN (.int a) = .ok (.bl true) := nr (by kernel_rfl)
@[simp] theorem isi_bool_int {a : Int} : isiP (tbT "bool") ibN (.int a) = .ok (.bl false) := nr (by kernel_rfl)
@[simp] theorem isi_int_bl {a : Bool} : isiP (tbT "int") ibN (.bl a) = .ok (.bl true) := nr (by kernel_rfl)
@[simp] theorem isi_bool_bl {a : Bool} : isiP (tbT "bool") ibN (.bl a) = .ok (.bl true) := nr (by kernel_rfl)
@[simp] theorem isi_int_non : isiP (tbT "int") ibN .non = .ok (.bl false) := nr (by kernel_rfl)
@[simp] theorem isi_bool_non : isiP (tbT "bool") ibN .non = .ok (.bl false) := nr (by kernel_rfl)
@[simp] theorem isi_int_tup {l : List PV} : isiP (tbT "int") ibN (.tup l) = .ok (.bl false) := nr (by kernel_rfl)
@[simp] theorem isi_tuple_tup {l : List PV} : isiP (tbT "tuple") ibN (.tup l) = .ok (.bl true) := nr (by kernel_rfl)
@[simp] theorem isi_tuple_lst {l : List PV} : isiP (tbT "tuple") ibN (.lst l) = .ok (.bl false) := nr (by kernel_rfl)
@[simp] theorem isi_list_lst {l : List PV} : isiP (tbT "list") ibN (.lst l) = .ok (.bl true) := nr (by kernel_rfl)
@[simp] theorem isi_list_tup {l : List PV} : isiP (tbT "list") ibN (.tup l) = .ok (.bl false) := nr (by kernel_rfl)
@[simp] theorem isi_tuple_int {a : Int} : isiP (tbT "tuple") ibN (.int a) = .ok (.bl false) := nr (by kernel_rfl)
@[simp] theorem isi_tuple_non : isiP (tbT "tuple") ibN .non = .ok (.bl false) := nr (by kernel_rfl)
@[simp] theorem isi_list_non : isiP (tbT "list") ibN .non = .ok (.bl false) := nr (by kernel_rfl)
@[simp] theorem ovflat_sh {p : PV} : (OV.sh p).flat = p.flat := by simp only [OV.flat]
@[simp] theorem ovflat_own {l : List OV} : (OV.own l).flat = OV.flats l := by simp only [OV.flat]
@[simp] theorem ovflat_obj {c : Nat} {fs : List (Str × OV)} : (OV.obj c fs).flat = OV.flatf fs := by simp only [OV.flat]
@[simp] theorem ovflats_nil : OV.flats [] = true := by simp only [OV.flats]
@[simp] theorem ovflats_cons {o : OV} {l : List OV} : OV.flats (o :: l) = (o.flat && OV.flats l) := by simp only [OV.flats]
@[simp] theorem ovflatf_nil : OV.flatf [] = true := by simp only [OV.flatf]
@[simp] theorem ovflatf_cons {f : Str} {o : OV} {l : List (Str × OV)} : OV.flatf ((f, o) :: l) = (o.flat && OV.flatf l) := by simp only [OV.flatf]
@[simp] theorem pvflat_non : PV.non.flat = true := by simp only [PV.flat]
@[simp] theorem pvflat_bl {b : Bool} : (PV.bl b).flat = true := by simp only [PV.flat]
@[simp] theorem pvflat_int {b : Int} : (PV.int b).flat = true := by simp only [PV.flat]
@[simp] theorem pvflat_str {b : Str} : (PV.str b).flat = true := by simp only [PV.flat]
@[simp] theorem pvflat_tup {l : List PV} : (PV.tup l).flat = PV.flats l := by simp only [PV.flat]
@[simp] theorem pvflats_nil : PV.flats [] = true := by simp only [PV.flats]
@[simp] theorem pvflats_cons {o : PV} {l : List PV} : PV.flats (o :: l) = (o.flat && PV.flats l) := by simp only [PV.flats]
theorem pvflats_map {α : Type} {f : α → PV} {l : List α} (h : ∀ x ∈ l, (f x).flat = true) : PV.flats (l.map f) = true := by
  induction l with
  | nil => rw [List.map_nil, pvflats_nil]
  | cons x l ih => rw [List.map_cons, pvflats_cons, h x List.mem_cons_self, ih fun y hy => h y (List.mem_cons_of_mem _ hy), Bool.and_self]
theorem ovflats_map {α : Type} {f : α → OV} {l : List α} (h : ∀ x ∈ l, (f x).flat = true) : OV.flats (l.map f) = true := by
  induction l with
  | nil => rw [List.map_nil, ovflats_nil]
  | cons x l ih => rw [List.map_cons, ovflats_cons, h x List.mem_cons_self, ih fun y hy => h y (List.mem_cons_of_mem _ hy), Bool.and_self]
theorem whGo_true {fg : List Nat} {c : Env → R Bool} {s : Env → RS} {n : Nat} {ρ ρ2 : Env} (h : c ρ = .ok true) (h2 : s ρ = .nx ρ2) : whGo fg c s (n + 1) ρ = whGo fg c s n (wipeE ρ2 fg) := by
  rw [whGo, h, R.to_ok, if_pos rfl, h2]
theorem whGo_ct {fg : List Nat} {c : Env → R Bool} {s : Env → RS} {n : Nat} {ρ ρ2 : Env} (h : c ρ = .ok true) (h2 : s ρ = .ct ρ2) : whGo fg c s (n + 1) ρ = whGo fg c s n (wipeE ρ2 fg) := by
  rw [whGo, h, R.to_ok, if_pos rfl, h2]
theorem whGo_bk {fg : List Nat} {c : Env → R Bool} {s : Env → RS} {n : Nat} {ρ ρ2 : Env} (h : c ρ = .ok true) (h2 : s ρ = .bk ρ2) : whGo fg c s (n + 1) ρ = .nx (wipeE ρ2 fg) := by
  rw [whGo, h, R.to_ok, if_pos rfl, h2]
theorem whGo_rt {fg : List Nat} {c : Env → R Bool} {s : Env → RS} {n : Nat} {ρ : Env} {o : OV} (h : c ρ = .ok true) (h2 : s ρ = .rt o) : whGo fg c s (n + 1) ρ = .rt o := by
  rw [whGo, h, R.to_ok, if_pos rfl, h2]
theorem whGo_false {fg : List Nat} {c : Env → R Bool} {s : Env → RS} {n : Nat} {ρ : Env} (h : c ρ = .ok false) : whGo fg c s (n + 1) ρ = .nx ρ := by
  rw [whGo, h, R.to_ok, if_neg Bool.false_ne_true]
@[simp] theorem sl_take {l : List PV} {k : Int} (h : 0 ≤ k) : slR (.lst l) none (some k) = .ok (.lst (l.take k.toNat)) := by
  show R.ok (PV.lst (slR.cutVP l none (some k))) = _
  unfold slR.cutVP HT.sIx
  dsimp only
  rw [if_neg (by omega), List.drop_zero, Nat.sub_zero]
  congr 2
  by_cases c : k.toNat ≤ l.length
  · rw [Nat.min_eq_left c]
  · rw [Nat.min_eq_right (by omega), List.take_of_length_le (Nat.le_refl _), List.take_of_length_le (by omega)]
@[simp] theorem sl_drop {l : List PV} {k : Int} (h : 0 ≤ k) : slR (.lst l) (some k) none = .ok (.lst (l.drop k.toNat)) := by
  show R.ok (PV.lst (slR.cutVP l (some k) none)) = _
  unfold slR.cutVP HT.sIx
  dsimp only
  rw [if_neg (by omega)]
  congr 2
  by_cases c : k.toNat ≤ l.length
  · rw [Nat.min_eq_left c, List.take_of_length_le (by simp)]
  · rw [Nat.min_eq_right (by omega), List.drop_of_length_le (Nat.le_refl _), List.drop_of_length_le (by omega), List.take_nil]
/-- [x] * k -/
def repP (p : PV) (n : Nat) : List PV := List.replicate n p
@[simp] theorem repP_length {p : PV} {n : Nat} : (repP p n).length = n := by simp [repP]
theorem flatten_one {α : Type} {p : α} : ∀ n : Nat, (List.replicate n [p]).flatten = List.replicate n p
  | 0 => rfl
  | n + 1 => by rw [List.replicate_succ, List.flatten_cons, flatten_one n, List.replicate_succ]; rfl
theorem mul_one {p : PV} {k : Int} (h : k ≤ 16777216) (h0 : 0 ≤ k) : pyMul (.lst [p]) (.int k) = .ok (.lst (repP p k.toNat)) := by
  show (if -(2 ^ 63) ≤ k ∧ k < 2 ^ 63 ∧ [p].length * k.toNat ≤ sizeLine then R.ok (PV.lst (List.replicate k.toNat [p]).flatten) else R.no) = _
  rw [if_pos (by simp only [szl, List.length_cons, List.length_nil]; omega), flatten_one]
  rfl
end L3

end
section
/-! L3. 17: == and in over data -/
namespace L3
open PySem L2
mutual
def peq : PV → PV → Bool
  | .non, .non => true
  | .bl a, .bl b => a == b
  | .int a, .int b => a == b
  | .str a, .str b => decide (a = b)
  | .lst a, .lst b => peqs a b
  | .scr a, .scr b => peqs a b
  | .tup a, .tup b => peqs a b
  | .ins c a, .ins d b => c == d && peqf a b
  | _, _ => false
def peqs : List PV → List PV → Bool
  | [], [] => true
  | a :: as, b :: bs => peq a b && peqs as bs
  | _, _ => false
def peqf : List (Str × PV) → List (Str × PV) → Bool
  | [], [] => true
  | (f, a) :: as, (g, b) :: bs => decide (f = g) && (peq a b && peqf as bs)
  | _, _ => false
end
mutual
theorem peq_ok : ∀ p q : PV, peq p q = true → p = q
  | .non, q, h => by cases q <;> simp_all [peq]
  | .bl a, q, h => by cases q <;> simp_all [peq]
  | .int a, q, h => by cases q <;> simp_all [peq]
  | .str a, q, h => by cases q <;> simp_all [peq]
  | .lst a, q, h => by
    cases q with
    | lst b => rw [peqs_ok a b (by simpa [peq] using h)]
    | _ => simp [peq] at h
  | .scr a, q, h => by
    cases q with
    | scr b => rw [peqs_ok a b (by simpa [peq] using h)]
    | _ => simp [peq] at h
  | .tup a, q, h => by
    cases q with
    | tup b => rw [peqs_ok a b (by simpa [peq] using h)]
    | _ => simp [peq] at h
  | .ins c a, q, h => by
    cases q with
    | ins d b =>
      simp only [peq, Bool.and_eq_true, beq_iff_eq] at h
      rw [h.1, peqf_ok a b h.2]
    | _ => simp [peq] at h
theorem peqs_ok : ∀ p q : List PV, peqs p q = true → p = q
  | [], q, h => by cases q <;> simp_all [peqs]
  | a :: as, q, h => by
    cases q with
    | nil => simp [peqs] at h
    | cons b bs =>
      simp only [peqs, Bool.and_eq_true] at h
      rw [peq_ok a b h.1, peqs_ok as bs h.2]
theorem peqf_ok : ∀ p q : List (Str × PV), peqf p q = true → p = q
  | [], q, h => by cases q <;> simp_all [peqf]
  | (f, a) :: as, q, h => by
    cases q with
    | nil => simp [peqf] at h
    | cons b bs =>
      obtain ⟨g, b⟩ := b
      simp only [peqf, Bool.and_eq_true, decide_eq_true_eq] at h
      rw [h.1, peq_ok a b h.2.1, peqf_ok as bs h.2.2]
end
mutual
theorem peq_rfl : ∀ p : PV, peq p p = true
  | .non => by simp [peq]
  | .bl a => by simp [peq]
  | .int a => by simp [peq]
  | .str a => by simp [peq]
  | .lst a => by simp [peq, peqs_rfl a]
  | .scr a => by simp [peq, peqs_rfl a]
  | .tup a => by simp [peq, peqs_rfl a]
  | .ins c a => by simp [peq, peqf_rfl a]
theorem peqs_rfl : ∀ p : List PV, peqs p p = true
  | [] => by simp [peqs]
  | a :: as => by simp [peqs, peq_rfl a, peqs_rfl as]
theorem peqf_rfl : ∀ p : List (Str × PV), peqf p p = true
  | [] => by simp [peqf]
  | (f, a) :: as => by simp [peqf, peq_rfl a, peqf_rfl as]
end
instance : DecidableEq PV := fun p q => if h : peq p q = true then .isTrue (peq_ok p q h) else .isFalse fun e => h (by rw [e]; exact peq_rfl q)
theorem peq_dec {p q : PV} : peq p q = decide (p = q) := by
  by_cases h : p = q
  · subst h; simp [peq_rfl]
  · cases e : peq p q with
    | true => exact absurd (peq_ok p q e) h
    | false => simp [h]
/-- data without truth values, of a depth -/
def cln : Nat → PV → Bool
  | _, .non => true
  | _, .int _ => true
  | _, .str s => PyData.strOk s
  | n + 1, .lst l => l.all (cln n)
  | n + 1, .tup l => l.all (cln n)
  | _, _ => false
theorem cln_pd : ∀ (n : Nat) (p : PV), cln n p = true → ∃ d, toPD p = some d ∧ d.canLay0 = true ∧ d.depth ≤ n + 1
  | n, .non, _ => ⟨_, rfl, by simp [PyData.canLay0], by simp [PyData.depth]⟩
  | n, .int _, _ => ⟨_, rfl, by simp [PyData.canLay0], by simp [PyData.depth]⟩
  | n, .str s, h => ⟨_, rfl, by cases n <;> simpa [PyData.canLay0, cln] using h, by simp [PyData.depth]⟩
  | 0, .lst l, h => by simp [cln] at h
  | 0, .tup l, h => by simp [cln] at h
  | n + 1, .lst l, h => by
    have key : ∃ ds, toPDs l = some ds ∧ PyData.canLayAll0 ds = true ∧ PyData.depthAll ds ≤ n + 1 := by
      have h : l.all (cln n) = true := by simpa [cln] using h
      induction l with
      | nil => exact ⟨[], rfl, by simp [PyData.canLayAll0], by simp [PyData.depthAll]⟩
      | cons p l ih =>
        simp only [List.all_cons, Bool.and_eq_true] at h
        obtain ⟨d, e1, e2, e3⟩ := cln_pd n p h.1
        obtain ⟨ds, f1, f2, f3⟩ := ih (by simp [cln, h.2]) h.2
        exact ⟨d :: ds, by simp [toPDs, e1, f1], by simp [PyData.canLayAll0, e2, f2], by simp [PyData.depthAll]; omega⟩
    obtain ⟨ds, e1, e2, e3⟩ := key
    exact ⟨.list ds, by simp [toPD, e1], by simpa [PyData.canLay0] using e2, by simp [PyData.depth]; omega⟩
  | n + 1, .tup l, h => by
    have key : ∃ ds, toPDs l = some ds ∧ PyData.canLayAll0 ds = true ∧ PyData.depthAll ds ≤ n + 1 := by
      have h : l.all (cln n) = true := by simpa [cln] using h
      induction l with
      | nil => exact ⟨[], rfl, by simp [PyData.canLayAll0], by simp [PyData.depthAll]⟩
      | cons p l ih =>
        simp only [List.all_cons, Bool.and_eq_true] at h
        obtain ⟨d, e1, e2, e3⟩ := cln_pd n p h.1
        obtain ⟨ds, f1, f2, f3⟩ := ih (by simp [cln, h.2]) h.2
        exact ⟨d :: ds, by simp [toPDs, e1, f1], by simp [PyData.canLayAll0, e2, f2], by simp [PyData.depthAll]; omega⟩
    obtain ⟨ds, e1, e2, e3⟩ := key
    exact ⟨.tuple ds, by simp [toPD, e1], by simpa [PyData.canLay0] using e2, by simp [PyData.depth]; omega⟩
  | n, .bl b, h => by cases n <;> simp [cln] at h
  | n, .scr b, h => by cases n <;> simp [cln] at h
  | n, .ins c b, h => by cases n <;> simp [cln] at h
mutual
/-- without truth values anywhere -/
def noBl : PV → Bool
  | .bl _ => false
  | .ins _ _ => false
  | .scr _ => false
  | .lst l => noBls l
  | .tup l => noBls l
  | _ => true
def noBls : List PV → Bool
  | [] => true
  | p :: ps => noBl p && noBls ps
end
theorem cln_noBl : ∀ (n : Nat) (p : PV), cln n p = true → noBl p = true
  | n, .non, _ => by simp [noBl]
  | n, .int _, _ => by simp [noBl]
  | n, .str s, h => by simp [noBl]
  | 0, .lst l, h => by simp [cln] at h
  | 0, .tup l, h => by simp [cln] at h
  | n + 1, .lst l, h => by
    have h : l.all (cln n) = true := by simpa [cln] using h
    rw [noBl]
    induction l with
    | nil => simp [noBls]
    | cons p l ih =>
      simp only [List.all_cons, Bool.and_eq_true] at h
      simp [noBls, cln_noBl n p h.1, ih (by simp [cln, h.2]) h.2]
  | n + 1, .tup l, h => by
    have h : l.all (cln n) = true := by simpa [cln] using h
    rw [noBl]
    induction l with
    | nil => simp [noBls]
    | cons p l ih =>
      simp only [List.all_cons, Bool.and_eq_true] at h
      simp [noBls, cln_noBl n p h.1, ih (by simp [cln, h.2]) h.2]
  | n, .bl b, h => by cases n <;> simp [cln] at h
  | n, .scr b, h => by cases n <;> simp [cln] at h
  | n, .ins c b, h => by cases n <;> simp [cln] at h
theorem toPD_lst {l : List PV} {d : PyData} (h : toPD (.lst l) = some d) : ∃ ds, toPDs l = some ds ∧ d = .list ds := by
  simp only [toPD, Option.map_eq_some_iff] at h
  obtain ⟨ds, h1, h2⟩ := h
  exact ⟨ds, h1, h2.symm⟩
theorem toPD_tup {l : List PV} {d : PyData} (h : toPD (.tup l) = some d) : ∃ ds, toPDs l = some ds ∧ d = .tuple ds := by
  simp only [toPD, Option.map_eq_some_iff] at h
  obtain ⟨ds, h1, h2⟩ := h
  exact ⟨ds, h1, h2.symm⟩
mutual
theorem eqv_ok : ∀ (p q : PV) (d e : PyData), noBl p = true → noBl q = true → toPD p = some d → toPD q = some e → PyData.eqv d e = peq p q
  | .non, q, d, e, _, hq, h, k => by
    cases h
    cases q with
    | lst b => obtain ⟨ds, _, rfl⟩ := toPD_lst k; simp [PyData.eqv, peq]
    | tup b => obtain ⟨ds, _, rfl⟩ := toPD_tup k; simp [PyData.eqv, peq]
    | _ => first | (simp [noBl] at hq; done) | (cases k; simp [PyData.eqv, peq])
  | .int a, q, d, e, _, hq, h, k => by
    cases h
    cases q with
    | lst b => obtain ⟨ds, _, rfl⟩ := toPD_lst k; simp [PyData.eqv, peq]
    | tup b => obtain ⟨ds, _, rfl⟩ := toPD_tup k; simp [PyData.eqv, peq]
    | _ => first | (simp [noBl] at hq; done) | (cases k; simp [PyData.eqv, peq])
  | .str a, q, d, e, _, hq, h, k => by
    cases h
    cases q with
    | lst b => obtain ⟨ds, _, rfl⟩ := toPD_lst k; simp [PyData.eqv, peq]
    | tup b => obtain ⟨ds, _, rfl⟩ := toPD_tup k; simp [PyData.eqv, peq]
    | str b => cases k; simp only [PyData.eqv, peq]; rfl
    | _ => first | (simp [noBl] at hq; done) | (cases k; simp [PyData.eqv, peq])
  | .lst a, q, d, e, hp, hq, h, k => by
    obtain ⟨ds, h1, rfl⟩ := toPD_lst h
    cases q with
    | lst b =>
      obtain ⟨es, k1, rfl⟩ := toPD_lst k
      simp only [PyData.eqv, peq]
      exact eqvs_ok a b ds es (by simpa [noBl] using hp) (by simpa [noBl] using hq) h1 k1
    | tup b => obtain ⟨ds, _, rfl⟩ := toPD_tup k; simp [PyData.eqv, peq]
    | _ => first | (simp [noBl] at hq; done) | (cases k; simp [PyData.eqv, peq])
  | .tup a, q, d, e, hp, hq, h, k => by
    obtain ⟨ds, h1, rfl⟩ := toPD_tup h
    cases q with
    | tup b =>
      obtain ⟨es, k1, rfl⟩ := toPD_tup k
      simp only [PyData.eqv, peq]
      exact eqvs_ok a b ds es (by simpa [noBl] using hp) (by simpa [noBl] using hq) h1 k1
    | lst b => obtain ⟨ds, _, rfl⟩ := toPD_lst k; simp [PyData.eqv, peq]
    | _ => first | (simp [noBl] at hq; done) | (cases k; simp [PyData.eqv, peq])
  | .bl _, _, _, _, hp, _, _, _ => by simp [noBl] at hp
  | .scr _, _, _, _, hp, _, _, _ => by simp [noBl] at hp
  | .ins _ _, _, _, _, hp, _, _, _ => by simp [noBl] at hp
theorem eqvs_ok : ∀ (p q : List PV) (d e : List PyData), noBls p = true → noBls q = true → toPDs p = some d → toPDs q = some e → PyData.eqvAll d e = peqs p q
  | [], q, d, e, _, hq, h, k => by
    cases h
    cases q with
    | nil => cases k; simp [PyData.eqvAll, peqs]
    | cons b bs =>
      simp only [toPDs, Option.bind_eq_some_iff, Option.map_eq_some_iff] at k
      obtain ⟨x, _, xs, _, rfl⟩ := k
      simp [PyData.eqvAll, peqs]
  | a :: as, q, d, e, hp, hq, h, k => by
    simp only [toPDs, Option.bind_eq_some_iff, Option.map_eq_some_iff] at h
    obtain ⟨x, h1, xs, h2, rfl⟩ := h
    cases q with
    | nil => cases k; simp [PyData.eqvAll, peqs]
    | cons b bs =>
      simp only [toPDs, Option.bind_eq_some_iff, Option.map_eq_some_iff] at k
      obtain ⟨y, k1, ys, k2, rfl⟩ := k
      simp only [noBls, Bool.and_eq_true] at hp hq
      simp only [PyData.eqvAll, peqs]
      rw [eqv_ok a b x y hp.1 hq.1 h1 k1, eqvs_ok as bs xs ys hp.2 hq.2 h2 k2]
end
theorem shaped_of {n : Nat} {p : PV} (h : cln n p = true) (hn : n < 63) : ∃ d, toPD p = some d ∧ SeqAt.shaped d = true := by
  obtain ⟨d, e1, e2, e3⟩ := cln_pd n p h
  exact ⟨d, e1, by unfold SeqAt.shaped; rw [e2, decide_eq_true (by omega)]; rfl⟩
theorem eqR_cln {n : Nat} {p q : PV} (hn : n < 63) (hp : cln n p = true) (hq : cln n q = true) : eqR p q = .ok (decide (p = q)) := by
  obtain ⟨d, d1, d2⟩ := shaped_of hp hn
  obtain ⟨e, e1, e2⟩ := shaped_of hq hn
  have key : ∀ b, scalP p q = some b → b = decide (p = q) := by
    intro b hb
    unfold scalP at hb
    split at hb <;> first | (cases hb; simp; done) | (cases hb; done)
  unfold eqR
  cases hs : scalP p q with
  | some b => rw [key b hs]
  | none =>
    simp only [d1, e1, d2, e2, and_self, if_true]
    rw [eqv_ok p q d e (cln_noBl n p hp) (cln_noBl n q hq) d1 e1, peq_dec]
theorem eq_cln (n : Nat) {p q : PV} (hn : n < 63) (hp : cln n p = true) (hq : cln n q = true) : pyEq p q = .ok (.bl (decide (p = q))) := by
  unfold pyEq
  rw [eqR_cln hn hp hq]
  rfl
theorem ne_cln (n : Nat) {p q : PV} (hn : n < 63) (hp : cln n p = true) (hq : cln n q = true) : pyNe p q = .ok (.bl (!decide (p = q))) := by
  unfold pyNe
  rw [eqR_cln hn hp hq]
  rfl
theorem inV_flat : ∀ {p : PV} {l : List PV}, flatP p = true → noBl p = true → l.all flatP = true → noBls l = true → inV (toV p) (l.map toV) = decide (p ∈ l)
  | p, [], _, _, _, _ => by simp [inV]
  | p, q :: l, h1, h2, h3, h4 => by
    simp only [List.all_cons, Bool.and_eq_true] at h3
    simp only [noBls, Bool.and_eq_true] at h4
    have ih := inV_flat (l := l) h1 h2 h3.2 h4.2
    have e : eqV (toV q) (toV p) = decide (p = q) := by
      cases p <;> cases q <;> first | (simp [flatP] at h1; done) | (simp [flatP] at h3; done) | (simp [noBl] at h2; done) | (simp [noBl] at h4; done) | (simp [toV, eqV]; done) | (simp only [toV, eqV, PV.int.injEq, PV.str.injEq]; exact Bool.eq_iff_iff.mpr ⟨fun h => decide_eq_true (beq_iff_eq.mp h).symm, fun h => beq_iff_eq.mpr (of_decide_eq_true h).symm⟩)
    unfold inV at ih ⊢
    rw [List.map_cons, List.any_cons, ih, e]
    by_cases c1 : p = q
    · simp [c1]
    · simp [c1]
theorem inR_cln (n : Nat) {p : PV} {l : List PV} (hn : n + 1 < 63) (hp : cln n p = true) (hl : l.all (cln n) = true) (hs : ∀ s, p ≠ .str s ∨ True) : inR p (.lst l) = .ok (decide (p ∈ l)) := by
  have hL : cln (n + 1) (.lst l) = true := by simpa [cln] using hl
  have nb : noBls l = true := by
    have := cln_noBl (n + 1) (.lst l) hL
    simpa [noBl] using this
  have main : (if flatP p = true ∧ l.all flatP = true then R.ok (inV (toV p) (l.map toV)) else match toPD p, toPDs l with
    | some d, some ds => if SeqAt.shaped d = true ∧ SeqAt.shaped (.list ds) = true then .ok (ds.any fun z => PyData.eqv z d) else .no
    | _, _ => .no) = .ok (decide (p ∈ l)) := by
    by_cases c : flatP p = true ∧ l.all flatP = true
    · rw [if_pos c, inV_flat c.1 (cln_noBl n p hp) c.2 nb]
    · rw [if_neg c]
      obtain ⟨d, d1, d2⟩ := shaped_of hp (by omega)
      obtain ⟨e, e1, e2⟩ := shaped_of hL hn
      obtain ⟨ds, e3, rfl⟩ := toPD_lst e1
      simp only [d1, e3, d2, e2, and_self, if_true]
      congr 1
      have gen : ∀ (l : List PV) (ds : List PyData), noBls l = true → toPDs l = some ds → (ds.any fun z => PyData.eqv z d) = decide (p ∈ l) := by
        intro l
        induction l with
        | nil => intro ds _ h; cases h; simp
        | cons q l ih =>
          intro ds nb h
          simp only [toPDs, Option.bind_eq_some_iff, Option.map_eq_some_iff] at h
          obtain ⟨x, h1, xs, h2, rfl⟩ := h
          simp only [noBls, Bool.and_eq_true] at nb
          rw [List.any_cons, ih xs nb.2 h2, eqv_ok q p x d nb.1 (cln_noBl n p hp) h1 d1, peq_dec]
          by_cases c1 : p = q
          · simp [c1]
          · have c2 : ¬ q = p := fun z => c1 z.symm
            simp [c1, c2]
      exact gen l ds nb e3
  cases p <;> exact main
theorem in_cln (n : Nat) {p : PV} {l : List PV} {neg : Bool} (hn : n + 1 < 63) (hp : cln n p = true) (hl : l.all (cln n) = true) : pyIn neg p (.lst l) = .ok (.bl (if neg then !decide (p ∈ l) else decide (p ∈ l))) := by
  unfold pyIn
  rw [inR_cln n hn hp hl fun _ => .inr trivial]
  rfl
theorem in_flat {p : PV} {l : List PV} {neg : Bool} (hp : flatP p = true) (hb : noBl p = true) (hl : l.all flatP = true) (hlb : noBls l = true) : pyIn neg p (.tup l) = .ok (.bl (if neg then !decide (p ∈ l) else decide (p ∈ l))) := by
  have e : inR p (.tup l) = .ok (decide (p ∈ l)) := by
    have e2 : (if flatP p = true ∧ l.all flatP = true then R.ok (inV (toV p) (l.map toV)) else R.no) = R.ok (decide (p ∈ l)) := by rw [if_pos ⟨hp, hl⟩, inV_flat hp hb hl hlb]
    cases p <;> exact e2
  unfold pyIn
  rw [e]
  rfl
end L3

end
section
/-! L3. 18: gcd, list.index, x -= y, raise of a class without fields -/
namespace L3
open PySem PySem.Spec PyProof.Rows L2
section
variable {C : Fc} {W : WX} {D : Ends} {m : Bool} {X : Cx} {o e : Expr} {es : List Expr} {pos p apos cpos : Pos} {x : Str} {fas : Env → R (List PV)} {fa fo : Env → R PV} {σ : L2.St} {H : Hp} {G : Gc} {i : Nat}
def bGcd : List PV → R PV
  | [.int a, .int b] => .ok (.int (Nat.gcd a.natAbs b.natAbs : Nat))
  | _ => .no
theorem calm_gcd : CalmC bGcd := by
  intro ps x
  unfold bGcd
  split <;> exact fun z => nomatch z
theorem gcd_ok : OpC G rGcd bGcd := by
  intro m H₀ H F ps z vs Q zz r e k
  unfold bGcd at e
  split at e
  · cases e
    simp only [Reps, Rep] at r
    obtain ⟨x, ys, rfl, rfl, y, zs, rfl, rfl, rfl⟩ := r
    exact ⟨_, _, rfl, k _ H H₀ (Ext.refl zz) (by simp only [Rep])⟩
  · cases e
theorem qGcd (hm : X.mg "gcd" = some (.builtin "math.gcd")) (ha : QA C W m X (e :: es) fas) (hgl : Gl X "gcd" := by rfl) (he : starEach (e :: es) X.env = (false, eval e X.env) :: starEach es X.env := by rfl) (hpl : (backTo pos (starEach es X.env)).any (·.1) = false := by rfl) :
    QE C W m X (.Call (.Name "gcd" p) (e :: es) [] pos) (eB bGcd fas) := PE.imp (pe_callBfun cr_gcd hgl hm ha (by decide) he hpl) fun σ H Q h => opC_go calm_gcd gcd_ok h
/-! ### methods of lists that only look -/
def OpM (Γ : Gc) (r : V → List V → Hp → VK → Prop) (g : PV → List PV → R PV) : Prop := ∀ (m : Bool) (H₀ H : Hp) (F : List Addr) (p : PV) (ps : List PV) (z : PV) (x : V) (vs : List V) (Q : VK), Same H₀ H → Rep Γ (md m H₀ H F) p x → Reps Γ (md m H₀ H F) ps vs → g p ps = .ok z →
  (∀ v H' H₀', Ext H₀ H H₀' H' → Rep Γ (md m H₀' H' F) z v → Q v H') → r x vs H Q
def eMt (g : PV → List PV → R PV) (fo : Env → R PV) (fas : Env → R (List PV)) : Env → R PV := fun ρ => (fo ρ).bind fun p => match p with
  | .lst l => (fas ρ).bind fun ps => g (.lst l) ps
  | _ => .no
theorem mtL_go {r : V → List V → Hp → VK → Prop} (hK : X.K = C.G.K) {g : PV → List PV → R PV} (hg : ∀ p ps x, g p ps ≠ .er x) (ho : OpM C.G r g) {Q : VK} (h : tE C W m (eMt g fo fas) σ H Q) : tBM X.K "list" r (tE C W m fo) (tAs C W m fas) σ H Q := by
  show tE C W m fo σ H fun x H1 => tyV X.K "list" x H1 ∧ tAs C W m fas σ H1 fun xs H2 => r x xs H2 Q
  rw [tE_iff] at h ⊢
  obtain ⟨H₀, F, ρ, S, h⟩ := h
  unfold eMt at h
  rw [Goes.bind] at h
  refine ⟨H₀, F, ρ, S, h.imp fun p _ h v H1 H₁ E1 r1 => ?_⟩
  cases p with
  | lst l =>
    dsimp only at h
    rw [Goes.bind] at h
    have r1' := r1
    simp only [Rep] at r1'
    obtain ⟨a, xs, rfl, h2, h3⟩ := r1'
    refine ⟨.inl ⟨rfl, xs, SqL.of (md_H E1.z _ _ h2)⟩, ?_⟩
    rw [tA_iff]
    refine ⟨H₁, F, ρ, S.ext E1, (h.later E1).imp fun ps _ h vs H2 H₂ E2 r2 => ?_⟩
    cases q : g (.lst l) ps with
    | ok z =>
      rw [q] at h
      exact ho m H₂ H2 F (.lst l) ps z (.ref a) vs Q E2.z (Rep.mono (md_ext E2) r1) r2 q fun w H3 H₃ E3 r3 => h w H3 H₃ ((E1.trans E2).trans E3) r3
    | er x => exact absurd q (hg _ _ x)
    | no =>
      rw [q] at h
      exact h.elim
  | _ => exact (show False from h).elim
def ixG : PV → List PV → R PV
  | .lst l, [q] => if flatP q = true ∧ l.all flatP = true then R.of (((l.map toV).findIdx? fun z => eqV z (toV q)).map fun j => .int (j : Nat)) else .no
  | _, _ => .no
theorem calm_ix : ∀ p ps x, ixG p ps ≠ .er x := by
  intro p ps x
  unfold ixG
  split
  · split
    · exact R.of_calm
    · exact fun z => nomatch z
  · exact fun z => nomatch z
theorem ix_ok : OpM G (rIndex G.K) ixG := by
  intro m H₀ H F p ps z x vs Q zz rp rs e k
  unfold ixG at e
  split at e
  · rename_i l q
    split at e
    · rename_i hf
      have rp' := rep_up zz rp
      simp only [Rep] at rp'
      obtain ⟨a, xs, rfl, h2, h3⟩ := rp'
      simp only [Reps] at rs
      obtain ⟨y, ys, rfl, ry, rfl⟩ := rs
      obtain ⟨e1, e2⟩ := flat_ok (rep_up zz ry) hf.1
      obtain ⟨e3, e4⟩ := flats_ok h3 hf.2
      cases q1 : (l.map toV).findIdx? fun z => eqV z (toV q) with
      | none => rw [q1] at e; cases e
      | some j =>
        rw [q1] at e
        cases e
        obtain ⟨hj, hp, hno⟩ := List.findIdx?_eq_some_iff_getElem.mp q1
        refine ⟨a, xs, y, j, (l.map toV)[j], rfl, rfl, SqL.of h2, e2, e4, by rw [e3]; exact List.getElem?_eq_getElem hj, by rw [e1]; exact hp, fun m z' hm hz => ?_, k _ H H₀ (Ext.refl zz) (by simp only [Rep])⟩
        rw [e3] at hz
        obtain ⟨hm2, rfl⟩ := List.getElem?_eq_some_iff.mp hz
        rw [e1]
        have := hno m hm
        simpa using this
    · cases e
  · cases e
theorem qIndex (hK : X.K = C.G.K) (ho : QE C W m X o fo) (ha : QA C W m X [e] fas)
    (hbase : attributeBase o "index" X.env (eval o X.env) = eval o X.env := by rfl)
    (hfew : ((backTo cpos (starEach [e] X.env)).all (fun x => !x.1) && (backToKw cpos (keywordEach [] X.env)).all (fun x => x.1.isSome)
      && decide (([e] : List Expr).length + ([] : List Keyword).length + (if ([] : List Keyword).isEmpty then 0 else 1) < 30)) = true := by rfl)
    (hline : (apos.endLine == cpos.line) = true := by rfl) (hs : starEach [e] X.env = (false, eval e X.env) :: starEach [] X.env := by rfl) (hplain : (backTo cpos (starEach [] X.env)).any (·.1) = false := by rfl) :
    QE C W m X (.Call (.Attribute o "index" apos) [e] [] cpos) (eMt ixG fo fas) :=
  PE.imp (pe_bm PySem.F.plainAttrs_list PySem.F.slot_list_index PySem.F.type_list_index mt_index ho ha hbase hfew hline hs hplain) fun σ H Q h => mtL_go hK calm_ix (by rw [hK]; exact ix_ok) h
/-! ### x op= y of numbers -/
def sAugI (i : Nat) (fn : Int → Int → Int) (f : Env → R PV) : Env → RS := fun ρ => match ρ[i]? with
  | some (some (.sh (.int a))) => (f ρ).to ρ fun q => match q with
    | .int b => .nx (ρ.set i (some (.sh (.int (fn a b)))))
    | _ => .no
  | _ => .no
theorem aug_go {fn : Int → Int → Int} (hx : fxOk C i) (h : tS C W (sAugI i fn fa) D σ H) : tAug i (tE C W m fa) (ipI fn) D σ H := by
  obtain ⟨H₀, F, ρ, S, h⟩ := h
  unfold sAugI at h
  split at h
  · rename_i a ea
    obtain ⟨v, F1, e1, e2, _⟩ := S.env.get ea
    simp only [OwnR, Rep] at e2
    obtain ⟨rfl, _⟩ := e2
    refine ⟨_, e1, ?_⟩
    rw [tE_iff]
    refine ⟨H₀, F, ρ, S, (Aft.to S h).imp fun q _ h v H1 H₁ E1 r1 => ?_⟩
    cases q with
    | int b =>
      simp only [Rep] at r1
      subst r1
      refine ⟨a, b, rfl, rfl, ?_⟩
      obtain ⟨F', S'⟩ := (S.ext E1).sh (i := i) (p := .int (fn a b)) (v := .int (fn a b)) (by simp only [Rep]) hx
      exact h _ _ _ _ S'
    | _ => exact (show False from h).elim
  · exact h.elim
theorem qAugSub {m : Bool} (hx : fxOk C i) (hN : X.N.Nodup) (he : QE C W m X e fa) (hi : X.N[i]? = some x := by rfl) (hl : Loc X.env.scope x := by first | exact Or.inl rfl | exact Or.inr rfl) (hf : X.fn x = true ∨ X.env.scope.names.lookup x = some .local := by first | exact .inl rfl | exact .inr rfl) :
    QS C W X (.AugAssign (.Name x p) .Sub e pos) (sAugI i (fun a b => a - b) fa) := PS.imp (ps_aug hN hi hl he ip_sub hf) fun D σ H h => aug_go hx h
theorem qAugAdd {m : Bool} (hx : fxOk C i) (hN : X.N.Nodup) (he : QE C W m X e fa) (hi : X.N[i]? = some x := by rfl) (hl : Loc X.env.scope x := by first | exact Or.inl rfl | exact Or.inr rfl) (hf : X.fn x = true ∨ X.env.scope.names.lookup x = some .local := by first | exact .inl rfl | exact .inr rfl) :
    QS C W X (.AugAssign (.Name x p) .Add e pos) (sAugI i (fun a b => a + b) fa) := PS.imp (ps_aug hN hi hl he ip_add hf) fun D σ H h => aug_go hx h
/-! ### raise of an own class that keeps nothing -/
def sRzP (c : Nat) : Env → RS := fun ρ => .er ⟨c, []⟩ ρ
theorem qRzP {c : Nat} {bmB : List Value} {B newId initId : String} {msg : Str} {j : Nat} {p2 p3 : Pos} (hc : X.calm = true) (tk : L2N.Takes X W) (Fa : ExcBaseFacts B newId initId bmB) (q : PySem.W.excIn X.K (C.G.CA c) bmB newId = true) (gC : X.mg x = some (.ref (C.G.CA c))) (kC : PySem.W.keepIn X.K (.ref (C.G.CA c)) = true) (rs : Raises X (.ref (C.G.CA c))) (hg : Gl X x := by rfl)
    (hdb : (x == ("__debug__" : Str)) = false := by decide) : QS C W X (.Raise (some (.Call (.Name x p2) [.Constant (.str msg) j p3] [] p)) none pos) (sRzP c) :=
  PS.imp (L2N.ps_raise hc tk (L2N.pmk_own Fa q gC kC rs hg hdb)) fun D σ H ⟨H₀, F, ρ, S, h⟩ => h _ _ σ _ _ F S ⟨rfl, .inl ⟨rfl, rfl⟩⟩
end
/-! by simp -/
section
variable {ρ ρ' : Env} {fa fo : Env → R PV} {fas : Env → R (List PV)} {i : Nat} {a b : Int}
@[simp] theorem gcd_int : bGcd [.int a, .int b] = .ok (.int (Nat.gcd a.natAbs b.natAbs : Nat)) := nr rfl
def mt2 (g : PV → List PV → R PV) : R PV → R (List PV) → R PV
  | .ok (.lst l), .ok ps => g (.lst l) ps
  | .ok (.lst _), .er x => .er x
  | .er x, _ => .er x
  | _, _ => .no
@[simp] theorem mt2_ok {g : PV → List PV → R PV} {l ps : List PV} : mt2 g (.ok (.lst l)) (.ok ps) = g (.lst l) ps := nr rfl
@[simp] theorem eMt_at {g : PV → List PV → R PV} : eMt g fo fas ρ = mt2 g (fo ρ) (fas ρ) := by
  unfold eMt
  cases fo ρ with
  | ok p => cases p <;> cases fas ρ <;> rfl
  | er x => cases fas ρ <;> rfl
  | no => cases fas ρ <;> rfl
def augG (i : Nat) (fn : Int → Int → Int) : R PV → R PV → Env → RS
  | .ok (.int a), .ok (.int b), ρ => .nx (ρ.set i (some (.sh (.int (fn a b)))))
  | .ok (.int _), .er x, ρ => .er x ρ
  | _, _, _ => .no
@[simp] theorem augG_ok {fn : Int → Int → Int} : augG i fn (.ok (.int a)) (.ok (.int b)) ρ = .nx (ρ.set i (some (.sh (.int (fn a b))))) := nr rfl
@[simp] theorem sAugI_at {fn : Int → Int → Int} : sAugI i fn fa ρ = augG i fn (eVar i ρ) (fa ρ) ρ := by
  unfold sAugI eVar
  cases (ρ[i]? : Option (Option OV)) with
  | none => cases fa ρ <;> rfl
  | some y =>
    cases y with
    | none => cases fa ρ <;> rfl
    | some o =>
      cases o with
      | sh p =>
        cases p with
        | int a =>
          cases fa ρ with
          | ok q => cases q <;> rfl
          | er x => rfl
          | no => rfl
        | _ => cases fa ρ <;> rfl
      | _ => cases fa ρ <;> rfl
@[simp] theorem sRzP_at {c : Nat} : sRzP c ρ = .er ⟨c, []⟩ ρ := nr rfl
end
end L3
namespace X4
open PySem PySem.Spec PyProof.Rows L2 He
/-- the name stands for a built-in function of a module -/
def bfnB (x : Str) (id : String) : Ck := fun K => eqO (PySem.W.nsIn K mainGlobals x) (some (some (.builtin id)))
theorem bfn_ok {K : PySem.W.Frag} {h : Heap} {mg : Str → Option Value} (X : K.In h) (G : h.Ns mainGlobals mg) {x : Str} {id : String} (c : bfnB x id K = true) : mg x = some (.builtin id) := PySem.W.mg_of X G (eqO_ok c)
end X4

end
section
/-! L3. 19: lists, plain -/
namespace L3
open PySem L2
theorem getD_of {α : Type} {l : List α} {k : Nat} {d : α} (h : k < l.length) : l.getD k d = l[k] := by simp [List.getD_eq_getElem?_getD, h]
theorem atI_getD {α : Type} {l : List α} {k : Nat} {d : α} (h : k < l.length) : atI l (k : Int) = some (l.getD k d) := by
  rw [atI_natP, List.getElem?_eq_getElem h, getD_of h]
theorem atI_getI {α : Type} {l : List α} {i : Int} {d : α} (h0 : 0 ≤ i) (h : i < l.length) : atI l i = some (l.getD i.toNat d) := by
  have e : i = (i.toNat : Int) := by omega
  rw [e, atI_getD (d := d) (by omega)]
  rfl
theorem toBls_map {α : Type} {f : α → Bool} {l : List α} : toBls (l.map fun x => PV.bl (f x)) = some (l.map f) := by
  induction l with
  | nil => rfl
  | cons x l ih => rw [List.map_cons, toBls, ih]; rfl
theorem toInts_map {α : Type} {f : α → Int} {l : List α} : toInts (l.map fun x => PV.int (f x)) = some (l.map f) := by
  induction l with
  | nil => rfl
  | cons x l ih => rw [List.map_cons, toInts, ih]; rfl
theorem foldl_app {α β : Type} {f : β → List α} : ∀ (l : List β) (w : List α), l.foldl (fun w x => w ++ f x) w = w ++ l.flatMap f
  | [], w => by simp
  | x :: l, w => by rw [List.foldl_cons, foldl_app l, List.flatMap_cons, List.append_assoc]
def el (l : List Int) (i : Nat) : Int := l.getD i 0
theorem el_at {l : List Int} {i : Nat} (h : i < l.length) : atI l (i : Int) = some (el l i) := atI_getD h
theorem el_atI {l : List Int} {i : Int} (h0 : 0 ≤ i) (h : i < l.length) : atI l i = some (el l i.toNat) := atI_getI h0 h
theorem el_of {l : List Int} {i : Nat} (h : i < l.length) : el l i = l[i] := getD_of h
theorem el_mem {l : List Int} {i : Nat} (h : i < l.length) : el l i ∈ l := by
  rw [el_of h]
  exact List.getElem_mem h
theorem el_app {l : List Int} {x : Int} {i : Nat} : el (l ++ [x]) i = if i < l.length then el l i else if i = l.length then x else 0 := by
  unfold el
  simp only [List.getD_eq_getElem?_getD, List.getElem?_append]
  by_cases h : i < l.length
  · simp [h]
  · rw [if_neg h, if_neg h]
    by_cases h2 : i = l.length
    · simp [h2]
    · rw [if_neg h2, List.getElem?_eq_none (by simp; omega)]
      rfl
theorem mul_big {a b : Int} (ha : a.natAbs < 2 ^ 1000) (hb : b.natAbs < 2 ^ 1000) : pyMul (.int a) (.int b) = .ok (.int (a * b)) := by
  show (if mulOk a b = true then _ else _) = _
  have h1 := log2_le ha (by decide)
  have h2 := log2_le hb (by decide)
  rw [if_pos (by unfold mulOk; simp only [Bool.or_eq_true, decide_eq_true_eq]; omega)]
/-! numbers and None -/
def o2p : Option Int → PV
  | none => .non
  | some i => .int i
@[simp] theorem o2p_none : o2p none = .non := nr rfl
@[simp] theorem o2p_some {i : Int} : o2p (some i) = .int i := nr rfl
@[simp] theorem isN_o2p {x : Option Int} : isN (o2p x) = x.isNone := by cases x <;> rfl
/-- by an invariant, with what is still to come -/
theorem forGo_invA {α : Type} {T : Tg} {fg : List Nat} {fb : Env → RS} {f : α → PV} (I : Nat → Env → Prop) : ∀ (l : List α) (k : Nat) (ρ : Env), I k ρ → (∀ i x ρ, l[i]? = some x → I (k + i) ρ → ∃ ρ', Turn T fg fb (f x) ρ ρ' ∧ I (k + i + 1) ρ') → ∃ ρ', (∀ rest, forGo T fg fb (l.map f ++ rest) ρ = forGo T fg fb rest ρ') ∧ I (k + l.length) ρ'
  | [], k, ρ, h0, _ => ⟨ρ, fun _ => rfl, h0⟩
  | x :: l, k, ρ, h0, h => by
    obtain ⟨ρ1, t, h1⟩ := h 0 x ρ rfl h0
    obtain ⟨ρ', e, h2⟩ := forGo_invA I l (k + 1) ρ1 h1 fun i y ρ hy hi => by
      have := h (i + 1) y ρ hy (by rw [← Nat.add_assoc, Nat.add_right_comm]; exact hi)
      rw [← Nat.add_assoc, Nat.add_right_comm k i 1] at this
      exact this
    exact ⟨ρ', fun rest => by rw [List.map_cons, List.cons_append, t.go]; exact e rest, by rw [List.length_cons, ← Nat.add_assoc, Nat.add_right_comm]; exact h2⟩
end L3

end
section
/-! L3. 19: l.pop() within an expression -/
namespace L3
open PySem PySem.Spec PyProof.Rows L2
/-- an expression that changes what is owned; its value is frozen -/
def tN (C : Fc) (W : WX) (f : Env → R (PV × Env)) : TE := fun σ H Q => ∃ H₀ F ρ, SR C H₀ F ρ σ H ∧ Goes C.G W (f ρ) σ H H₀ fun q => ∀ v H' H₀' F', Same H₀ H₀' → SR C H₀' F' q.2 σ H' → Rep C.G H₀' q.1 v → Q v H'
abbrev QN (C : Fc) (W : WX) (X : Cx) (e : Expr) (f : Env → R (PV × Env)) : Prop := PE X e (tN C W f)
def popR (q : Pth) (ρ : Env) : Option OV → R (PV × Env)
  | some (.own l) => (match l.getLast? with
    | some (.sh p) => .ok (p, upE ρ q (.own l.dropLast))
    | _ => .no)
  | _ => .no
def nPop (g : Env → R Pth) : Env → R (PV × Env) := fun ρ => (g ρ).bind fun q => popR q ρ (atE ρ q)
theorem OwnRs.pop {G : Gc} {H₀ H : Hp} : ∀ {l : List OV} {xs : List V} {F : List Addr} {p : PV}, OwnRs G H₀ H l xs F → l.getLast? = some (.sh p) → ∃ y, xs[xs.length - 1]? = some y ∧ Rep G H₀ p y ∧ OwnRs G H₀ H l.dropLast xs.dropLast F
  | [], xs, F, p, h, e => by cases e
  | [o], xs, F, p, h, e => by
    cases e
    simp only [OwnRs, OwnR] at h
    obtain ⟨x, ys, F1, F2, rfl, rfl, ⟨h3, rfl⟩, rfl, rfl⟩ := h
    exact ⟨x, rfl, h3, by simp [OwnRs]⟩
  | o :: o2 :: l, xs, F, p, h, e => by
    rw [OwnRs] at h
    obtain ⟨x, ys, F1, F2, rfl, rfl, h3, h4⟩ := h
    rw [List.getLast?_cons_cons] at e
    obtain ⟨y, e1, e2, e3⟩ := OwnRs.pop h4 e
    have hys : ∃ z zs, ys = z :: zs := by
      rw [OwnRs] at h4
      obtain ⟨z, zs, _, _, h, _⟩ := h4
      exact ⟨z, zs, h⟩
    obtain ⟨z, zs, rfl⟩ := hys
    refine ⟨y, ?_, e2, ?_⟩
    · simpa using e1
    · show OwnRs G H₀ H (o :: (o2 :: l).dropLast) (x :: (z :: zs).dropLast) (F1 ++ F2)
      rw [OwnRs]
      exact ⟨x, _, F1, F2, rfl, rfl, h3, e3⟩
section
variable {C : Fc} {W : WX} {X : Cx} {m : Bool} {o b e : Expr} {pos p apos cpos : Pos} {g : Env → R Pth} {fb : Env → R PV} {f : Env → R (PV × Env)} {D : Ends} {σ : L2.St} {H H₀ : Hp} {F : List Addr} {ρ : Env} {i : Nat} {x : Str}
theorem qnPop (hK : X.K = C.G.K) (ho : QP C W X o g) (hbase : attributeBase o "pop" X.env (eval o X.env) = eval o X.env := by rfl) (hline : (apos.endLine == cpos.line) = true := by rfl) : QN C W X (.Call (.Attribute o "pop" apos) [] [] cpos) (nPop g) := by
  refine PE.imp (pe_bm0 PySem.F.plainAttrs_list PySem.F.slot_list_pop PySem.F.type_list_pop mt_pop ho hbase hline) fun σ H Q h => ?_
  show tP C W g σ H fun x H1 => tyV X.K "list" x H1 ∧ rPop x [] H1 Q
  obtain ⟨H₀, F, ρ, S, h⟩ := h
  unfold nPop at h
  rw [Goes.bind] at h
  refine ⟨H₀, F, ρ, S, h.imp fun q _ h v t H1 H₁ E1 et ev => ?_⟩
  have S1 := S.ext E1
  cases ea : atE ρ q with
  | none => rw [ea] at h; exact (show False from h).elim
  | some sub =>
    rw [ea] at h
    cases sub with
    | sh p => exact (show False from h).elim
    | obj c fs => exact (show False from h).elim
    | own l =>
      unfold popR at h
      dsimp only at h
      cases el : l.getLast? with
      | none => rw [el] at h; exact (show False from h).elim
      | some z =>
        rw [el] at h
        cases z with
        | own _ => exact (show False from h).elim
        | obj _ _ => exact (show False from h).elim
        | sh p =>
          obtain ⟨t', vs, Fs, e1, e2, e3, e4, e5, e6⟩ := S1.at ea
          have et2 : t' = t := by rw [et] at e1; cases e1; rfl
          subst et2
          have ev2 : v = vs := AtP.det ev e5
          subst ev2
          simp only [OwnR] at e2
          obtain ⟨a, xs, F', h1, h2, h3, h4⟩ := e2
          obtain ⟨y, p1, p2, p3⟩ := h4.pop el
          subst h1 h2
          obtain ⟨na, nd'⟩ := List.nodup_cons.mp e3
          have keep : ∀ b ∈ F', upd H1 a (.lst xs.dropLast) b = H1 b := fun b hb => upd_ne fun z => na (z ▸ hb)
          have o2 : OwnRs C.G H₁ (upd H1 a (.lst xs.dropLast)) l.dropLast xs.dropLast F' := OwnRs.mono (Same.refl _) keep p3
          obtain ⟨F2, S2⟩ := e6 a (.lst xs.dropLast) F' (.own l.dropLast) (a :: F') rfl (by simp only [OwnR]; exact ⟨a, _, _, rfl, rfl, upd_same, o2⟩) e3 fun b hb => .inl hb
          exact ⟨.inl ⟨rfl, xs, SqL.of h3⟩, a, xs, y, rfl, rfl, h3, p1, h y _ H₁ F2 E1.s0 S2 p2⟩
def ixN1 : PV → PV × Env → R (PV × Env)
  | .lst l, (.int k, ρ) => (match atI l k with
    | some z => .ok (z, ρ)
    | none => .no)
  | _, _ => .no
def nIx (fb : Env → R PV) (f : Env → R (PV × Env)) : Env → R (PV × Env) := fun ρ => (fb ρ).bind fun p => (f ρ).bind fun r => ixN1 p r
theorem qnIx (hK : X.K = C.G.K) (hb : QE C W true X b fb) (hi : QN C W X e f) (hs : PlainIx e := by exact fun _ _ => rfl) : QN C W X (.Subscript b e pos) (nIx fb f) := by
  refine PE.imp (pe_ix ix_list hb hi hs) fun σ H Q h => ?_
  show tE C W true fb σ H fun x H1 => tN C W f σ H1 fun y H2 => rIxL X.K x y H2 Q
  obtain ⟨H₀, F, ρ, S, h⟩ := h
  unfold nIx at h
  rw [Goes.bind] at h
  rw [tE_iff]
  refine ⟨H₀, F, ρ, S, h.imp fun p _ h v H1 H₁ E1 r1 => ?_⟩
  rw [Goes.bind] at h
  refine ⟨H₁, F, ρ, S.ext E1, (h.later E1).imp fun r _ h w H2 H₂ F2 s2 S2 r2 => ?_⟩
  obtain ⟨q, ρ2⟩ := r
  cases p with
  | lst l =>
    cases q with
    | int k =>
      cases ea : atI l k with
      | none =>
        unfold ixN1 at h
        dsimp only at h
        rw [ea] at h
        exact (show False from h).elim
      | some z =>
        unfold ixN1 at h
        dsimp only at h
        rw [ea] at h
        simp only [Rep] at r2
        subst r2
        have r3 : Rep C.G H₂ (.lst l) v := Rep.mono s2 r1
        simp only [Rep] at r3
        obtain ⟨a, xs, h1, h2, h3⟩ := r3
        obtain ⟨y, e1, e2⟩ := h3.atI ea
        subst h1
        exact ⟨a, xs, k, y, rfl, rfl, SqL.of (S2.z _ _ h2), e1, h y H2 H₂ F2 (E1.s0.trans s2) S2 e2⟩
    | _ => exact (show False from h).elim
  | _ => exact (show False from h).elim

/-! x = e -/
def sSetN (i : Nat) (f : Env → R (PV × Env)) : Env → RS := fun ρ => (f ρ).to ρ fun r => .nx (r.2.set i (some (.sh r.1)))
theorem qSetN (hx : fxOk C i) (hN : X.N.Nodup) (he : QN C W X e f) (hi : X.N[i]? = some x := by rfl) (hl : Loc X.env.scope x := by first | exact Or.inl rfl | exact Or.inr rfl) (hs : swapsWith e (some (.Name x p)) pos.line X.env = pure false := by rfl)
    (hf : X.fn x = true ∨ X.env.scope.names.lookup x = some .local := by first | exact .inl rfl | exact .inr rfl) : QS C W X (.Assign [.Name x p] e pos) (sSetN i f) :=
  PS.imp (ps_set hN hi hl he hs hf) fun D σ H h => by
    obtain ⟨H₀, F, ρ, S, h⟩ := h
    show tN C W f σ H fun v H1 => gName i v σ H1 D.nx
    refine ⟨H₀, F, ρ, S, (Aft.to S h).imp fun q _ h v H' H₀' F' s S' r => ?_⟩
    obtain ⟨F2, S2⟩ := S'.sh (i := i) (p := q.1) (v := v) r hx
    exact h _ H' H₀' F2 S2
/-! for x in e -/
def tIN (C : Fc) (W : WX) (f : Env → R (List PV × Env)) : TI := fun σ H Rr => ∃ H₀ F ρ, SR C H₀ F ρ σ H ∧ Goes C.G W (f ρ) σ H H₀ fun q => ∀ J H' H₀' F', Same H₀ H₀' → SR C H₀' F' q.2 σ H' → ItP C.G J H₀' q.1 → Rr J H'
abbrev QIN (C : Fc) (W : WX) (X : Cx) (tg e : Expr) (f : Env → R (List PV × Env)) : Prop := PI X tg e (tIN C W f)
def seqN : PV × Env → R (List PV × Env)
  | (.lst l, ρ) => .ok (l, ρ)
  | _ => .no
def iN (f : Env → R (PV × Env)) : Env → R (List PV × Env) := fun ρ => (f ρ).bind seqN
theorem qiN {tg : Expr} (hK : X.K = C.G.K) (he : QN C W X e f) : QIN C W X tg e (iN f) := by
  refine PI.imp (pi_list he) fun σ H Q h => ?_
  obtain ⟨H₀, F, ρ, S, h⟩ := h
  unfold iN at h
  rw [Goes.bind] at h
  refine ⟨H₀, F, ρ, S, h.imp fun q _ h v H' H₀' F' s S' r => ?_⟩
  obtain ⟨p, ρ'⟩ := q
  cases p with
  | lst l =>
    simp only [Rep] at r
    obtain ⟨a, xs, h1, h2, h3⟩ := r
    subst h1
    rw [hK]
    exact ⟨a, rfl, ⟨xs, SqL.of (S'.z _ _ h2)⟩, h _ H' H₀' F' s S' (itp_list (SqL.of h2) h3)⟩
  | _ => exact (show False from h).elim
def sForN (T : Tg) (fg : List Nat) (fi : Env → R (List PV × Env)) (fb : Env → RS) : Env → RS := fun ρ => (fi ρ).to ρ fun q => forGo T fg fb q.1 (wipeE q.2 fg)
theorem qForN {T : Tg} {tg iter : Expr} {body : List Stmt} (fg : List Nat) {fi : Env → R (List PV × Env)} {fb : Env → RS} (hp : PassesOwn (model X.prog X.w) X.A X.env X.xe) (hc : X.calm = true) (hi : QIN C W X tg iter fi) (hg : ∀ Hx, QG { C with Hx := Hx } X tg T) (hb : ∀ Hx, QSs { C with Hx := Hx } W X body fb)
    (hs : ∀ x, foldedSetIterable iter X.env x = pure x := by intro _; rfl) : QS C W X (.For tg iter body [] pos) (sForN T fg fi fb) := by
  refine ⟨fun pins s σ H D I h => ?_⟩
  -- the frozen heap at the loop's start
  obtain ⟨H₀, F, ρ, S, h⟩ := h
  have h := Aft.to S h
  cases q : fi ρ with
  | no => rw [q] at h; exact h.elim
  | er x =>
    obtain ⟨t, g1, _⟩ := (hg C.Hx).ex
    refine (ps_for (tb := tS { C with Hx := C.Hx } W fb) hp hc hi g1 (hb C.Hx) hs).run pins s σ H D I ?_
    refine ⟨H₀, F, ρ, S, ?_⟩
    rw [q] at h ⊢
    exact h
  | ok pr =>
    obtain ⟨ps, ρ0⟩ := pr
    rw [q] at h
    have h : Aft C W D (forGo T fg fb ps (wipeE ρ0 fg)) := h
    -- the loop is read at a heap that comes only behind the iterable: so the reading chooses it
    have key : PS X (.For tg iter body [] pos) (tFor (tIN C W fi) (fun v σ H Q => ∃ t : TG, PG X tg t ∧ t v σ H Q) (fun D σ H => ∃ Hx, Same C.Hx Hx ∧ tS { C with Hx := Hx } W fb D σ H)) := by
      refine ps_for hp hc hi ⟨fun pins s σ H v u Q I r q => ?_⟩ ⟨fun pins s σ H D I q => ?_⟩ hs
      · obtain ⟨t, g1, q⟩ := q
        exact g1.run pins s σ H v u Q I r q
      · obtain ⟨Hx, hx, q⟩ := q
        exact (hb Hx).run pins s σ H D I q
    refine key.run pins s σ H D I ?_
    refine ⟨H₀, F, ρ, S, ?_⟩
    rw [q]
    intro J H1 H₁ F0 s01 S1 ip
    obtain ⟨F1, S1'⟩ := S1.drops fg
    refine ⟨fun i mm σc Hc => mm = ps.length - i ∧ i ≤ ps.length ∧ ∃ H₀c Fc ρc, SR { C with Hx := H₁ } H₀c Fc ρc σc Hc ∧ Aft C W D (forGo T fg fb (ps.drop i) ρc), ⟨ps.length, by simp, Nat.zero_le _, H₁, F1, _, S1'.inx (Same.refl _), by simpa using h⟩, ?_⟩
    rintro i mm σc Hc ⟨rfl, hi', H₀c, Fc, ρc, Sc, hA⟩
    have sc : Same H₁ Hc := Sc.hx.trans Sc.z
    by_cases hlt : i < ps.length
    · have hpi : ps[i]? = some ps[i] := by simp [hlt]
      obtain ⟨jg, jy⟩ := ip.go i Hc _ sc hpi
      rw [List.drop_eq_getElem_cons hlt] at hA
      unfold forGo at hA
      refine .inr ⟨jg, fun σ' H' => ps.length - (i + 1) = ps.length - (i + 1) ∧ i + 1 ≤ ps.length ∧ ∃ H₀c Fc ρc, SR { C with Hx := H₁ } H₀c Fc ρc σ' H' ∧ Aft C W D (forGo T fg fb (ps.drop (i + 1)) ρc), fun σ' H' z => ⟨ps.length - (i + 1), by omega, z⟩, fun x H' y => ?_⟩
      obtain ⟨e1, rx⟩ := jy x H' y
      subst e1
      obtain ⟨t, g1, g2⟩ := (hg H₁).ex
      refine ⟨t, g1, ?_⟩
      cases et : tgS T ps[i] ρc with
      | er z => exact absurd et tgS_calm
      | no => rw [et] at hA; exact hA.elim
      | ok ρ1 =>
        rw [et] at hA
        refine g2 _ x H₀c Fc ρc ρ1 σc H' _ Sc (Rep.mono Sc.hx rx) et fun σ2 F2 S2 _ => ⟨H₁, S1.hx, H₀c, F2, ρ1, S2, ?_⟩
        dsimp only at hA
        cases eb : fb ρ1 with
        | nx ρ2 =>
          rw [eb] at hA
          intro σ3 H3 H₀3 F3 S3
          obtain ⟨F4, S4⟩ := S3.drops fg
          exact ⟨rfl, hlt, H₀3, F4, _, S4, hA⟩
        | ct ρ2 =>
          rw [eb] at hA
          intro σ3 H3 H₀3 F3 S3
          obtain ⟨F4, S4⟩ := S3.drops fg
          exact ⟨rfl, hlt, H₀3, F4, _, S4, hA⟩
        | bk ρ2 =>
          rw [eb] at hA
          intro σ3 H3 H₀3 F3 S3
          obtain ⟨F4, S4⟩ := S3.drops fg
          exact hA σ3 H3 H₀3 F4 (S4.unx S1.hx)
        | rt o => rw [eb] at hA; exact hA
        | er z ρ2 =>
          rw [eb] at hA
          intro cls d σ3 H3 H₀3 F3 S3 rx3
          exact hA cls d σ3 H3 H₀3 F3 (S3.unx S1.hx) rx3
        | no => rw [eb] at hA; exact hA
    · have hie : i = ps.length := by omega
      subst hie
      rw [List.drop_length] at hA
      unfold forGo at hA
      exact .inl ⟨ip.stop _ Hc sc (Nat.le_refl _), hA σc Hc H₀c Fc (Sc.unx S1.hx)⟩
end
end L3
/-! str(e) -/
namespace L3
open PySem PySem.Spec PyProof.Rows L2
theorem str_ok {G : Gc} : OpC G (fun xs H Q => (∃ i, xs = [.int i] ∧ i.natAbs.log2 < 1920 ∧ Q (.str (toString i)) H) ∨ ∃ a, xs = [.str a] ∧ Q (.str a) H) bStr := by
  intro m H₀ H F ps z vs Q zz rs e k
  unfold bStr at e
  split at e
  · split at e
    · rename_i i hi
      obtain ⟨v, e1, r⟩ := reps1 rs
      simp only [Rep] at r
      subst r
      cases e
      exact .inl ⟨_, e1, hi, k _ H H₀ (Ext.refl zz) (by simp only [Rep])⟩
    · cases e
  · obtain ⟨v, e1, r⟩ := reps1 rs
    simp only [Rep] at r
    subst r
    cases e
    exact .inr ⟨_, e1, k _ H H₀ (Ext.refl zz) (by simp only [Rep])⟩
  · cases e
section
variable {C : Fc} {W : WX} {X : Cx} {m : Bool} {e : Expr} {pos p : Pos} {fas : Env → R (List PV)}
theorem qStrB (hm : X.mg "str" = none) (ha : QA C W m X [e] fas) (hgl : Gl X "str" := by rfl) (he : starEach (e :: []) X.env = (false, eval e X.env) :: starEach [] X.env := by rfl) : QE C W m X (.Call (.Name "str" p) [e] [] pos) (eB bStr fas) := qBty (CallR.or call_str_int SkE.call_str_str) calm_str str_ok hm bt_str ha hgl (by decide) (by decide) he rfl
end
@[simp] theorem str_int {i : Int} (h : i.natAbs.log2 < 1920) : bStr [.int i] = .ok (.str (toString i)) := if_pos h
@[simp] theorem str_str {a : Str} : bStr [.str a] = .ok (.str a) := rfl
/-! by simp: pop -/
section
variable {ρ ρ' : Env} {f : Env → R (PV × Env)} {g : Env → R Pth} {l : List OV} {q : Pth} {p z : PV} {k : Int}
def popB (ρ : Env) : R Pth → R (PV × Env)
  | .ok q => popR q ρ (atE ρ q)
  | .er x => .er x
  | .no => .no
@[simp] theorem nPop_at : nPop g ρ = popB ρ (g ρ) := by unfold nPop; cases g ρ <;> rfl
@[simp] theorem popB_ok : popB ρ (.ok q) = popR q ρ (atE ρ q) := rfl
theorem popR_snoc : popR q ρ (some (.own (l ++ [.sh p]))) = .ok (p, upE ρ q (.own l)) := by
  unfold popR
  simp
def ix2N : R PV → R (PV × Env) → R (PV × Env)
  | .ok p, .ok r => ixN1 p r
  | .ok _, .er x => .er x
  | .ok _, .no => .no
  | .er x, _ => .er x
  | .no, _ => .no
@[simp] theorem nIx_at {fb : Env → R PV} : nIx fb f ρ = ix2N (fb ρ) (f ρ) := by
  unfold nIx
  cases fb ρ with
  | ok p => cases f ρ <;> rfl
  | er x => rfl
  | no => rfl
theorem ix2N_ok {l : List PV} (h : atI l k = some z) : ix2N (.ok (.lst l)) (.ok (.int k, ρ)) = .ok (z, ρ) := by
  show ixN1 (.lst l) (.int k, ρ) = _
  unfold ixN1
  dsimp only
  rw [h]
def seq1N : R (PV × Env) → R (List PV × Env)
  | .ok r => seqN r
  | .er x => .er x
  | .no => .no
@[simp] theorem iN_at : iN f ρ = seq1N (f ρ) := by unfold iN; cases f ρ <;> rfl
@[simp] theorem seq1N_ok {l : List PV} : seq1N (.ok (.lst l, ρ)) = .ok (l, ρ) := rfl
def forN (T : Tg) (fg : List Nat) (fb : Env → RS) (ρ : Env) : R (List PV × Env) → RS
  | .ok q => forGo T fg fb q.1 (wipeE q.2 fg)
  | .er x => .er x ρ
  | .no => .no
@[simp] theorem sForN_at {T : Tg} {fg : List Nat} {fi : Env → R (List PV × Env)} {fb : Env → RS} : sForN T fg fi fb ρ = forN T fg fb ρ (fi ρ) := by unfold sForN; cases fi ρ <;> rfl
@[simp] theorem forN_ok {T : Tg} {fg : List Nat} {fb : Env → RS} {ps : List PV} : forN T fg fb ρ (.ok (ps, ρ')) = forGo T fg fb ps (wipeE ρ' fg) := rfl
def setN (i : Nat) (ρ : Env) : R (PV × Env) → RS
  | .ok r => .nx (r.2.set i (some (.sh r.1)))
  | .er x => .er x ρ
  | .no => .no
@[simp] theorem sSetN_at {i : Nat} : sSetN i f ρ = setN i ρ (f ρ) := by unfold sSetN; cases f ρ <;> rfl
@[simp] theorem setN_ok {i : Nat} : setN i ρ (.ok (p, ρ')) = .nx (ρ'.set i (some (.sh p))) := rfl
end
end L3
/-! isinstance(e, T), T a builtin, of a caught error -/
namespace L3
open PySem PySem.Spec PyProof.Rows L2
theorem qXiT {C : Fc} {m : Bool} {X : Cx} {pos : Pos} {cls : Value} {d : Option Addr} {ob : Obj} {x : PX} {a : Addr} {xn : Str} {i : Nat} {pl : List (Addr × Obj)} {W : WX} {Hx : Hp} {T : Str} {t : String} {p1 p2 p3 : Pos} {ib : Nat → Option Bool} (hm : X.mg "isinstance" = none) (hT : X.mg T = none) (hvT : bootBuiltins T = some (.type t)) (hi : ∀ c b, ib c = some b → X3.ExI X.K (C.G.CA c) ∧ PySem.W.kitOne X.K (.ref (C.G.CA c)) (.type t) = some b)
    (hz : L2N.Zn cls d ob) (hf : ∃ vs, ob.data = .fields vs) (rx : RepX C.G Hx x cls d)
    (hN : X.N[i]? = some xn := by rfl) (hv : Vis X.env.scope xn := by first | exact Or.inl rfl | exact Or.inr (Or.inl rfl) | exact Or.inr (Or.inr rfl)) (hd : (xn == ("__debug__" : Str)) = false := by decide)
    (hcd : (xn == ("__classdict__" : Str)) = false := by decide) (hg : Gl X "isinstance" := by rfl) (hgT : Gl X T := by rfl) (hdT : (T == ("__debug__" : Str)) = false := by decide) (hnT : T ≠ "__name__" := by decide)
    (he : starEach (.Name xn p1 :: .Name T p2 :: []) X.env = (false, eval (.Name xn p1) X.env) :: starEach [.Name T p2] X.env := by rfl) (hpl : (backTo pos (starEach [.Name T p2] X.env)).any (·.1) = false := by rfl)
    (hs1 : starEach [.Name T p2] X.env = [(false, eval (.Name T p2) X.env)] := by rfl) :
    QE { C with Hx := Hx, fx := some (i, .ref a) } W m (X.suite a ((a, ob) :: pl)) (.Call (.Name "isinstance" p3) [.Name xn p1, .Name T p2] [] pos) (eXi ib x) := by
  have hE : PE (X.suite a ((a, ob) :: pl)) (.Name xn p1) (tVar i) := pe_var (X := X.suite a ((a, ob) :: pl)) hN hv hd hcd
  cases hok : ib x.c with
  | none =>
    refine ⟨fun pins s σ H Q I h => ?_⟩
    obtain ⟨H₀, F, ρ, S, h⟩ := h
    unfold eXi at h
    rw [hok] at h
    exact h.elim
  | some b =>
    obtain ⟨T1, T2⟩ := hi _ _ hok
    have hgE : PE (X.suite a ((a, ob) :: pl)) (.Name T p2) (tC (.ty t)) := pe_bltn (X := X.suite a ((a, ob) :: pl)) (v := .ty t) hgT hT hvT rfl hnT hdT
    have hA : PA (X.suite a ((a, ob) :: pl)) [.Name xn p1, .Name T p2] (tCons (tVar i) (tCons (tC (.ty t)) tNil)) := pa_cons hE (pa_cons hgE pa_nil hs1) he
    have hcl : cls = .ref (C.G.CA x.c) := rx.1
    obtain ⟨fs, hfs⟩ : ∃ fs : List (Str × V), ∀ H₀ : Hp, Same Hx H₀ → ∀ dd, d = some dd → H₀ dd = some (.xd fs) := by
      rcases rx.2 with ⟨_, e1⟩ | ⟨dd, vs, e1, e2, e3⟩
      · exact ⟨[], fun H₀ _ dd z => by rw [e1] at z; cases z⟩
      · exact ⟨vs, fun H₀ z dd' z' => by rw [e1] at z'; cases z'; exact z _ _ e2⟩
    have hz' : Zc (.ref (C.G.CA x.c)) d ob := by rw [← hcl]; exact hz.zc
    have hcr := X3.call_isX (X := X) (a := a) (fs := fs) (pn := pl) T1 hz' hf
    refine PE.imp (pe_callB (X := X.suite a ((a, ob) :: pl)) hcr hg hm bt_isi hA (by decide) (by decide) he hpl) fun σ H Q h => ?_
    obtain ⟨H₀, F, ρ, S, h⟩ := h
    unfold eXi at h
    rw [hok] at h
    refine ⟨.ref a, S.fx i _ rfl, ⟨fun dd z => S.z _ _ (hfs _ S.hx dd z), .ty t, .type t, b, rfl, fun u ru => ru, T2, ?_⟩⟩
    exact h (.bl b) H H₀ (Ext.refl S.z) (by simp only [Rep])
end L3
namespace X4
open PySem PySem.Spec PyProof.Rows L2 L3 He
def kitRT (x : Str) (t : String) (b : Bool) : Ck := fun K => decide (PySem.W.kitOne K (.ref (ga K x)) (.type t) = some b)
theorem kitRT_ok {K : PySem.W.Frag} {x : Str} {t : String} {b : Bool} (c : kitRT x t b K = true) : PySem.W.kitOne K (.ref (ga K x)) (.type t) = some b := of_decide_eq_true c
end X4

end
section
/-! L3. 20: a display of new things -/
namespace L3
open PySem PySem.Spec PyProof.Rows L2
/-- a display's items, each of them new -/
def tAo (C : Fc) (W : WX) (f : Env → R (List OV)) : TA := fun σ H Q => ∃ H₀ F ρ, SR C H₀ F ρ σ H ∧ Goes C.G W (f ρ) σ H H₀ fun os => ∀ vs H' H₀' Fv, Ext H₀ H H₀' H' → OwnRs C.G H₀' H' os vs Fv → Fv.Nodup → (∀ a ∈ Fv, H a = none ∧ H₀' a = none) → Q vs H'
abbrev QAo (C : Fc) (W : WX) (X : Cx) (es : List Expr) (f : Env → R (List OV)) : Prop := PA X es (tAo C W f)
def oNil : Env → R (List OV) := fun _ => .ok []
def oCons (f : Env → R OV) (r : Env → R (List OV)) : Env → R (List OV) := fun ρ => (f ρ).bind fun o => (r ρ).bind fun os => .ok (o :: os)
def mkLstO (os : List OV) : R OV := if os.length ≤ sizeLine then .ok (.own os) else .no
def fLstO (r : Env → R (List OV)) : Env → R OV := fun ρ => (r ρ).bind mkLstO
section
variable {C : Fc} {W : WX} {X : Cx} {a : Expr} {es : List Expr} {pos : Pos} {f : Env → R OV} {r : Env → R (List OV)}
theorem qoaNil : QAo C W X [] oNil := PA.imp pa_nil fun σ H Q ⟨H₀, F, ρ, S, h⟩ => h [] H H₀ [] (Ext.refl S.z) (by simp [OwnRs]) List.nodup_nil fun a ha => by cases ha
theorem qoaCons (ha : QF C W X a f) (hr : QAo C W X es r) (hs : starEach (a :: es) X.env = (false, eval a X.env) :: starEach es X.env := by rfl) : QAo C W X (a :: es) (oCons f r) := by
  refine PA.imp (pa_cons ha hr hs) fun σ H Q h => ?_
  show tF C W f σ H fun x H1 => tAo C W r σ H1 fun xs H2 => Q (x :: xs) H2
  rw [tF_iff]
  obtain ⟨H₀, F, ρ, S, h⟩ := h
  unfold oCons at h
  rw [Goes.bind] at h
  refine ⟨H₀, F, ρ, S, h.imp fun o _ h v H1 H₁ Fv E1 r1 n1 f1 => ?_⟩
  rw [Goes.bind] at h
  refine ⟨H₁, F, ρ, S.ext E1, (h.later E1).imp fun os _ h vs H2 H₂ Fw E2 r2 n2 f2 => ?_⟩
  have th := r1.there
  refine h (v :: vs) H2 H₂ (Fv ++ Fw) (E1.trans E2) ?_ ?_ ?_
  · simp only [OwnRs]
    refine ⟨v, vs, Fv, Fw, rfl, rfl, OwnR.mono E2.s0 (fun a ha => ?_) r1, r2⟩
    obtain ⟨u, e⟩ := th a ha
    rw [e, E2.s a u e]
  · refine List.nodup_append.mpr ⟨n1, n2, fun a ha b hb e => ?_⟩
    subst e
    obtain ⟨u, e⟩ := th a ha
    rw [(f2 a hb).1] at e
    cases e
  · intro a ha
    rcases List.mem_append.mp ha with ha | ha
    · obtain ⟨u, e⟩ := th a ha
      exact ⟨(f1 a ha).1, by rw [E2.n a (ne_none_of e)]; exact (f1 a ha).2⟩
    · exact ⟨Same.free E1.s (f2 a ha).1, (f2 a ha).2⟩
theorem qLstO (h : QAo C W X es r) : QF C W X (.List es pos) (fLstO r) := by
  refine PE.imp (pe_lst h) fun σ H Q h => ?_
  show tAo C W r σ H fun xs H1 => xs.length ≤ sizeLine ∧ ∀ p, H1 p = none → Q (.ref p) (upd H1 p (.lst xs))
  rw [tF_iff] at h
  obtain ⟨H₀, F, ρ, S, h⟩ := h
  unfold fLstO at h
  rw [Goes.bind] at h
  refine ⟨H₀, F, ρ, S, h.imp fun os _ h vs H1 H₁ Fv E1 r1 n1 f1 => ?_⟩
  unfold mkLstO at h
  split at h
  · rename_i hs
    refine ⟨by rw [← r1.length]; exact hs, fun p hp => ?_⟩
    have th := r1.there
    have np : p ∉ Fv := fun z => by
      obtain ⟨u, e⟩ := th p z
      rw [hp] at e
      cases e
    have h0 : H₁ p = none := Same.free E1.z hp
    have E2 : Ext H₁ H1 H₁ (upd H1 p (.lst vs)) := by
      refine ⟨fun b u e => ?_, Same.refl _, fun b u e => ?_, fun _ _ => rfl⟩
      · rw [upd_ne fun q => by rw [q, hp] at e; cases e]; exact e
      · rw [upd_ne fun q => by rw [q, h0] at e; cases e]; exact E1.z b u e
    refine h (.ref p) _ H₁ (p :: Fv) (E1.trans E2) ?_ (List.nodup_cons.mpr ⟨np, n1⟩) fun a ha => ?_
    · simp only [OwnR]
      exact ⟨p, vs, Fv, rfl, rfl, upd_same, OwnRs.mono (Same.refl _) (fun b hb => upd_ne fun z => np (z ▸ hb)) r1⟩
    · rcases List.mem_cons.mp ha with e | ha
      · rw [e]
        exact ⟨Same.free E1.s hp, h0⟩
      · exact f1 a ha
  · exact h.elim
end
/-! by simp -/
section
variable {ρ : Env} {o x : OV} {os l : List OV} {f : Env → R OV} {r : Env → R (List OV)} {j : Nat} {π : List Stp} {n : OV}
def cons2O : R OV → R (List OV) → R (List OV)
  | .ok o, .ok os => .ok (o :: os)
  | .ok _, r => r
  | .er x, _ => .er x
  | .no, _ => .no
@[simp] theorem cons2O_ok : cons2O (.ok o) (.ok os) = .ok (o :: os) := nr rfl
@[simp] theorem oNil_at : oNil ρ = .ok [] := nr rfl
@[simp] theorem oCons_at : oCons f r ρ = cons2O (f ρ) (r ρ) := by
  unfold oCons
  cases f ρ <;> cases r ρ <;> rfl
@[simp] theorem mkLstO_ok (h : os.length ≤ sizeLine) : mkLstO os = .ok (.own os) := if_pos h
@[simp] theorem fLstO_at : fLstO r ρ = app1 mkLstO (r ρ) := bind_app
theorem setP_ix2 (h : l[j]? = some x) : setP (.ix j :: π) (.own l) n = .own (l.set j (setP π x n)) := by
  rw [setP_ix, h]
end
/-! places within places -/
section
variable {l : List OV} {j : Nat} {n x : OV} {s : Stp} {π : List Stp}
def setL (l : List OV) (j : Nat) (π : List Stp) (n : OV) : Option OV → OV
  | some o => .own (l.set j (setP π o n))
  | none => .own l
@[simp] theorem setL_some : setL l j π n (some x) = .own (l.set j (setP π x n)) := nr rfl
@[simp] theorem setP_ixx : setP (.ix j :: s :: π) (.own l) n = setL l j (s :: π) n l[j]? := by
  rw [setP_ix]
  cases l[j]? <;> rfl
end
@[simp] theorem atI_3 {α : Type} {a b c d : α} {l : List α} : atI (a :: b :: c :: d :: l) 3 = some d := by
  rw [atI_of (by omega) (by simp only [List.length_cons]; omega)]
  rfl
@[simp] theorem atI_4 {α : Type} {a b c d e : α} {l : List α} : atI (a :: b :: c :: d :: e :: l) 4 = some e := by
  rw [atI_of (by omega) (by simp only [List.length_cons]; omega)]
  rfl
@[simp] theorem atI_5 {α : Type} {a b c d e f : α} {l : List α} : atI (a :: b :: c :: d :: e :: f :: l) 5 = some f := by
  rw [atI_of (by omega) (by simp only [List.length_cons]; omega)]
  rfl
end L3

end
section
/-! L3. 21: own operators, lcm -/
namespace L3
open PySem PySem.Spec PyProof.Rows L2
/-- what an own operator must have; the right one may be of the class or a number -/
structure OwnOp (K : PySem.W.Frag) (Ca f : Addr) (nm : String) : Prop where
  at_ : PySem.W.findIn K (.ref Ca) (PySem.dunder nm) = some (some (.ref f))
  fn : PySem.W.isFn K (.ref f) = true
  self : PySem.W.selfFirst K Ca = true
  rr : PySem.W.findIn K (.ref Ca) (PySem.dunderR nm) = some none
  i1 : (PySem.W.findIn K (.type "int") (PySem.dunder nm)).isSome = true
  i2 : (PySem.W.findIn K (.type "int") (PySem.dunderR nm)).isSome = true
  sub : PySem.W.subIn K (.type "int") (.ref Ca) = some false
def tBinO (Ca : Addr) (sp : Sp) (E : L2.St → XK) (ta tb : TE) : TE := fun σ H Q => ta σ H fun x H1 => tb σ H1 fun y H2 => ∃ a dx fs, x = .ref a ∧ H2 a = some (.ins Ca dx fs) ∧ ((∃ b dy gs, y = .ref b ∧ H2 b = some (.ins Ca dy gs)) ∨ ∃ i, y = .int i) ∧
  sp [x, y] H2 (fun v H' => (∃ r, v = .ref r) ∧ Q v H') (E σ)
section
variable {X : Cx} {Ca f : Addr} {fd : FuncData} {ns : List Str} {k : Nat} {sp : Sp} {CX : CXT} {E : L2.St → XK} {ta tb : TE} {a b : Expr} {op : Operator} {pos : Pos}
theorem pe_binO (T : OwnOp X.K Ca f op.info.2) (Fo : FnOk X.prog X.w X.K X.mg X.base CX k f fd ns sp) (hr : Room k X.A) (hb : Binds X.K fd ns []) (hx : ∀ σ, PassesAt CX X σ (E σ)) (ha : PE X a ta) (hb' : PE X b tb) : PE X (.BinOp a op b pos) (tBinO Ca sp E ta tb) := by
  refine ⟨fun pins s σ H Q I h => ?_⟩
  refine wpAny_BinOp (thn (ha.run pins s σ H _ I h) fun u s1 ⟨x, H1, I1, rx, q⟩ => ?_)
  refine thn (hb'.run pins s1 σ H1 _ I1 q) fun u2 s2 ⟨y, H2, I2, ry, q⟩ => ?_
  obtain ⟨p, dx, fs, rfl, hp, hy, q⟩ := q
  obtain rfl : u = Value.ref p := rx
  obtain ⟨mA, J, _⟩ := ins_get I2.hok hp
  obtain ⟨od, J, _⟩ := J.look
  obtain ⟨m, hF⟩ := I2.fr
  have run : wpAny (model X.prog X.w) X.A (call (.ref f) [.ref p, u2]) (PySem.W.CmpBack (EP X pins σ Q)) X.xe s2 := by
    refine wpAny_mono (run_fnSD (us := [.ref p, u2]) (vs := [V.ref p, y]) (ds := []) (dvs := []) Fo hr hb .nil (hx σ) I2 (.cons rfl (.cons ry .nil)) q) (fun v s' q => ?_) fun _ _ e => e
    obtain ⟨z, H', I', rz, ⟨r, ez⟩, q⟩ := q
    subst ez
    obtain rfl : v = Value.ref r := rz
    exact ⟨.ref r, H', I', rfl, q⟩
  rcases hy with ⟨p2, dy, gs, ey, hy⟩ | ⟨i, ey⟩
  · subst ey
    obtain rfl : u2 = Value.ref p2 := ry
    obtain ⟨mA2, J2, _⟩ := ins_get I2.hok hy
    obtain ⟨od2, J2, _⟩ := J2.look
    exact PySem.W.binop_K hF I2.ok.mod.kin J J2.type T.self T.at_ T.fn run
  · subst ey
    obtain ⟨t, rfl⟩ : ∃ t, u2 = Value.int i t := ry
    obtain ⟨fo, e1⟩ := Option.isSome_iff_exists.mp T.i1
    obtain ⟨ro, e2⟩ := Option.isSome_iff_exists.mp T.i2
    exact PySem.W.ksp_binT (T := "int") hF I2.ok.mod.kin J rfl T.self T.at_ T.fn T.rr (.inl rfl) e1 e2 T.sub run
end
def binY (c : Nat) : PV → Bool
  | .ins c'' _ => decide (c'' = c)
  | .int _ => true
  | _ => false
def binK (m : Bool) (c : Nat) (Fn : List PV → R OV) (p q : PV) : R OV := match p with
  | .ins c' _ => if c' = c ∧ binY c q = true then (match Fn [p, q] with
      | .ok (.obj d fs) => capR m (.ok (.obj d fs))
      | .er x => capR m (.er x)
      | _ => .no) else .no
  | _ => .no
def fBinO (m : Bool) (c : Nat) (Fn : List PV → R OV) (fa fb : Env → R PV) : Env → R OV := fun ρ => (fa ρ).bind fun p => (fb ρ).bind fun q => binK m c Fn p q
section
variable {C : Fc} {W : WX} {m : Bool} {X : Cx} {a b : Expr} {pos : Pos} {f : Addr} {fd : FuncData} {ns : List Str} {k c : Nat} {Fn : List PV → R OV} {fa fb : Env → R PV} {σ : L2.St} {H : Hp} {op : Operator}
theorem qBinO (hK : X.K = C.G.K) (Fo : FnOk X.prog X.w X.K X.mg X.base (L2N.CX X.prog X.w) k f fd ns (spP C.G Fn)) (T : OwnOp X.K (C.G.CA c) f op.info.2) (hr : Room k X.A) (tk : L2N.Takes X W) (hb : Binds X.K fd ns []) (ha : QE C W m X a fa) (hb' : QE C W m X b fb) :
    QF C W X (.BinOp a op b pos) (fBinO m c Fn fa fb) := by
  refine PE.imp (pe_binO (E := WE W) T Fo hr hb (fun σ => L2N.passAt tk σ) ha hb') fun σ H Q h => ?_
  show tE C W m fa σ H fun x H1 => tE C W m fb σ H1 fun y H2 => ∃ a dx fs, x = .ref a ∧ H2 a = some (.ins (C.G.CA c) dx fs) ∧ ((∃ b dy gs, y = .ref b ∧ H2 b = some (.ins (C.G.CA c) dy gs)) ∨ ∃ i, y = .int i) ∧ spP C.G Fn [x, y] H2 (fun v H' => (∃ r, v = .ref r) ∧ Q v H') (WE W σ)
  rw [tF_iff] at h
  rw [tE_iff]
  obtain ⟨H₀, F, ρ, S, h⟩ := h
  unfold fBinO at h
  rw [Goes.bind] at h
  refine ⟨H₀, F, ρ, S, h.imp fun p _ h1 v H1 H₁ E1 r1 => ?_⟩
  clear h
  rw [Goes.bind] at h1
  rw [tE_iff]
  have S1 := S.ext E1
  refine ⟨H₁, F, ρ, S1, (h1.later E1).imp fun q _ h w H2 H₂ E2 r2 => ?_⟩
  clear h1
  have S2 := S1.ext E2
  have r1 := Rep.mono (md_ext E2) r1
  have E := E1.trans E2
  unfold binK at h
  cases p with
  | ins c' fs =>
    dsimp only at h
    by_cases hc : c' = c ∧ binY c q = true
    rotate_left
    · rw [if_neg hc] at h
      exact h.elim
    rw [if_pos hc] at h
    obtain ⟨hc1, hc2⟩ := hc
    subst hc1
    have r1' := r1
    simp only [Rep] at r1'
    obtain ⟨a', dx, vs, e1, e2, e3⟩ := r1'
    have yk : (∃ b' dy gs, w = .ref b' ∧ H2 b' = some (.ins (C.G.CA c') dy gs)) ∨ ∃ i, w = .int i := by
      cases q with
      | ins c'' gs =>
        have hc3 : c'' = c' := by simpa [binY] using hc2
        subst hc3
        have r2' := r2
        simp only [Rep] at r2'
        obtain ⟨b', dy, ws, g1, g2, g3⟩ := r2'
        exact .inl ⟨b', dy, ws, g1, md_H S2.z _ _ g2⟩
      | int i =>
        simp only [Rep] at r2
        exact .inr ⟨i, r2⟩
      | _ => simp [binY] at hc2
    subst e1
    refine ⟨a', dx, vs, rfl, md_H S2.z _ _ e2, yk, ?_⟩
    refine call_go S2 (m := m) (Fn := Fn) (qs := [.ins c' fs, q]) (vs := [.ref a', w]) (Reps.cons r1 (Reps.one r2)) ?_
    cases eF : Fn [.ins c' fs, q] with
    | er z =>
      rw [eF] at h
      refine Goes.imp (h.later E) fun o ho _ => ?_
      have e2 : (capR m (.er z) : R OV) = if m = true ∨ PV.flatf z.fs = true then .er z else .no := rfl
      rw [e2] at ho
      split at ho <;> cases ho
    | no => rw [eF] at h; exact h.elim
    | ok o =>
      rw [eF] at h
      cases o with
      | sh p => exact (show False from h).elim
      | own l => exact (show False from h).elim
      | obj d fs' =>
        refine (h.later E).imp fun o ho h v H' H₀' Fv E3 ro nd fr => ⟨?_, h v H' H₀' Fv (E.trans E3) ro nd fun a ha => ⟨Same.free E.s (fr a ha).1, (fr a ha).2⟩⟩
        have e : o = .obj d fs' := by
          have e2 : (capR m (.ok (.obj d fs')) : R OV) = if m = true ∨ (OV.obj d fs').flat = true then .ok (.obj d fs') else .no := rfl
          have ho : capR m (.ok (.obj d fs')) = .ok o := ho
          rw [e2] at ho
          split at ho
          · cases ho; rfl
          · cases ho
        subst e
        simp only [OwnR] at ro
        obtain ⟨r, _, _, _, hv, _⟩ := ro
        exact ⟨r, hv⟩
  | _ => exact (show False from h).elim
end
/-! by simp -/
section
variable {ρ : Env} {fa fb : Env → R PV} {m : Bool} {c : Nat} {Fn : List PV → R OV} {x : PX}
def bin3 (g : PV → PV → R OV) : R PV → R PV → R OV
  | .ok p, .ok q => g p q
  | .ok _, .er x => .er x
  | .ok _, .no => .no
  | .er x, _ => .er x
  | .no, _ => .no
@[simp] theorem bin3_ok {g : PV → PV → R OV} {p q : PV} : bin3 g (.ok p) (.ok q) = g p q := nr rfl
@[simp] theorem fBinO_at : fBinO m c Fn fa fb ρ = bin3 (binK m c Fn) (fa ρ) (fb ρ) := by
  unfold fBinO
  cases fa ρ <;> cases fb ρ <;> rfl
theorem binK_ok {fs gs : List (Str × PV)} {d : Nat} {hs : List (Str × OV)} (h : Fn [.ins c fs, .ins c gs] = .ok (.obj d hs)) : binK true c Fn (.ins c fs) (.ins c gs) = .ok (.obj d hs) := by
  unfold binK
  simp [binY, h]
theorem binK_er {fs gs : List (Str × PV)} (h : Fn [.ins c fs, .ins c gs] = .er x) : binK true c Fn (.ins c fs) (.ins c gs) = .er x := by
  unfold binK
  simp [binY, h]
theorem binK_int {fs : List (Str × PV)} {i : Int} {d : Nat} {hs : List (Str × OV)} (h : Fn [.ins c fs, .int i] = .ok (.obj d hs)) : binK true c Fn (.ins c fs) (.int i) = .ok (.obj d hs) := by
  unfold binK
  simp [binY, h]
end
/-! lcm -/
def rLcm : List V → Hp → VK → Prop := fun vs H Q => ∃ a b : Int, vs = [.int a, .int b] ∧ a.natAbs < 2 ^ 64 ∧ b.natAbs < 2 ^ 64 ∧ Q (.int ((Nat.lcm a.natAbs b.natAbs : Nat) : Int)) H
theorem cr_lcm {X : Cx} : CallR X (.builtin "math.lcm") rLcm := by
  intro pins s σ H xs us Q I r h
  obtain ⟨a, b, rfl, ha, hb, h⟩ := h
  cases r with
  | cons r1 r =>
    cases r with
    | cons r2 r =>
      cases r
      obtain ⟨t, rfl⟩ := r1
      obtain ⟨u, rfl⟩ := r2
      have e : (Nat.lcm 1 a.natAbs).lcm b.natAbs = Nat.lcm a.natAbs b.natAbs := by rw [Nat.lcm_one_left]
      refine PySem.W.mg_lcm ha hb ?_ ?_
      · rw [e]
        have h1 : Nat.lcm a.natAbs b.natAbs ≤ a.natAbs * b.natAbs := Nat.div_le_self _ _
        have h2 : a.natAbs * b.natAbs < 2 ^ 128 := Nat.lt_of_lt_of_le (Nat.mul_lt_mul'' ha hb) (by decide)
        have h3 : (((Nat.lcm a.natAbs b.natAbs : Nat) : Int)).natAbs.log2 < 128 := log2_le (by rw [Int.natAbs_natCast]; omega) (by decide)
        exact Nat.lt_of_lt_of_le h3 (by decide)
      · rw [e]
        exact ⟨.int _, H, I.tok _, ⟨_, rfl⟩, h⟩
def bLcm : List PV → R PV
  | [.int a, .int b] => if a.natAbs < 2 ^ 64 ∧ b.natAbs < 2 ^ 64 then .ok (.int (Nat.lcm a.natAbs b.natAbs : Nat)) else .no
  | _ => .no
theorem calm_lcm : CalmC bLcm := by
  intro ps x
  unfold bLcm
  split
  · split <;> exact fun z => nomatch z
  · exact fun z => nomatch z
theorem lcm_ok {G : Gc} : OpC G rLcm bLcm := by
  intro m H₀ H F ps z vs Q zz r e k
  unfold bLcm at e
  split at e
  · split at e
    · rename_i hh
      cases e
      simp only [Reps, Rep] at r
      obtain ⟨x, ys, rfl, rfl, y, zs, rfl, rfl, rfl⟩ := r
      exact ⟨_, _, rfl, hh.1, hh.2, k _ H H₀ (Ext.refl zz) (by simp only [Rep])⟩
    · cases e
  · cases e
section
variable {C : Fc} {W : WX} {m : Bool} {X : Cx} {e : Expr} {es : List Expr} {pos p : Pos} {fas : Env → R (List PV)}
theorem qLcm (hm : X.mg "lcm" = some (.builtin "math.lcm")) (ha : QA C W m X (e :: es) fas) (hgl : Gl X "lcm" := by rfl) (he : starEach (e :: es) X.env = (false, eval e X.env) :: starEach es X.env := by rfl) (hpl : (backTo pos (starEach es X.env)).any (·.1) = false := by rfl) :
    QE C W m X (.Call (.Name "lcm" p) (e :: es) [] pos) (eB bLcm fas) := PE.imp (pe_callBfun cr_lcm hgl hm ha (by decide) he hpl) fun σ H Q h => opC_go calm_lcm lcm_ok h
end
theorem lcm_int {a b : Int} (ha : a.natAbs < 2 ^ 64) (hb : b.natAbs < 2 ^ 64) : bLcm [.int a, .int b] = .ok (.int (Nat.lcm a.natAbs b.natAbs : Nat)) := if_pos ⟨ha, hb⟩
/-! isinstance, whatever the own classes -/
section
variable {ib : Nat → Option Bool}
@[simp] theorem isx_int_non  : isiP (tbT "int") ib .non = .ok (.bl false) := nr (by kernel_rfl)
@[simp] theorem isx_int_bl {a : Bool} : isiP (tbT "int") ib (.bl a) = .ok (.bl true) := nr (by kernel_rfl)
@[simp] theorem isx_int_int {a : Int} : isiP (tbT "int") ib (.int a) = .ok (.bl true) := nr (by kernel_rfl)
@[simp] theorem isx_int_str {a : Str} : isiP (tbT "int") ib (.str a) = .ok (.bl false) := nr (by kernel_rfl)
@[simp] theorem isx_int_lst {l : List PV} : isiP (tbT "int") ib (.lst l) = .ok (.bl false) := nr (by kernel_rfl)
@[simp] theorem isx_int_tup {l : List PV} : isiP (tbT "int") ib (.tup l) = .ok (.bl false) := nr (by kernel_rfl)
@[simp] theorem isx_bool_non  : isiP (tbT "bool") ib .non = .ok (.bl false) := nr (by kernel_rfl)
@[simp] theorem isx_bool_bl {a : Bool} : isiP (tbT "bool") ib (.bl a) = .ok (.bl true) := nr (by kernel_rfl)
@[simp] theorem isx_bool_int {a : Int} : isiP (tbT "bool") ib (.int a) = .ok (.bl false) := nr (by kernel_rfl)
@[simp] theorem isx_bool_str {a : Str} : isiP (tbT "bool") ib (.str a) = .ok (.bl false) := nr (by kernel_rfl)
@[simp] theorem isx_bool_lst {l : List PV} : isiP (tbT "bool") ib (.lst l) = .ok (.bl false) := nr (by kernel_rfl)
@[simp] theorem isx_bool_tup {l : List PV} : isiP (tbT "bool") ib (.tup l) = .ok (.bl false) := nr (by kernel_rfl)
@[simp] theorem isx_str_non  : isiP (tbT "str") ib .non = .ok (.bl false) := nr (by kernel_rfl)
@[simp] theorem isx_str_bl {a : Bool} : isiP (tbT "str") ib (.bl a) = .ok (.bl false) := nr (by kernel_rfl)
@[simp] theorem isx_str_int {a : Int} : isiP (tbT "str") ib (.int a) = .ok (.bl false) := nr (by kernel_rfl)
@[simp] theorem isx_str_str {a : Str} : isiP (tbT "str") ib (.str a) = .ok (.bl true) := nr (by kernel_rfl)
@[simp] theorem isx_str_lst {l : List PV} : isiP (tbT "str") ib (.lst l) = .ok (.bl false) := nr (by kernel_rfl)
@[simp] theorem isx_str_tup {l : List PV} : isiP (tbT "str") ib (.tup l) = .ok (.bl false) := nr (by kernel_rfl)
@[simp] theorem isx_list_non  : isiP (tbT "list") ib .non = .ok (.bl false) := nr (by kernel_rfl)
@[simp] theorem isx_list_bl {a : Bool} : isiP (tbT "list") ib (.bl a) = .ok (.bl false) := nr (by kernel_rfl)
@[simp] theorem isx_list_int {a : Int} : isiP (tbT "list") ib (.int a) = .ok (.bl false) := nr (by kernel_rfl)
@[simp] theorem isx_list_str {a : Str} : isiP (tbT "list") ib (.str a) = .ok (.bl false) := nr (by kernel_rfl)
@[simp] theorem isx_list_lst {l : List PV} : isiP (tbT "list") ib (.lst l) = .ok (.bl true) := nr (by kernel_rfl)
@[simp] theorem isx_list_tup {l : List PV} : isiP (tbT "list") ib (.tup l) = .ok (.bl false) := nr (by kernel_rfl)
@[simp] theorem isx_tuple_non  : isiP (tbT "tuple") ib .non = .ok (.bl false) := nr (by kernel_rfl)
@[simp] theorem isx_tuple_bl {a : Bool} : isiP (tbT "tuple") ib (.bl a) = .ok (.bl false) := nr (by kernel_rfl)
@[simp] theorem isx_tuple_int {a : Int} : isiP (tbT "tuple") ib (.int a) = .ok (.bl false) := nr (by kernel_rfl)
@[simp] theorem isx_tuple_str {a : Str} : isiP (tbT "tuple") ib (.str a) = .ok (.bl false) := nr (by kernel_rfl)
@[simp] theorem isx_tuple_lst {l : List PV} : isiP (tbT "tuple") ib (.lst l) = .ok (.bl false) := nr (by kernel_rfl)
@[simp] theorem isx_tuple_tup {l : List PV} : isiP (tbT "tuple") ib (.tup l) = .ok (.bl true) := nr (by kernel_rfl)
@[simp] theorem isx_ins {tb : String → Option Bool} {c : Nat} {fs : List (Str × PV)} : isiP tb ib (.ins c fs) = R.of ((ib c).map PV.bl) := nr rfl
end
end L3
namespace X4
open PySem PySem.Spec PyProof.Rows L2 He
def ownB (x : Str) (nm : String) (mth : Str) : Ck := fun K => eqO (PySem.W.findIn K (.ref (ga K x)) (PySem.dunder nm)) (some (some (.ref (ma K (ga K x) mth)))) && (PySem.W.isFn K (.ref (ma K (ga K x) mth)) && (PySem.W.selfFirst K (ga K x) &&
  (eqO (PySem.W.findIn K (.ref (ga K x)) (PySem.dunderR nm)) (some none) && ((PySem.W.findIn K (.type "int") (PySem.dunder nm)).isSome && ((PySem.W.findIn K (.type "int") (PySem.dunderR nm)).isSome && decide (PySem.W.subIn K (.type "int") (.ref (ga K x)) = some false))))))
theorem own_ok {K : PySem.W.Frag} {x : Str} {nm : String} {mth : Str} (c : ownB x nm mth K = true) : L3.OwnOp K (ga K x) (ma K (ga K x) mth) nm := by
  obtain ⟨c1, c⟩ := ba c
  obtain ⟨c2, c⟩ := ba c
  obtain ⟨c3, c⟩ := ba c
  obtain ⟨c4, c⟩ := ba c
  obtain ⟨c5, c⟩ := ba c
  obtain ⟨c6, c7⟩ := ba c
  exact ⟨eqO_ok c1, c2, c3, eqO_ok c4, c5, c6, of_decide_eq_true c7⟩
end X4

end
section

/-! The plain functions of the defs, as gen.py prints them. -/
namespace K02
open PySem PySem.Spec PyProof.Rows L2 L3
-- class 0: Fault
-- class 1: BadAmount
-- class 2: TooMany
-- class 3: BadStair
-- class 4: Stair
def ok_heights : Nat → Bool := fun c => c == 4
def ok_rise : Nat → Bool := fun c => c == 4
def ok_start : Nat → Bool := fun c => c == 4
def ok_step : Nat → Bool := fun c => c == 4
def okx_amount : Nat → Bool := fun c => c == 1
def okx_limit : Nat → Bool := fun c => c == 2
def mt_BadAmount : Nat → Option Bool := fun c => if c = 0 then some false else if c = 1 then some true else if c = 2 then some false else if c = 3 then some false else none
def mt_BadStair : Nat → Option Bool := fun c => if c = 0 then some false else if c = 1 then some false else if c = 2 then some false else if c = 3 then some true else none
def mt_TooMany : Nat → Option Bool := fun c => if c = 0 then some false else if c = 1 then some false else if c = 2 then some true else if c = 3 then some false else none
def ib_BadAmount : Nat → Option Bool := fun c => if c = 0 then some false else if c = 1 then some true else if c = 2 then some false else if c = 3 then some false else none
def ib_BadStair : Nat → Option Bool := fun c => if c = 0 then some false else if c = 1 then some false else if c = 2 then some false else if c = 3 then some true else none
def ib_Fault : Nat → Option Bool := fun c => if c = 0 then some true else if c = 1 then some true else if c = 2 then some true else if c = 3 then some true else none
def ibc_int : Nat → Option Bool := fun c => if c = 4 then some false else none
def ic_Stair : Nat → Option Bool := fun c => if c = 4 then some true else none
def tb_Stair : String → Option Bool := fun s => if s = "tuple" ∨ s = "int" ∨ s = "list" ∨ s = "str" ∨ s = "NoneType" ∨ s = "bool" then some false else none
theorem nrr {α : Sort _} {a b : α} (h : a = b) : a = b := h
@[simp] theorem ok_heights_4 : ok_heights 4 = true := nrr rfl
@[simp] theorem ok_rise_4 : ok_rise 4 = true := nrr rfl
@[simp] theorem ok_start_4 : ok_start 4 = true := nrr rfl
@[simp] theorem ok_step_4 : ok_step 4 = true := nrr rfl
@[simp] theorem okx_amount_0 : okx_amount 0 = false := nrr rfl
@[simp] theorem okx_amount_1 : okx_amount 1 = true := nrr rfl
@[simp] theorem okx_amount_2 : okx_amount 2 = false := nrr rfl
@[simp] theorem okx_amount_3 : okx_amount 3 = false := nrr rfl
@[simp] theorem okx_limit_0 : okx_limit 0 = false := nrr rfl
@[simp] theorem okx_limit_1 : okx_limit 1 = false := nrr rfl
@[simp] theorem okx_limit_2 : okx_limit 2 = true := nrr rfl
@[simp] theorem okx_limit_3 : okx_limit 3 = false := nrr rfl
@[simp] theorem ibc_int_4 : ibc_int 4 = some false := nrr rfl
@[simp] theorem mt_BadAmount_0 : mt_BadAmount 0 = some false := nrr rfl
@[simp] theorem mt_BadAmount_1 : mt_BadAmount 1 = some true := nrr rfl
@[simp] theorem mt_BadAmount_2 : mt_BadAmount 2 = some false := nrr rfl
@[simp] theorem mt_BadAmount_3 : mt_BadAmount 3 = some false := nrr rfl
@[simp] theorem mt_BadStair_0 : mt_BadStair 0 = some false := nrr rfl
@[simp] theorem mt_BadStair_1 : mt_BadStair 1 = some false := nrr rfl
@[simp] theorem mt_BadStair_2 : mt_BadStair 2 = some false := nrr rfl
@[simp] theorem mt_BadStair_3 : mt_BadStair 3 = some true := nrr rfl
@[simp] theorem mt_TooMany_0 : mt_TooMany 0 = some false := nrr rfl
@[simp] theorem mt_TooMany_1 : mt_TooMany 1 = some false := nrr rfl
@[simp] theorem mt_TooMany_2 : mt_TooMany 2 = some true := nrr rfl
@[simp] theorem mt_TooMany_3 : mt_TooMany 3 = some false := nrr rfl
@[simp] theorem ib_BadAmount_0 : ib_BadAmount 0 = some false := nrr rfl
@[simp] theorem ib_BadAmount_1 : ib_BadAmount 1 = some true := nrr rfl
@[simp] theorem ib_BadAmount_2 : ib_BadAmount 2 = some false := nrr rfl
@[simp] theorem ib_BadAmount_3 : ib_BadAmount 3 = some false := nrr rfl
@[simp] theorem ib_BadStair_0 : ib_BadStair 0 = some false := nrr rfl
@[simp] theorem ib_BadStair_1 : ib_BadStair 1 = some false := nrr rfl
@[simp] theorem ib_BadStair_2 : ib_BadStair 2 = some false := nrr rfl
@[simp] theorem ib_BadStair_3 : ib_BadStair 3 = some true := nrr rfl
@[simp] theorem ib_Fault_0 : ib_Fault 0 = some true := nrr rfl
@[simp] theorem ib_Fault_1 : ib_Fault 1 = some true := nrr rfl
@[simp] theorem ib_Fault_2 : ib_Fault 2 = some true := nrr rfl
@[simp] theorem ib_Fault_3 : ib_Fault 3 = some true := nrr rfl
@[simp] theorem ic_Stair_4 : ic_Stair 4 = some true := nrr rfl
/-- lesser: slots 0 x, 1 y -/
def s_lesser  : L3.Env → RS := (sSeq (sIf (eTst (eIsN (eVar 0))) (sRt (mSh (eVar 1))) sNx) (sSeq (sIf (bOr (eTst (eIsN (eVar 1))) (eTst (eBin pyLe (eVar 0) (eVar 1)))) (sRt (mSh (eVar 0))) sNx) (sRt (mSh (eVar 1)))))
def F_lesser : List PV → R OV := defF 2 2 s_lesser
theorem F_lesser_at {a0 a1 : PV} : F_lesser [a0, a1] = outS (s_lesser [some (.sh a0), some (.sh a1)]) := rfl
/-- greater: slots 0 x, 1 y -/
def s_greater  : L3.Env → RS := (sSeq (sIf (bOr (eTst (eIsN (eVar 0))) (eTst (eIsN (eVar 1)))) (sRt (mSh (eCst .non))) sNx) (sSeq (sIf (eTst (eBin pyGe (eVar 0) (eVar 1))) (sRt (mSh (eVar 0))) sNx) (sRt (mSh (eVar 1)))))
def F_greater : List PV → R OV := defF 2 2 s_greater
theorem F_greater_at {a0 a1 : PV} : F_greater [a0, a1] = outS (s_greater [some (.sh a0), some (.sh a1)]) := rfl
/-- added: slots 0 x, 1 number -/
def s_added  : L3.Env → RS := (sSeq (sIf (eTst (eIsN (eVar 0))) (sRt (mSh (eCst .non))) sNx) (sRt (mSh (eBin pyAdd (eVar 0) (eVar 1)))))
def F_added : List PV → R OV := defF 2 2 s_added
theorem F_added_at {a0 a1 : PV} : F_added [a0, a1] = outS (s_added [some (.sh a0), some (.sh a1)]) := rfl
/-- check_heights: slots 0 heights, 1 step, 2 rise, 3 last, 4 height, 5 first -/
def b_check_heights_1 : L3.Env → RS := (sSeq (sIf (bAnd (eTst (eIsN (eVar 3))) (eTst (eNotN (eVar 4)))) (sRzP 3) sNx) (sSeq (sIf (bAnd (eTst (eNotN (eVar 3))) (bAnd (eTst (eNotN (eVar 4))) (eTst (eBin pyLt (eVar 4) (eVar 3))))) (sRzP 3) sNx) (sSet 3 (mSh (eVar 4)))))
def s_check_heights  : L3.Env → RS := (sSeq (sIf (bOr (eTst (eBin pyLt (eVar 1) (eCst (.int 1)))) (eTst (eBin pyLt (eB bLen (aCons (eVar 0) aNil)) (eVar 1)))) (sRzP 3) sNx) (sSeq (sSet 3 (mSh (eCst (.int 0)))) (sSeq (sFor (.nm 4) [4] (iSeq (eVar 0)) b_check_heights_1) (sSeq (sSet 5 (mSh (eIdx (eVar 0) (eBin pySub (eB bLen (aCons (eVar 0) aNil)) (eVar 1))))) (sSeq (sIf (bAnd (eTst (eIsN (eVar 2))) (eTst (eNotN (eVar 5)))) (sRzP 3) sNx) (sIf (bAnd (eTst (eNotN (eVar 2))) (bOr (eTst (eIsN (eVar 3))) (eTst (eBin pyGt (eVar 3) (eBin pyAdd (eVar 5) (eVar 2)))))) (sRzP 3) sNx))))))
def F_check_heights : List PV → R OV := defF 6 3 s_check_heights
theorem F_check_heights_at {a0 a1 a2 : PV} : F_check_heights [a0, a1, a2] = outS (s_check_heights [some (.sh a0), some (.sh a1), some (.sh a2), none, none, none]) := rfl
/-- least_step: slots 0 heights, 1 step, 2 rise, 3 start, 4 part, 5 part_rise, 6 k -/
def c_least_step_1 : L3.Env → R OV := (fSh (eBin pyEq (eIdx (eVar 0) (eBin pyAdd (eVar 6) (eVar 4))) (eBin pyAdd (eIdx (eVar 0) (eVar 6)) (eVar 5))))
def b_least_step_1 : L3.Env → RS := (sIf (bAnd (eTst (eBin pyEq (eBin pyMod (eVar 1) (eVar 4)) (eCst (.int 0)))) (eTst (eBin pyEq (eBin pyMod (eBin pyMul (eVar 2) (eVar 4)) (eVar 1)) (eCst (.int 0))))) (sSeq (sSet 5 (mSh (eBin pyFdiv (eBin pyMul (eVar 2) (eVar 4)) (eVar 1)))) (sIf (eTst (eB bAll (aCons (eFz (fLc (.nm 6) [6] (iRg rng2R (aCons (eVar 3) (aCons (eBin pySub (eBin pyAdd (eVar 3) (eVar 1)) (eVar 4)) aNil))) tYesB c_least_step_1)) aNil))) (sRt (mSh (eVar 4))) sNx)) sNx)
def s_least_step  : L3.Env → RS := (sSeq (sSet 3 (mSh (eBin pySub (eB bLen (aCons (eVar 0) aNil)) (eVar 1)))) (sSeq (sFor (.nm 4) [4, 5] (iRg rng2R (aCons (eCst (.int 1)) (aCons (eVar 1) aNil))) b_least_step_1) (sRt (mSh (eVar 1)))))
def F_least_step : List PV → R OV := defF 7 3 s_least_step
theorem F_least_step_at {a0 a1 a2 : PV} : F_least_step [a0, a1, a2] = outS (s_least_step [some (.sh a0), some (.sh a1), some (.sh a2), none, none, none, none]) := rfl
/-- Stair.at: slots 0 self, 1 amount, 2 turns -/
def s_Stair_at  : L3.Env → RS := (sSeq (sIf (eTst (eBin pyLt (eVar 1) (eCst (.int 0)))) (sRz 1 "amount" (eVar 1)) sNx) (sSeq (sIf (eTst (eBin pyLt (eVar 1) (eB bLen (aCons (eFld "heights" ok_heights (eVar 0)) aNil)))) (sRt (mSh (eIdx (eFld "heights" ok_heights (eVar 0)) (eVar 1)))) sNx) (sSeq (sIf (eTst (eIsN (eFld "rise" ok_rise (eVar 0)))) (sRt (mSh (eCst .non))) sNx) (sSeq (sSet 2 (mSh (eBin pyFdiv (eBin pySub (eVar 1) (eFld "start" ok_start (eVar 0))) (eFld "step" ok_step (eVar 0))))) (sRt (mSh (eBin pyAdd (eIdx (eFld "heights" ok_heights (eVar 0)) (eBin pySub (eVar 1) (eBin pyMul (eVar 2) (eFld "step" ok_step (eVar 0))))) (eBin pyMul (eVar 2) (eFld "rise" ok_rise (eVar 0))))))))))
def F_Stair_at : List PV → R OV := defF 3 2 s_Stair_at
theorem F_Stair_at_at {a0 a1 : PV} : F_Stair_at [a0, a1] = outS (s_Stair_at [some (.sh a0), some (.sh a1), none]) := rfl
/-- Stair.__eq__: slots 0 self, 1 other -/
def s_Stair_eq  : L3.Env → RS := (sSeq (sIf (bNot (eTst (eIsi tb_Stair ic_Stair (eVar 1)))) (sRt (mSh (eCst (.bl false)))) sNx) (sRt (mSh (eAnd (eBin pyEq (eFld "heights" ok_heights (eVar 0)) (eFld "heights" ok_heights (eVar 1))) (eAnd (eBin pyEq (eFld "step" ok_step (eVar 0)) (eFld "step" ok_step (eVar 1))) (eBin pyEq (eFld "rise" ok_rise (eVar 0)) (eFld "rise" ok_rise (eVar 1))))))))
def F_Stair_eq : List PV → R OV := defF 2 2 s_Stair_eq
theorem F_Stair_eq_at {a0 a1 : PV} : F_Stair_eq [a0, a1] = outS (s_Stair_eq [some (.sh a0), some (.sh a1)]) := rfl
/-- first_none: slots 0 one, 1 two, 2 starts, 3 stair -/
def t_first_none_1 : L3.Env → R Bool := (eTst (eIsN (eFld "rise" ok_rise (eVar 3))))
def c_first_none_1 : L3.Env → R OV := (fSh (eFld "start" ok_start (eVar 3)))
def s_first_none  : L3.Env → RS := (sSeq (sSet 2 (mFr (fLc (.nm 3) [3] (iSeq (eTup (aCons (eVar 0) (aCons (eVar 1) aNil)))) t_first_none_1 c_first_none_1))) (sFz 2 (sRt (mSh (eB bMin (aCons (eVar 2) aNil))))))
def F_first_none : List PV → R OV := defF 4 2 s_first_none
theorem F_first_none_at {a0 a1 : PV} : F_first_none [a0, a1] = outS (s_first_none [some (.sh a0), some (.sh a1), none, none]) := rfl
/-- _law_cell: slots 0 script, 1 k -/
def s_p_law_cell  : L3.Env → RS := (sSeq (sIf (eTst (eBin pyLt (eVar 1) (eB bLen (aCons (eVar 0) aNil)))) (sRt (mSh (eIdx (eVar 0) (eVar 1)))) sNx) (sRt (mSh (eCst (.int 0)))))
def F_p_law_cell : List PV → R OV := defF 2 2 s_p_law_cell
theorem F_p_law_cell_at {a0 a1 : PV} : F_p_law_cell [a0, a1] = outS (s_p_law_cell [some (.sh a0), some (.sh a1)]) := rfl
/-- _law_numbers: slots 0 cell, 1 salt, 2 count, 3 many, 4 numbers, 5 rest, 6 great, 7 k, 8 mixed -/
def b_p_law_numbers_1 : L3.Env → RS := (sIf (bAnd (eTst (eVar 6)) (eTst (eBin pyGt (eVar 5) (eCst (.int 0))))) (sSeq (sApp (pVar 4) (mSh (eBin pyMod (eB bInt (aCons (eVar 5) aNil)) (eVar 3)))) (sSet 5 (mSh (eBin pyFdiv (eVar 5) (eVar 3))))) (sSeq (sSet 8 (mSh (eBin pyMod (eB bInt (aCons (eBin pyAdd (eBin pyAdd (eBin pyAdd (eB bAbs (aCons (eVar 0) aNil)) (eBin pyMul (eVar 1) (eCst (.int 7919)))) (eBin pyMul (eVar 7) (eCst (.int 104729)))) (eCst (.int 17))) aNil)) (eCst (.int 2147483647))))) (sSeq (sSet 8 (mSh (eBin pyMod (eB bInt (aCons (eBin pyAdd (eBin pyMul (eVar 8) (eCst (.int 48271))) (eCst (.int 5))) aNil)) (eCst (.int 2147483647))))) (sSeq (sSet 8 (mSh (eBin pyMod (eB bInt (aCons (eBin pyAdd (eBin pyAdd (eBin pyMul (eVar 8) (eVar 8)) (eBin pyMul (eVar 8) (eCst (.int 69621)))) (eBin pyMul (eVar 7) (eCst (.int 31)))) aNil)) (eCst (.int 2147483629))))) (sApp (pVar 4) (mSh (eBin pyMod (eB bInt (aCons (eBin pyFdiv (eVar 8) (eCst (.int 7))) aNil)) (eVar 3))))))))
def s_p_law_numbers  : L3.Env → RS := (sSeq (sSet 4 (mFr (fLst aNil))) (sSeq (sSet 5 (mSh (eB bAbs (aCons (eVar 0) aNil)))) (sSeq (sSet 6 (mSh (eBin pyGe (eVar 5) (eBin pyPow (eCst (.int 10)) (eCst (.int 18)))))) (sSeq (sFor (.nm 7) [7, 8] (iRg rng1R (aCons (eVar 2) aNil)) b_p_law_numbers_1) (sRt (mMv 4))))))
def F_p_law_numbers : List PV → R OV := defF 9 4 s_p_law_numbers
theorem F_p_law_numbers_at {a0 a1 a2 a3 : PV} : F_p_law_numbers [a0, a1, a2, a3] = outS (s_p_law_numbers [some (.sh a0), some (.sh a1), some (.sh a2), some (.sh a3), none, none, none, none, none]) := rfl
/-- _law_is: slots 0 actual, 1 expected -/
def s_p_law_is  : L3.Env → RS := (sSeq (sIf (eTst (eIsN (eVar 1))) (sRt (mSh (eIsN (eVar 0)))) sNx) (sRt (mSh (eAnd (eIsi (tbT "int") ibc_int (eVar 0)) (eAnd (eNot (eIsi (tbT "bool") ibN (eVar 0))) (eBin pyEq (eVar 0) (eVar 1)))))))
def F_p_law_is : List PV → R OV := defF 2 2 s_p_law_is
theorem F_p_law_is_at {a0 a1 : PV} : F_p_law_is [a0, a1] = outS (s_p_law_is [some (.sh a0), some (.sh a1)]) := rfl
/-- _law_value: slots 0 heights, 1 step, 2 rise, 3 x, 4 start, 5 turns -/
def s_p_law_value  : L3.Env → RS := (sSeq (sIf (eTst (eBin pyLt (eVar 3) (eB bLen (aCons (eVar 0) aNil)))) (sRt (mSh (eIdx (eVar 0) (eVar 3)))) sNx) (sSeq (sIf (eTst (eIsN (eVar 2))) (sRt (mSh (eCst .non))) sNx) (sSeq (sSet 4 (mSh (eBin pySub (eB bLen (aCons (eVar 0) aNil)) (eVar 1)))) (sSeq (sSet 5 (mSh (eBin pyFdiv (eBin pySub (eVar 3) (eVar 4)) (eVar 1)))) (sRt (mSh (eBin pyAdd (eIdx (eVar 0) (eBin pyAdd (eVar 4) (eBin pyMod (eB bInt (aCons (eBin pySub (eVar 3) (eVar 4)) aNil)) (eVar 1)))) (eBin pyMul (eVar 5) (eVar 2)))))))))
def F_p_law_value : List PV → R OV := defF 6 4 s_p_law_value
theorem F_p_law_value_at {a0 a1 a2 a3 : PV} : F_p_law_value [a0, a1, a2, a3] = outS (s_p_law_value [some (.sh a0), some (.sh a1), some (.sh a2), some (.sh a3), none, none]) := rfl
/-- _law_least: slots 0 x, 1 y -/
def s_p_law_least  : L3.Env → RS := (sSeq (sIf (eTst (eIsN (eVar 0))) (sRt (mSh (eVar 1))) sNx) (sSeq (sIf (eTst (eIsN (eVar 1))) (sRt (mSh (eVar 0))) sNx) (sRt (mSh (eB bMin (aCons (eVar 0) (aCons (eVar 1) aNil)))))))
def F_p_law_least : List PV → R OV := defF 2 2 s_p_law_least
theorem F_p_law_least_at {a0 a1 : PV} : F_p_law_least [a0, a1] = outS (s_p_law_least [some (.sh a0), some (.sh a1)]) := rfl
/-- _law_greatest: slots 0 x, 1 y -/
def s_p_law_greatest  : L3.Env → RS := (sSeq (sIf (bOr (eTst (eIsN (eVar 0))) (eTst (eIsN (eVar 1)))) (sRt (mSh (eCst .non))) sNx) (sRt (mSh (eB bMax (aCons (eVar 0) (aCons (eVar 1) aNil))))))
def F_p_law_greatest : List PV → R OV := defF 2 2 s_p_law_greatest
theorem F_p_law_greatest_at {a0 a1 : PV} : F_p_law_greatest [a0, a1] = outS (s_p_law_greatest [some (.sh a0), some (.sh a1)]) := rfl
def fuel_normal_form : L3.Env → Nat := fun _ => 2000
/-- normal_form: slots 0 heights, 1 step, 2 rise, 3 part, 4 part_rise, 5 start -/
def b_normal_form_1 : L3.Env → RS := (sAugI 5 (fun a b => a - b) (eCst (.int 1)))
def s_normal_form  : L3.Env → RS := (sSeq (sIf (eTst (eIsN (eVar 2))) (sRt (mSh (eTup (aCons (eSl (eVar 0) oNone (oSome (eBin pyAdd (eMt ixG (eVar 0) (aCons (eCst .non) aNil)) (eCst (.int 1))))) (aCons (eCst (.int 1)) (aCons (eCst .non) aNil)))))) sNx) (sSeq (sSet 3 (mSh (eFz (fCall true F_least_step [] (aCons (eVar 0) (aCons (eVar 1) (aCons (eVar 2) aNil))))))) (sSeq (sSet 4 (mSh (eBin pyFdiv (eBin pyMul (eVar 2) (eVar 3)) (eVar 1)))) (sSeq (sSet 5 (mSh (eBin pySub (eB bLen (aCons (eVar 0) aNil)) (eVar 1)))) (sSeq (sWhile fuel_normal_form [] (bAnd (eTst (eBin pyGt (eVar 5) (eCst (.int 0)))) (eTst (eBin pyEq (eBin pyAdd (eIdx (eVar 0) (eBin pySub (eVar 5) (eCst (.int 1)))) (eVar 4)) (eIdx (eVar 0) (eBin pyAdd (eBin pySub (eVar 5) (eCst (.int 1))) (eVar 3)))))) b_normal_form_1) (sRt (mSh (eTup (aCons (eSl (eVar 0) oNone (oSome (eBin pyAdd (eVar 5) (eVar 3)))) (aCons (eVar 3) (aCons (eVar 4) aNil)))))))))))
def F_normal_form : List PV → R OV := defF 6 3 s_normal_form
theorem F_normal_form_at {a0 a1 a2 : PV} : F_normal_form [a0, a1, a2] = outS (s_normal_form [some (.sh a0), some (.sh a1), some (.sh a2), none, none, none]) := rfl
/-- Stair.first_above: slots 0 self, 1 number, 2 amount, 3 found, 4 turns -/
def b_Stair_first_above_1 : L3.Env → RS := (sIf (bOr (eTst (eIsN (eIdx (eFld "heights" ok_heights (eVar 0)) (eVar 2)))) (eTst (eBin pyGt (eIdx (eFld "heights" ok_heights (eVar 0)) (eVar 2)) (eVar 1)))) (sRt (mSh (eVar 2))) sNx)
def b_Stair_first_above_2 : L3.Env → RS := (sSeq (sSet 4 (mSh (eBin pyAdd (eBin pyFdiv (eBin pySub (eVar 1) (eIdx (eFld "heights" ok_heights (eVar 0)) (eVar 2))) (eFld "rise" ok_rise (eVar 0))) (eCst (.int 1))))) (sSet 3 (mSh (eFz (fCall true F_lesser [] (aCons (eVar 3) (aCons (eBin pyAdd (eVar 2) (eBin pyMul (eVar 4) (eFld "step" ok_step (eVar 0)))) aNil)))))))
def s_Stair_first_above  : L3.Env → RS := (sSeq (sFor (.nm 2) [2] (iRg rng1R (aCons (eB bLen (aCons (eFld "heights" ok_heights (eVar 0)) aNil)) aNil)) b_Stair_first_above_1) (sSeq (sIf (eTst (eBin pyEq (eFld "rise" ok_rise (eVar 0)) (eCst (.int 0)))) (sRt (mSh (eCst .non))) sNx) (sSeq (sSet 3 (mSh (eCst .non))) (sSeq (sFor (.nm 2) [2, 4] (iRg rng2R (aCons (eFld "start" ok_start (eVar 0)) (aCons (eB bLen (aCons (eFld "heights" ok_heights (eVar 0)) aNil)) aNil))) b_Stair_first_above_2) (sRt (mSh (eVar 3)))))))
def F_Stair_first_above : List PV → R OV := defF 5 2 s_Stair_first_above
theorem F_Stair_first_above_at {a0 a1 : PV} : F_Stair_first_above [a0, a1] = outS (s_Stair_first_above [some (.sh a0), some (.sh a1), none, none, none]) := rfl
/-- sum_at: slots 0 one, 1 two, 2 amount, 3 height -/
def s_sum_at  : L3.Env → RS := (sSeq (sSet 3 (mSh (eFz (fMeth true 4 "at" F_Stair_at [] (eVar 1) (aCons (eVar 2) aNil))))) (sSeq (sIf (eTst (eIsN (eVar 3))) (sRt (mSh (eCst .non))) sNx) (sRt (mSh (eFz (fCall true F_added [] (aCons (eFz (fMeth true 4 "at" F_Stair_at [] (eVar 0) (aCons (eVar 2) aNil))) (aCons (eVar 3) aNil))))))))
def F_sum_at : List PV → R OV := defF 4 3 s_sum_at
theorem F_sum_at_at {a0 a1 a2 : PV} : F_sum_at [a0, a1, a2] = outS (s_sum_at [some (.sh a0), some (.sh a1), some (.sh a2), none]) := rfl
/-- last_crossing: slots 0 slow, 1 fast, 2 step, 3 gain, 4 last, 5 base, 6 amount, 7 gap -/
def b_last_crossing_1 : L3.Env → RS := (sSeq (sSet 7 (mSh (eBin pySub (eFz (fMeth true 4 "at" F_Stair_at [] (eVar 0) (aCons (eVar 6) aNil))) (eFz (fMeth true 4 "at" F_Stair_at [] (eVar 1) (aCons (eVar 6) aNil)))))) (sIf (eTst (eBin pyGt (eVar 7) (eCst (.int 0)))) (sSet 4 (mSh (eB bMax (aCons (eVar 4) (aCons (eBin pyAdd (eVar 6) (eBin pyMul (eBin pyFdiv (eBin pySub (eVar 7) (eCst (.int 1))) (eVar 3)) (eVar 2))) aNil))))) sNx))
def s_last_crossing  : L3.Env → RS := (sSeq (sSet 2 (mSh (eB bLcm (aCons (eFld "step" ok_step (eVar 0)) (aCons (eFld "step" ok_step (eVar 1)) aNil))))) (sSeq (sSet 3 (mSh (eBin pySub (eBin pyMul (eFld "rise" ok_rise (eVar 1)) (eBin pyFdiv (eVar 2) (eFld "step" ok_step (eVar 1)))) (eBin pyMul (eFld "rise" ok_rise (eVar 0)) (eBin pyFdiv (eVar 2) (eFld "step" ok_step (eVar 0))))))) (sSeq (sSet 4 (mSh (eUn pyNeg (eCst (.int 1))))) (sSeq (sSet 5 (mSh (eB bMax (aCons (eFld "start" ok_start (eVar 0)) (aCons (eFld "start" ok_start (eVar 1)) aNil))))) (sSeq (sFor (.nm 6) [6, 7] (iRg rng2R (aCons (eVar 5) (aCons (eBin pyAdd (eVar 5) (eVar 2)) aNil))) b_last_crossing_1) (sRt (mSh (eVar 4))))))))
def F_last_crossing : List PV → R OV := defF 8 2 s_last_crossing
theorem F_last_crossing_at {a0 a1 : PV} : F_last_crossing [a0, a1] = outS (s_last_crossing [some (.sh a0), some (.sh a1), none, none, none, none, none, none]) := rfl
/-- sum_form: slots 0 one, 1 two, 2 step, 3 rise -/
def s_sum_form  : L3.Env → RS := (sSeq (sIf (bOr (eTst (eIsN (eFld "rise" ok_rise (eVar 0)))) (eTst (eIsN (eFld "rise" ok_rise (eVar 1))))) (sRt (mSh (eTup (aCons (eBin pyAdd (eFz (fCall true F_first_none [] (aCons (eVar 0) (aCons (eVar 1) aNil)))) (eCst (.int 1))) (aCons (eCst (.int 1)) (aCons (eCst .non) aNil)))))) sNx) (sSeq (sSet 2 (mSh (eB bLcm (aCons (eFld "step" ok_step (eVar 0)) (aCons (eFld "step" ok_step (eVar 1)) aNil))))) (sSeq (sSet 3 (mSh (eBin pyAdd (eBin pyMul (eFld "rise" ok_rise (eVar 0)) (eBin pyFdiv (eVar 2) (eFld "step" ok_step (eVar 0)))) (eBin pyMul (eFld "rise" ok_rise (eVar 1)) (eBin pyFdiv (eVar 2) (eFld "step" ok_step (eVar 1))))))) (sRt (mSh (eTup (aCons (eBin pyAdd (eB bMax (aCons (eFld "start" ok_start (eVar 0)) (aCons (eFld "start" ok_start (eVar 1)) aNil))) (eVar 2)) (aCons (eVar 2) (aCons (eVar 3) aNil)))))))))
def F_sum_form : List PV → R OV := defF 4 2 s_sum_form
theorem F_sum_form_at {a0 a1 : PV} : F_sum_form [a0, a1] = outS (s_sum_form [some (.sh a0), some (.sh a1), none, none]) := rfl
/-- _law_normal: slots 0 heights, 1 step, 2 rise, 3 k, 4 part, 5 up, 6 start, 7 x -/
def b_p_law_normal_1 : L3.Env → RS := (sIf (eTst (eIsN (eIdx (eVar 0) (eVar 3)))) (sRt (mSh (eFz (fLst (aCons (eSl (eVar 0) oNone (oSome (eBin pyAdd (eVar 3) (eCst (.int 1))))) (aCons (eCst (.int 1)) (aCons (eCst .non) aNil))))))) sNx)
def b_p_law_normal_2 : L3.Env → RS := (sSeq (sSet 7 (mSh (eBin pySub (eBin pySub (eB bLen (aCons (eVar 0) aNil)) (eCst (.int 1))) (eVar 3)))) (sIf (bAnd (eTst (eBin pyEq (eVar 6) (eBin pyAdd (eVar 7) (eCst (.int 1))))) (eTst (eBin pyEq (eFz (fCall true F_p_law_value [] (aCons (eVar 0) (aCons (eVar 1) (aCons (eVar 2) (aCons (eBin pyAdd (eVar 7) (eVar 4)) aNil)))))) (eBin pyAdd (eIdx (eVar 0) (eVar 7)) (eVar 5))))) (sSet 6 (mSh (eVar 7))) sNx))
def c_p_law_normal_1 : L3.Env → R OV := (fSh (eFz (fCall true F_p_law_value [] (aCons (eVar 0) (aCons (eVar 1) (aCons (eVar 2) (aCons (eVar 7) aNil)))))))
def b_p_law_normal_3 : L3.Env → RS := (sIf (eTst (eBin pyEq (eBin pyMod (eB bInt (aCons (eBin pyMul (eVar 2) (eVar 4)) aNil)) (eVar 1)) (eCst (.int 0)))) (sSeq (sSet 5 (mSh (eBin pyFdiv (eBin pyMul (eVar 2) (eVar 4)) (eVar 1)))) (sSeq (sSet 6 (mSh (eB bLen (aCons (eVar 0) aNil)))) (sSeq (sFor (.nm 3) [3] (iRg rng1R (aCons (eB bLen (aCons (eVar 0) aNil)) aNil)) b_p_law_normal_2) (sIf (eTst (eBin pyLe (eVar 6) (eBin pySub (eB bLen (aCons (eVar 0) aNil)) (eVar 1)))) (sRt (mSh (eFz (fLst (aCons (eFz (fLc (.nm 7) [7] (iRg rng1R (aCons (eBin pyAdd (eVar 6) (eVar 4)) aNil)) tYesB c_p_law_normal_1)) (aCons (eVar 4) (aCons (eVar 5) aNil))))))) sNx)))) sNx)
def s_p_law_normal  : L3.Env → RS := (sSeq (sIf (eTst (eIsN (eVar 2))) (sFor (.nm 3) [3] (iRg rng1R (aCons (eB bLen (aCons (eVar 0) aNil)) aNil)) b_p_law_normal_1) sNx) (sSeq (sFor (.nm 4) [3, 4, 5, 6] (iRg rng2R (aCons (eCst (.int 1)) (aCons (eBin pyAdd (eVar 1) (eCst (.int 1))) aNil))) b_p_law_normal_3) (sRt (mSh (eFz (fLst (aCons (eVar 0) (aCons (eVar 1) (aCons (eVar 2) aNil)))))))))
def F_p_law_normal : List PV → R OV := defF 8 3 s_p_law_normal
theorem F_p_law_normal_at {a0 a1 a2 : PV} : F_p_law_normal [a0, a1, a2] = outS (s_p_law_normal [some (.sh a0), some (.sh a1), some (.sh a2), none, none, none, none, none]) := rfl
/-- _law_same: slots 0 stair, 1 due, 2 told, 3 k -/
def b_p_law_same_1 : L3.Env → RS := (sIf (bNot (eTst (eFz (fCall true F_p_law_is [] (aCons (eIdx (eVar 2) (eVar 3)) (aCons (eIdx (eIdx (eVar 1) (eCst (.int 0))) (eVar 3)) aNil)))))) (sRt (mSh (eCst (.bl false)))) sNx)
def s_p_law_same  : L3.Env → RS := (sSeq (sSet 2 (mSh (eFld "heights" ok_heights (eVar 0)))) (sSeq (sIf (bOr (bNot (eTst (eIsi (tbT "tuple") ibN (eVar 2)))) (eTst (eBin pyNe (eB bLen (aCons (eVar 2) aNil)) (eB bLen (aCons (eIdx (eVar 1) (eCst (.int 0))) aNil))))) (sRt (mSh (eCst (.bl false)))) sNx) (sSeq (sFor (.nm 3) [3] (iRg rng1R (aCons (eB bLen (aCons (eVar 2) aNil)) aNil)) b_p_law_same_1) (sSeq (sIf (bNot (eTst (eFz (fCall true F_p_law_is [] (aCons (eFld "start" ok_start (eVar 0)) (aCons (eBin pySub (eB bLen (aCons (eIdx (eVar 1) (eCst (.int 0))) aNil)) (eIdx (eVar 1) (eCst (.int 1)))) aNil)))))) (sRt (mSh (eCst (.bl false)))) sNx) (sRt (mSh (eAnd (eFz (fCall true F_p_law_is [] (aCons (eFld "step" ok_step (eVar 0)) (aCons (eIdx (eVar 1) (eCst (.int 1))) aNil)))) (eFz (fCall true F_p_law_is [] (aCons (eFld "rise" ok_rise (eVar 0)) (aCons (eIdx (eVar 1) (eCst (.int 2))) aNil)))))))))))
def F_p_law_same : List PV → R OV := defF 4 2 s_p_law_same
theorem F_p_law_same_at {a0 a1 : PV} : F_p_law_same [a0, a1] = outS (s_p_law_same [some (.sh a0), some (.sh a1), none, none]) := rfl
/-- _law_told: slots 0 script, 1 salt, 2 n, 3 start, 4 step, 5 heights, 6 height, 7 up, 8 count, 9 rise, 10 wide, 11 size, 12 x -/
def b_p_law_told_1 : L3.Env → RS := (sSeq (sSet 6 (mSh (eBin pyAdd (eVar 6) (eVar 7)))) (sApp (pVar 5) (mSh (eVar 6))))
def c_p_law_told_1 : L3.Env → R OV := (fSh (eFz (fCall true F_p_law_value [] (aCons (eVar 5) (aCons (eVar 4) (aCons (eVar 9) (aCons (eVar 12) aNil)))))))
def s_p_law_told  : L3.Env → RS := (sSeq (sSet 2 (mSh (eFz (fCall true F_p_law_numbers [] (aCons (eFz (fCall true F_p_law_cell [] (aCons (eVar 0) (aCons (eVar 1) aNil)))) (aCons (eVar 1) (aCons (eCst (.int 8)) (aCons (eCst (.int 1000)) aNil)))))))) (sSeq (sSet 3 (mSh (eBin pyMod (eIdx (eVar 2) (eCst (.int 0))) (eCst (.int 5))))) (sSeq (sSet 4 (mSh (eBin pyAdd (eCst (.int 1)) (eBin pyMod (eIdx (eVar 2) (eCst (.int 1))) (eCst (.int 4)))))) (sSeq (sSet 5 (mFr (fLst aNil))) (sSeq (sSet 6 (mSh (eCst (.int 0)))) (sSeq (sFor (.nm 7) [7] (iSeq (eFz (fCall true F_p_law_numbers [] (aCons (eFz (fCall true F_p_law_cell [] (aCons (eVar 0) (aCons (eBin pyAdd (eVar 1) (eCst (.int 1))) aNil)))) (aCons (eBin pyAdd (eVar 1) (eCst (.int 50))) (aCons (eBin pyAdd (eVar 3) (eVar 4)) (aCons (eCst (.int 4)) aNil))))))) b_p_law_told_1) (sFz 5 (sSeq (sIf (eTst (eBin pyEq (eBin pyMod (eIdx (eVar 2) (eCst (.int 3))) (eCst (.int 6))) (eCst (.int 0)))) (sSeq (sSet 8 (mSh (eBin pyAdd (eCst (.int 1)) (eBin pyMod (eIdx (eVar 2) (eCst (.int 4))) (eCst (.int 3)))))) (sRt (mSh (eFz (fLst (aCons (eBin pyAdd (eSl (eVar 5) oNone (oSome (eVar 3))) (eBin pyMul (eFz (fLst (aCons (eCst .non) aNil))) (eVar 8))) (aCons (eBin pyAdd (eCst (.int 1)) (eBin pyMod (eIdx (eVar 2) (eCst (.int 5))) (eVar 8))) (aCons (eCst .non) aNil)))))))) sNx) (sSeq (sSet 9 (mSh (eBin pyAdd (eBin pySub (eIdx (eVar 5) (eUn pyNeg (eCst (.int 1)))) (eIdx (eVar 5) (eVar 3))) (eBin pyMod (eIdx (eVar 2) (eCst (.int 4))) (eCst (.int 4)))))) (sSeq (sSet 10 (mSh (eBin pyAdd (eCst (.int 1)) (eBin pyMod (eIdx (eVar 2) (eCst (.int 5))) (eCst (.int 3)))))) (sSeq (sSet 11 (mSh (eBin pyAdd (eBin pyAdd (eVar 3) (eBin pyMod (eIdx (eVar 2) (eCst (.int 6))) (eCst (.int 4)))) (eBin pyMul (eVar 4) (eVar 10))))) (sRt (mSh (eFz (fLst (aCons (eFz (fLc (.nm 12) [12] (iRg rng1R (aCons (eVar 11) aNil)) tYesB c_p_law_told_1)) (aCons (eBin pyMul (eVar 4) (eVar 10)) (aCons (eBin pyMul (eVar 9) (eVar 10)) aNil))))))))))))))))))
def F_p_law_told : List PV → R OV := defF 13 2 s_p_law_told
theorem F_p_law_told_at {a0 a1 : PV} : F_p_law_told [a0, a1] = outS (s_p_law_told [some (.sh a0), some (.sh a1), none, none, none, none, none, none, none, none, none, none, none]) := rfl
/-- _law_due: slots 0 deed, 1 x, 2 y, 3 ticks -/
def s_p_law_due  : L3.Env → RS := (sSeq (sIf (eTst (eBin pyEq (eVar 0) (eCst (.int 0)))) (sRt (mSh (eFz (fCall true F_p_law_least [] (aCons (eVar 1) (aCons (eVar 2) aNil)))))) sNx) (sSeq (sIf (eTst (eBin pyEq (eVar 0) (eCst (.int 1)))) (sRt (mSh (eFz (fCall true F_p_law_greatest [] (aCons (eVar 1) (aCons (eVar 2) aNil)))))) sNx) (sSeq (sIf (bOr (eTst (eIsN (eVar 1))) (bAnd (eTst (eBin pyEq (eVar 0) (eCst (.int 2)))) (eTst (eIsN (eVar 2))))) (sRt (mSh (eCst .non))) sNx) (sSeq (sIf (eTst (eBin pyEq (eVar 0) (eCst (.int 2)))) (sRt (mSh (eBin pyAdd (eVar 1) (eVar 2)))) sNx) (sSeq (sIf (eTst (eBin pyEq (eVar 0) (eCst (.int 3)))) (sRt (mSh (eBin pyAdd (eVar 1) (eVar 3)))) sNx) (sRt (mSh (eB bMax (aCons (eCst (.int 0)) (aCons (eBin pySub (eVar 1) (eVar 3)) aNil))))))))))
def F_p_law_due : List PV → R OV := defF 4 4 s_p_law_due
theorem F_p_law_due_at {a0 a1 a2 a3 : PV} : F_p_law_due [a0, a1, a2, a3] = outS (s_p_law_due [some (.sh a0), some (.sh a1), some (.sh a2), some (.sh a3)]) := rfl
/-- Stair.__init__: slots 0 self, 1 heights, 2 step, 3 rise, 4 given, 5 told, 6 part, 7 part_rise -/
def s_Stair_init  : L3.Env → RS := (sSeq (sSet 4 (mSh (eFz (fB bList (aCons (eVar 1) aNil))))) (sSeq (sDo (fCall true F_check_heights [] (aCons (eVar 4) (aCons (eVar 2) (aCons (eVar 3) aNil))))) (sSeq (sTg (.tp [5, 6, 7]) (eFz (fCall true F_normal_form [] (aCons (eVar 4) (aCons (eVar 2) (aCons (eVar 3) aNil)))))) (sSeq (sIf (eTst (eBin pyGt (eB bLen (aCons (eVar 5) aNil)) (eCst (.int 600)))) (sRz 2 "limit" (eCst (.int 600))) sNx) (sSeq (sFl (pVar 0) ok_heights "heights" (mSh (eB bTuple (aCons (eVar 5) aNil)))) (sSeq (sFl (pVar 0) ok_start "start" (mSh (eBin pySub (eB bLen (aCons (eVar 5) aNil)) (eVar 6)))) (sSeq (sFl (pVar 0) ok_step "step" (mSh (eVar 6))) (sFl (pVar 0) ok_rise "rise" (mSh (eVar 7))))))))))
def F_Stair_init : List PV → R (List (Str × OV)) := initF 8 4 4 s_Stair_init
theorem F_Stair_init_at {a0 a1 a2 : PV} : F_Stair_init [a0, a1, a2] = outI 4 (s_Stair_init [some (.obj 4 []), some (.sh a0), some (.sh a1), some (.sh a2), none, none, none, none]) := rfl
/-- crossed_form: slots 0 slow, 1 fast, 2 final, 3 last -/
def s_crossed_form  : L3.Env → RS := (sSeq (sSet 3 (mSh (eFz (fCall true F_last_crossing [] (aCons (eVar 0) (aCons (eVar 1) aNil)))))) (sSeq (sIf (eTst (eBin pyLt (eVar 3) (eCst (.int 0)))) (sRt (mSh (eTup (aCons (eBin pyAdd (eB bMax (aCons (eFld "start" ok_start (eVar 0)) (aCons (eFld "start" ok_start (eVar 1)) aNil))) (eFld "step" ok_step (eVar 2))) (aCons (eFld "step" ok_step (eVar 2)) (aCons (eFld "rise" ok_rise (eVar 2)) aNil)))))) sNx) (sSeq (sIf (eTst (eBin pyGt (eBin pyAdd (eBin pyAdd (eVar 3) (eCst (.int 1))) (eFld "step" ok_step (eVar 2))) (eCst (.int 600)))) (sRz 2 "limit" (eCst (.int 600))) sNx) (sRt (mSh (eTup (aCons (eBin pyAdd (eBin pyAdd (eVar 3) (eCst (.int 1))) (eFld "step" ok_step (eVar 2))) (aCons (eFld "step" ok_step (eVar 2)) (aCons (eFld "rise" ok_rise (eVar 2)) aNil)))))))))
def F_crossed_form : List PV → R OV := defF 4 3 s_crossed_form
theorem F_crossed_form_at {a0 a1 a2 : PV} : F_crossed_form [a0, a1, a2] = outS (s_crossed_form [some (.sh a0), some (.sh a1), some (.sh a2), none]) := rfl
/-- both_form: slots 0 one, 1 two, 2 least, 3 ahead, 4 step, 5 slow, 6 fast -/
def s_both_form  : L3.Env → RS := (sSeq (sSet 3 (mSh (eBin pySub (eBin pyMul (eFld "rise" ok_rise (eVar 0)) (eFld "step" ok_step (eVar 1))) (eBin pyMul (eFld "rise" ok_rise (eVar 1)) (eFld "step" ok_step (eVar 0)))))) (sSeq (sIf (eTst (eBin pyEq (eVar 3) (eCst (.int 0)))) (sSeq (sSet 4 (mSh (eB bLcm (aCons (eFld "step" ok_step (eVar 0)) (aCons (eFld "step" ok_step (eVar 1)) aNil))))) (sRt (mSh (eTup (aCons (eBin pyAdd (eB bMax (aCons (eFld "start" ok_start (eVar 0)) (aCons (eFld "start" ok_start (eVar 1)) aNil))) (eVar 4)) (aCons (eVar 4) (aCons (eBin pyMul (eFld "rise" ok_rise (eVar 0)) (eBin pyFdiv (eVar 4) (eFld "step" ok_step (eVar 0)))) aNil))))))) sNx) (sSeq (sSet 5 (mSh (eIf (eTst (eBin pyGt (eVar 3) (eCst (.int 0)))) (eVar 1) (eVar 0)))) (sSeq (sSet 6 (mSh (eIf (eTst (eBin pyGt (eVar 3) (eCst (.int 0)))) (eVar 0) (eVar 1)))) (sRt (mSh (eFz (fCall true F_crossed_form [] (aCons (eVar 5) (aCons (eVar 6) (aCons (eIf (eTst (eVar 2)) (eVar 5) (eVar 6)) aNil)))))))))))
def F_both_form : List PV → R OV := defF 7 3 s_both_form
theorem F_both_form_at {a0 a1 a2 : PV} : F_both_form [a0, a1, a2] = outS (s_both_form [some (.sh a0), some (.sh a1), some (.sh a2), none, none, none, none]) := rfl
/-- Stair.later: slots 0 self, 1 ticks, 2 size, 3 amount -/
def c_Stair_later_1 : L3.Env → R OV := (fSh (eFz (fMeth true 4 "at" F_Stair_at [] (eVar 0) (aCons (eBin pyAdd (eVar 3) (eVar 1)) aNil))))
def s_Stair_later  : L3.Env → RS := (sSeq (sIf (eTst (eBin pyLt (eVar 1) (eCst (.int 0)))) (sRz 1 "amount" (eVar 1)) sNx) (sSeq (sSet 2 (mSh (eBin pyAdd (eB bMax (aCons (eBin pySub (eFld "start" ok_start (eVar 0)) (eVar 1)) (aCons (eCst (.int 0)) aNil))) (eFld "step" ok_step (eVar 0))))) (sRt (mFr (fMake true 4 F_Stair_init [] (aCons (eFz (fLc (.nm 3) [3] (iRg rng1R (aCons (eVar 2) aNil)) tYesB c_Stair_later_1)) (aCons (eFld "step" ok_step (eVar 0)) (aCons (eFld "rise" ok_rise (eVar 0)) aNil))))))))
def F_Stair_later : List PV → R OV := defF 4 2 s_Stair_later
theorem F_Stair_later_at {a0 a1 : PV} : F_Stair_later [a0, a1] = outS (s_Stair_later [some (.sh a0), some (.sh a1), none, none]) := rfl
/-- Stair.lowered: slots 0 self, 1 ticks, 2 start, 3 heights, 4 amount, 5 height -/
def b_Stair_lowered_1 : L3.Env → RS := (sSeq (sSet 5 (mSh (eFz (fMeth true 4 "at" F_Stair_at [] (eVar 0) (aCons (eVar 4) aNil))))) (sApp (pVar 3) (mSh (eIf (eTst (eIsN (eVar 5))) (eCst .non) (eB bMax (aCons (eCst (.int 0)) (aCons (eBin pySub (eVar 5) (eVar 1)) aNil)))))))
def s_Stair_lowered  : L3.Env → RS := (sSeq (sIf (eTst (eBin pyLt (eVar 1) (eCst (.int 0)))) (sRz 1 "amount" (eVar 1)) sNx) (sSeq (sSet 2 (mSh (eFld "start" ok_start (eVar 0)))) (sSeq (sIf (bAnd (eTst (eNotN (eFld "rise" ok_rise (eVar 0)))) (eTst (eBin pyGt (eFld "rise" ok_rise (eVar 0)) (eCst (.int 0))))) (sSet 2 (mSh (eB bMax (aCons (eVar 2) (aCons (eFz (fMeth true 4 "first_above" F_Stair_first_above [] (eVar 0) (aCons (eBin pySub (eVar 1) (eCst (.int 1))) aNil))) aNil))))) sNx) (sSeq (sIf (eTst (eBin pyGt (eBin pyAdd (eVar 2) (eFld "step" ok_step (eVar 0))) (eCst (.int 600)))) (sRz 2 "limit" (eCst (.int 600))) sNx) (sSeq (sSet 3 (mFr (fLst aNil))) (sSeq (sFor (.nm 4) [4, 5] (iRg rng1R (aCons (eBin pyAdd (eVar 2) (eFld "step" ok_step (eVar 0))) aNil)) b_Stair_lowered_1) (sRt (mFr (fMake false 4 F_Stair_init [] (aCons (eOwn 3) (aCons (eFld "step" ok_step (eVar 0)) (aCons (eFld "rise" ok_rise (eVar 0)) aNil))))))))))))
def F_Stair_lowered : List PV → R OV := defF 6 2 s_Stair_lowered
theorem F_Stair_lowered_at {a0 a1 : PV} : F_Stair_lowered [a0, a1] = outS (s_Stair_lowered [some (.sh a0), some (.sh a1), none, none, none, none]) := rfl
/-- Stair.__add__: slots 0 self, 1 other, 2 size, 3 step, 4 rise, 5 height, 6 amount -/
def c_Stair_add_1 : L3.Env → R OV := (fSh (eFz (fCall true F_added [] (aCons (eVar 5) (aCons (eVar 1) aNil)))))
def c_Stair_add_2 : L3.Env → R OV := (fSh (eFz (fCall true F_sum_at [] (aCons (eVar 0) (aCons (eVar 1) (aCons (eVar 6) aNil))))))
def s_Stair_add  : L3.Env → RS := (sSeq (sIf (eTst (eIsi (tbT "int") ibc_int (eVar 1))) (sRt (mFr (fMake true 4 F_Stair_init [] (aCons (eFz (fLc (.nm 5) [5] (iSeq (eFld "heights" ok_heights (eVar 0))) tYesB c_Stair_add_1)) (aCons (eFld "step" ok_step (eVar 0)) (aCons (eFld "rise" ok_rise (eVar 0)) aNil)))))) sNx) (sSeq (sIf (bNot (eTst (eIsi tb_Stair ic_Stair (eVar 1)))) sNo sNx) (sSeq (sTg (.tp [2, 3, 4]) (eFz (fCall true F_sum_form [] (aCons (eVar 0) (aCons (eVar 1) aNil))))) (sRt (mFr (fMake true 4 F_Stair_init [] (aCons (eFz (fLc (.nm 6) [6] (iRg rng1R (aCons (eVar 2) aNil)) tYesB c_Stair_add_2)) (aCons (eVar 3) (aCons (eVar 4) aNil)))))))))
def F_Stair_add : List PV → R OV := defF 7 2 s_Stair_add
theorem F_Stair_add_at {a0 a1 : PV} : F_Stair_add [a0, a1] = outS (s_Stair_add [some (.sh a0), some (.sh a1), none, none, none, none, none]) := rfl
/-- lesser_form: slots 0 one, 1 two -/
def s_lesser_form  : L3.Env → RS := (sSeq (sIf (bAnd (eTst (eIsN (eFld "rise" ok_rise (eVar 0)))) (eTst (eIsN (eFld "rise" ok_rise (eVar 1))))) (sRt (mSh (eTup (aCons (eBin pyAdd (eB bMax (aCons (eFld "start" ok_start (eVar 0)) (aCons (eFld "start" ok_start (eVar 1)) aNil))) (eCst (.int 1))) (aCons (eCst (.int 1)) (aCons (eCst .non) aNil)))))) sNx) (sSeq (sIf (eTst (eIsN (eFld "rise" ok_rise (eVar 0)))) (sRt (mSh (eTup (aCons (eBin pyAdd (eB bMax (aCons (eFld "start" ok_start (eVar 0)) (aCons (eFld "start" ok_start (eVar 1)) aNil))) (eFld "step" ok_step (eVar 1))) (aCons (eFld "step" ok_step (eVar 1)) (aCons (eFld "rise" ok_rise (eVar 1)) aNil)))))) sNx) (sSeq (sIf (eTst (eIsN (eFld "rise" ok_rise (eVar 1)))) (sRt (mSh (eTup (aCons (eBin pyAdd (eB bMax (aCons (eFld "start" ok_start (eVar 0)) (aCons (eFld "start" ok_start (eVar 1)) aNil))) (eFld "step" ok_step (eVar 0))) (aCons (eFld "step" ok_step (eVar 0)) (aCons (eFld "rise" ok_rise (eVar 0)) aNil)))))) sNx) (sRt (mSh (eFz (fCall true F_both_form [] (aCons (eVar 0) (aCons (eVar 1) (aCons (eCst (.bl true)) aNil))))))))))
def F_lesser_form : List PV → R OV := defF 2 2 s_lesser_form
theorem F_lesser_form_at {a0 a1 : PV} : F_lesser_form [a0, a1] = outS (s_lesser_form [some (.sh a0), some (.sh a1)]) := rfl
/-- greater_form: slots 0 one, 1 two -/
def s_greater_form  : L3.Env → RS := (sSeq (sIf (bOr (eTst (eIsN (eFld "rise" ok_rise (eVar 0)))) (eTst (eIsN (eFld "rise" ok_rise (eVar 1))))) (sRt (mSh (eTup (aCons (eBin pyAdd (eFz (fCall true F_first_none [] (aCons (eVar 0) (aCons (eVar 1) aNil)))) (eCst (.int 1))) (aCons (eCst (.int 1)) (aCons (eCst .non) aNil)))))) sNx) (sRt (mSh (eFz (fCall true F_both_form [] (aCons (eVar 0) (aCons (eVar 1) (aCons (eCst (.bl false)) aNil))))))))
def F_greater_form : List PV → R OV := defF 2 2 s_greater_form
theorem F_greater_form_at {a0 a1 : PV} : F_greater_form [a0, a1] = outS (s_greater_form [some (.sh a0), some (.sh a1)]) := rfl
/-- _law_above: slots 0 f, 1 number, 2 told, 3 height, 4 before -/
def s_p_law_above  : L3.Env → RS := (sSeq (sSet 2 (mSh (eFz (fMeth true 4 "first_above" F_Stair_first_above [] (eFz (fMake true 4 F_Stair_init [] (aCons (eIdx (eVar 0) (eCst (.int 0))) (aCons (eIdx (eVar 0) (eCst (.int 1))) (aCons (eIdx (eVar 0) (eCst (.int 2))) aNil))))) (aCons (eVar 1) aNil))))) (sSeq (sIf (bAnd (eTst (eBin pyEq (eIdx (eVar 0) (eCst (.int 2))) (eCst (.int 0)))) (eTst (eBin pyLe (eIdx (eIdx (eVar 0) (eCst (.int 0))) (eUn pyNeg (eCst (.int 1)))) (eVar 1)))) (sRt (mSh (eIsN (eVar 2)))) sNx) (sSeq (sIf (bOr (bNot (eTst (eIsi (tbT "int") ibc_int (eVar 2)))) (bOr (eTst (eIsi (tbT "bool") ibN (eVar 2))) (eTst (eBin pyLt (eVar 2) (eCst (.int 0)))))) (sRt (mSh (eCst (.bl false)))) sNx) (sSeq (sSet 3 (mSh (eFz (fCall true F_p_law_value [] (aCons (eIdx (eVar 0) (eCst (.int 0))) (aCons (eIdx (eVar 0) (eCst (.int 1))) (aCons (eIdx (eVar 0) (eCst (.int 2))) (aCons (eVar 2) aNil)))))))) (sSeq (sIf (bAnd (eTst (eNotN (eVar 3))) (eTst (eBin pyLe (eVar 3) (eVar 1)))) (sRt (mSh (eCst (.bl false)))) sNx) (sSeq (sIf (eTst (eBin pyEq (eVar 2) (eCst (.int 0)))) (sRt (mSh (eCst (.bl true)))) sNx) (sSeq (sSet 4 (mSh (eFz (fCall true F_p_law_value [] (aCons (eIdx (eVar 0) (eCst (.int 0))) (aCons (eIdx (eVar 0) (eCst (.int 1))) (aCons (eIdx (eVar 0) (eCst (.int 2))) (aCons (eBin pySub (eVar 2) (eCst (.int 1))) aNil)))))))) (sRt (mSh (eAnd (eNotN (eVar 4)) (eBin pyLe (eVar 4) (eVar 1))))))))))))
def F_p_law_above : List PV → R OV := defF 5 2 s_p_law_above
theorem F_p_law_above_at {a0 a1 : PV} : F_p_law_above [a0, a1] = outS (s_p_law_above [some (.sh a0), some (.sh a1), none, none, none]) := rfl
/-- Stair.__and__: slots 0 self, 1 other, 2 size, 3 step, 4 rise, 5 amount -/
def c_Stair_and_1 : L3.Env → R OV := (fSh (eFz (fCall true F_lesser [] (aCons (eFz (fMeth true 4 "at" F_Stair_at [] (eVar 0) (aCons (eVar 5) aNil))) (aCons (eFz (fMeth true 4 "at" F_Stair_at [] (eVar 1) (aCons (eVar 5) aNil))) aNil)))))
def s_Stair_and  : L3.Env → RS := (sSeq (sIf (bNot (eTst (eIsi tb_Stair ic_Stair (eVar 1)))) sNo sNx) (sSeq (sTg (.tp [2, 3, 4]) (eFz (fCall true F_lesser_form [] (aCons (eVar 0) (aCons (eVar 1) aNil))))) (sRt (mFr (fMake true 4 F_Stair_init [] (aCons (eFz (fLc (.nm 5) [5] (iRg rng1R (aCons (eVar 2) aNil)) tYesB c_Stair_and_1)) (aCons (eVar 3) (aCons (eVar 4) aNil))))))))
def F_Stair_and : List PV → R OV := defF 6 2 s_Stair_and
theorem F_Stair_and_at {a0 a1 : PV} : F_Stair_and [a0, a1] = outS (s_Stair_and [some (.sh a0), some (.sh a1), none, none, none, none]) := rfl
/-- Stair.__or__: slots 0 self, 1 other, 2 size, 3 step, 4 rise, 5 amount -/
def c_Stair_or_1 : L3.Env → R OV := (fSh (eFz (fCall true F_greater [] (aCons (eFz (fMeth true 4 "at" F_Stair_at [] (eVar 0) (aCons (eVar 5) aNil))) (aCons (eFz (fMeth true 4 "at" F_Stair_at [] (eVar 1) (aCons (eVar 5) aNil))) aNil)))))
def s_Stair_or  : L3.Env → RS := (sSeq (sIf (bNot (eTst (eIsi tb_Stair ic_Stair (eVar 1)))) sNo sNx) (sSeq (sTg (.tp [2, 3, 4]) (eFz (fCall true F_greater_form [] (aCons (eVar 0) (aCons (eVar 1) aNil))))) (sRt (mFr (fMake true 4 F_Stair_init [] (aCons (eFz (fLc (.nm 5) [5] (iRg rng1R (aCons (eVar 2) aNil)) tYesB c_Stair_or_1)) (aCons (eVar 3) (aCons (eVar 4) aNil))))))))
def F_Stair_or : List PV → R OV := defF 6 2 s_Stair_or
theorem F_Stair_or_at {a0 a1 : PV} : F_Stair_or [a0, a1] = outS (s_Stair_or [some (.sh a0), some (.sh a1), none, none, none, none]) := rfl
/-- _law_equals: slots 0 f, 1 g, 2 one -/
def s_p_law_equals  : L3.Env → RS := (sSeq (sSet 2 (mSh (eFz (fMake true 4 F_Stair_init [] (aCons (eIdx (eVar 0) (eCst (.int 0))) (aCons (eIdx (eVar 0) (eCst (.int 1))) (aCons (eIdx (eVar 0) (eCst (.int 2))) aNil))))))) (sSeq (sIf (bOr (bNot (eTst (eEqO false 4 F_Stair_eq (eVar 2) (eFz (fMake true 4 F_Stair_init [] (aCons (eIdx (eVar 0) (eCst (.int 0))) (aCons (eIdx (eVar 0) (eCst (.int 1))) (aCons (eIdx (eVar 0) (eCst (.int 2))) aNil)))))))) (eTst (eEqO true 4 F_Stair_eq (eVar 2) (eFz (fMake true 4 F_Stair_init [] (aCons (eIdx (eVar 0) (eCst (.int 0))) (aCons (eIdx (eVar 0) (eCst (.int 1))) (aCons (eIdx (eVar 0) (eCst (.int 2))) aNil)))))))) (sRt (mSh (eCst (.bl false)))) sNx) (sSeq (sIf (eTst (eBin pyNe (eEqO false 4 F_Stair_eq (eVar 2) (eFz (fMake true 4 F_Stair_init [] (aCons (eIdx (eVar 1) (eCst (.int 0))) (aCons (eIdx (eVar 1) (eCst (.int 1))) (aCons (eIdx (eVar 1) (eCst (.int 2))) aNil)))))) (eBin pyEq (eFz (fCall true F_p_law_normal [] (aCons (eIdx (eVar 0) (eCst (.int 0))) (aCons (eIdx (eVar 0) (eCst (.int 1))) (aCons (eIdx (eVar 0) (eCst (.int 2))) aNil))))) (eFz (fCall true F_p_law_normal [] (aCons (eIdx (eVar 1) (eCst (.int 0))) (aCons (eIdx (eVar 1) (eCst (.int 1))) (aCons (eIdx (eVar 1) (eCst (.int 2))) aNil)))))))) (sRt (mSh (eCst (.bl false)))) sNx) (sRt (mSh (eBin pyEq (eEqO false 4 F_Stair_eq (eVar 2) (eFz (fBinO true 4 F_Stair_add (eVar 2) (eCst (.int 1))))) (eIsN (eIdx (eIdx (eVar 0) (eCst (.int 0))) (eCst (.int 0))))))))))
def F_p_law_equals : List PV → R OV := defF 3 2 s_p_law_equals
theorem F_p_law_equals_at {a0 a1 : PV} : F_p_law_equals [a0, a1] = outS (s_p_law_equals [some (.sh a0), some (.sh a1), none]) := rfl
/-- _law_refusals: slots 0 f, 1 ticks, 2 one, 3 found, 4 e -/
def s_p_law_refusals  : L3.Env → RS := (sSeq (sSet 2 (mSh (eFz (fMake true 4 F_Stair_init [] (aCons (eIdx (eVar 0) (eCst (.int 0))) (aCons (eIdx (eVar 0) (eCst (.int 1))) (aCons (eIdx (eVar 0) (eCst (.int 2))) aNil))))))) (sSeq (sSet 3 (mSh (eCst (.int 0)))) (sSeq (sTry (sDo (fMeth true 4 "later" F_Stair_later [] (eVar 2) (aCons (eBin pySub (eUn pyNeg (eCst (.int 1))) (eVar 1)) aNil))) (⟨mt_BadAmount, some 4, fun x => (sSet 3 (mSh (eBin pyAdd (eVar 3) (eB bInt (aCons (eAnd (eFz (fCall true F_p_law_is [] (aCons (eXf okx_amount x "amount") (aCons (eBin pySub (eUn pyNeg (eCst (.int 1))) (eVar 1)) aNil)))) (eXi ib_Fault x)) aNil)))))⟩ :: [])) (sSeq (sTry (sDo (fMeth true 4 "lowered" F_Stair_lowered [] (eVar 2) (aCons (eBin pySub (eUn pyNeg (eCst (.int 1))) (eVar 1)) aNil))) (⟨mt_BadAmount, some 4, fun x => (sSet 3 (mSh (eBin pyAdd (eVar 3) (eB bInt (aCons (eAnd (eFz (fCall true F_p_law_is [] (aCons (eXf okx_amount x "amount") (aCons (eBin pySub (eUn pyNeg (eCst (.int 1))) (eVar 1)) aNil)))) (eNot (eXi ib_BadStair x))) aNil)))))⟩ :: [])) (sSeq (sIf (eTst (eIsN (eIdx (eIdx (eVar 0) (eCst (.int 0))) (eCst (.int 0))))) (sRt (mSh (eBin pyEq (eVar 3) (eCst (.int 2))))) sNx) (sSeq (sTry (sSet 3 (mSh (eBin pyAdd (eVar 3) (eBin pyMul (eCst (.int 10)) (eB bLen (aCons (eFld "heights" ok_heights (eFz (fBinO true 4 F_Stair_add (eVar 2) (eBin pySub (eUn pyNeg (eCst (.int 1))) (eIdx (eIdx (eVar 0) (eCst (.int 0))) (eCst (.int 0))))))) aNil)))))) (⟨mt_BadStair, some 4, fun x => (sSet 3 (mSh (eBin pyAdd (eVar 3) (eB bInt (aCons (eAnd (eXi ib_Fault x) (eNot (eXi ib_BadAmount x))) aNil)))))⟩ :: [])) (sRt (mSh (eAnd (eBin pyEq (eVar 3) (eCst (.int 3))) (eBin pyEq (eFz (fMeth true 4 "at" F_Stair_at [] (eFz (fBinO true 4 F_Stair_add (eVar 2) (eBin pySub (eCst (.int 0)) (eIdx (eIdx (eVar 0) (eCst (.int 0))) (eCst (.int 0)))))) (aCons (eCst (.int 0)) aNil))) (eCst (.int 0))))))))))))
def F_p_law_refusals : List PV → R OV := defF 5 2 s_p_law_refusals
theorem F_p_law_refusals_at {a0 a1 : PV} : F_p_law_refusals [a0, a1] = outS (s_p_law_refusals [some (.sh a0), some (.sh a1), none, none, none]) := rfl
/-- _law_made: slots 0 deed, 1 one, 2 two, 3 ticks -/
def s_p_law_made  : L3.Env → RS := (sSeq (sIf (eTst (eBin pyEq (eVar 0) (eCst (.int 0)))) (sRt (mFr (fBinO true 4 F_Stair_and (eVar 1) (eVar 2)))) sNx) (sSeq (sIf (eTst (eBin pyEq (eVar 0) (eCst (.int 1)))) (sRt (mFr (fBinO true 4 F_Stair_or (eVar 1) (eVar 2)))) sNx) (sSeq (sIf (eTst (eBin pyEq (eVar 0) (eCst (.int 2)))) (sRt (mFr (fBinO true 4 F_Stair_add (eVar 1) (eVar 2)))) sNx) (sSeq (sIf (eTst (eBin pyEq (eVar 0) (eCst (.int 3)))) (sRt (mFr (fBinO true 4 F_Stair_add (eVar 1) (eVar 3)))) sNx) (sSeq (sIf (eTst (eBin pyEq (eVar 0) (eCst (.int 4)))) (sRt (mSh (eFz (fMeth true 4 "lowered" F_Stair_lowered [] (eVar 1) (aCons (eVar 3) aNil))))) sNx) (sRt (mSh (eFz (fMeth true 4 "later" F_Stair_later [] (eVar 1) (aCons (eVar 3) aNil))))))))))
def F_p_law_made : List PV → R OV := defF 4 4 s_p_law_made
theorem F_p_law_made_at {a0 a1 a2 a3 : PV} : F_p_law_made [a0, a1, a2, a3] = outS (s_p_law_made [some (.sh a0), some (.sh a1), some (.sh a2), some (.sh a3)]) := rfl
/-- _law_long: slots 0 deed, 1 size, 2 one, 3 two, 4 made, 5 e -/
def s_p_law_long  : L3.Env → RS := (sSeq (sSet 2 (mSh (eFz (fMake true 4 F_Stair_init [] (aCons (eFz (fLst (aCons (eVar 1) aNil))) (aCons (eCst (.int 1)) (aCons (eCst (.int 0)) aNil))))))) (sSeq (sSet 3 (mSh (eFz (fMake true 4 F_Stair_init [] (aCons (eFz (fLst (aCons (eCst (.int 0)) aNil))) (aCons (eCst (.int 1)) (aCons (eCst (.int 1)) aNil))))))) (sSeq (sTry (sIf (eTst (eBin pyEq (eVar 0) (eCst (.int 0)))) (sSet 4 (mSh (eFz (fBinO true 4 F_Stair_and (eVar 2) (eVar 3))))) (sIf (eTst (eBin pyEq (eVar 0) (eCst (.int 1)))) (sSet 4 (mSh (eFz (fBinO true 4 F_Stair_or (eVar 3) (eVar 2))))) (sSet 4 (mSh (eFz (fMeth true 4 "lowered" F_Stair_lowered [] (eVar 3) (aCons (eVar 1) aNil))))))) (⟨mt_TooMany, some 5, fun x => (sRt (mSh (eAnd (eBin pyEq (eVar 1) (eCst (.int 600))) (eAnd (eFz (fCall true F_p_law_is [] (aCons (eXf okx_limit x "limit") (aCons (eCst (.int 600)) aNil)))) (eAnd (eXi ib_Fault x) (eNot (eXi ib_BadStair x)))))))⟩ :: [])) (sRt (mSh (eAnd (eBin pyEq (eVar 1) (eCst (.int 599))) (eAnd (eBin pyEq (eB bLen (aCons (eFld "heights" ok_heights (eVar 4)) aNil)) (eCst (.int 600))) (eFz (fCall true F_p_law_is [] (aCons (eFz (fMeth true 4 "at" F_Stair_at [] (eVar 4) (aCons (eBin pyPow (eCst (.int 10)) (eCst (.int 30))) aNil))) (aCons (eIdx (eFz (fLst (aCons (eCst (.int 599)) (aCons (eBin pyPow (eCst (.int 10)) (eCst (.int 30))) (aCons (eBin pySub (eBin pyPow (eCst (.int 10)) (eCst (.int 30))) (eCst (.int 599))) aNil))))) (eVar 0)) aNil)))))))))))
def F_p_law_long : List PV → R OV := defF 6 2 s_p_law_long
theorem F_p_law_long_at {a0 a1 : PV} : F_p_law_long [a0, a1] = outS (s_p_law_long [some (.sh a0), some (.sh a1), none, none, none, none]) := rfl
/-- _law_right: slots 0 deed, 1 f, 2 g, 3 ticks, 4 places, 5 one, 6 two, 7 made, 8 x, 9 at, 10 due -/
def b_p_law_right_1 : L3.Env → RS := (sSeq (sSet 9 (mSh (eVar 8))) (sSeq (sIf (eTst (eBin pyEq (eVar 0) (eCst (.int 5)))) (sSet 9 (mSh (eBin pyAdd (eVar 8) (eVar 3)))) sNx) (sSeq (sSet 10 (mSh (eFz (fCall true F_p_law_value [] (aCons (eIdx (eVar 1) (eCst (.int 0))) (aCons (eIdx (eVar 1) (eCst (.int 1))) (aCons (eIdx (eVar 1) (eCst (.int 2))) (aCons (eVar 9) aNil)))))))) (sSeq (sIf (eTst (eBin pyLt (eVar 0) (eCst (.int 5)))) (sSet 10 (mSh (eFz (fCall true F_p_law_due [] (aCons (eVar 0) (aCons (eVar 10) (aCons (eFz (fCall true F_p_law_value [] (aCons (eIdx (eVar 2) (eCst (.int 0))) (aCons (eIdx (eVar 2) (eCst (.int 1))) (aCons (eIdx (eVar 2) (eCst (.int 2))) (aCons (eVar 8) aNil)))))) (aCons (eVar 3) aNil)))))))) sNx) (sIf (bNot (eTst (eFz (fCall true F_p_law_is [] (aCons (eFz (fMeth true 4 "at" F_Stair_at [] (eVar 7) (aCons (eVar 8) aNil))) (aCons (eVar 10) aNil)))))) (sRt (mSh (eCst (.bl false)))) sNx)))))
def s_p_law_right  : L3.Env → RS := (sSeq (sSet 5 (mSh (eFz (fMake true 4 F_Stair_init [] (aCons (eIdx (eVar 1) (eCst (.int 0))) (aCons (eIdx (eVar 1) (eCst (.int 1))) (aCons (eIdx (eVar 1) (eCst (.int 2))) aNil))))))) (sSeq (sSet 6 (mSh (eFz (fMake true 4 F_Stair_init [] (aCons (eIdx (eVar 2) (eCst (.int 0))) (aCons (eIdx (eVar 2) (eCst (.int 1))) (aCons (eIdx (eVar 2) (eCst (.int 2))) aNil))))))) (sSeq (sSet 7 (mSh (eFz (fCall true F_p_law_made [] (aCons (eVar 0) (aCons (eVar 5) (aCons (eVar 6) (aCons (eVar 3) aNil)))))))) (sSeq (sFor (.nm 8) [8, 9, 10] (iSeq (eVar 4)) b_p_law_right_1) (sSeq (sIf (bNot (eTst (eFz (fCall true F_p_law_same [] (aCons (eVar 7) (aCons (eFz (fCall true F_p_law_normal [] (aCons (eFz (fB bList (aCons (eFld "heights" ok_heights (eVar 7)) aNil))) (aCons (eFld "step" ok_step (eVar 7)) (aCons (eFld "rise" ok_rise (eVar 7)) aNil))))) aNil)))))) (sRt (mSh (eCst (.bl false)))) sNx) (sSeq (sIf (bNot (eTst (eFz (fCall true F_p_law_same [] (aCons (eVar 5) (aCons (eFz (fCall true F_p_law_normal [] (aCons (eIdx (eVar 1) (eCst (.int 0))) (aCons (eIdx (eVar 1) (eCst (.int 1))) (aCons (eIdx (eVar 1) (eCst (.int 2))) aNil))))) aNil)))))) (sRt (mSh (eCst (.bl false)))) sNx) (sRt (mSh (eFz (fCall true F_p_law_same [] (aCons (eVar 6) (aCons (eFz (fCall true F_p_law_normal [] (aCons (eIdx (eVar 2) (eCst (.int 0))) (aCons (eIdx (eVar 2) (eCst (.int 1))) (aCons (eIdx (eVar 2) (eCst (.int 2))) aNil))))) aNil))))))))))))
def F_p_law_right : List PV → R OV := defF 11 5 s_p_law_right
theorem F_p_law_right_at {a0 a1 a2 a3 a4 : PV} : F_p_law_right [a0, a1, a2, a3, a4] = outS (s_p_law_right [some (.sh a0), some (.sh a1), some (.sh a2), some (.sh a3), some (.sh a4), none, none, none, none, none, none]) := rfl
/-- law: slots 0 script, 1 f, 2 g, 3 n, 4 far, 5 ticks, 6 deed, 7 number -/
def b_law_1 : L3.Env → RS := (sIf (bNot (eTst (eFz (fCall true F_p_law_right [] (aCons (eVar 6) (aCons (eVar 1) (aCons (eVar 2) (aCons (eCst (.int 0)) (aCons (eBin pyAdd (eFz (fB bLstR (aCons (eCst (.int 160)) aNil))) (eVar 4)) aNil))))))))) (sRt (mSh (eCst (.bl false)))) sNx)
def b_law_2 : L3.Env → RS := (sIf (bNot (eTst (eFz (fCall true F_p_law_right [] (aCons (eVar 6) (aCons (eVar 1) (aCons (eVar 2) (aCons (eVar 5) (aCons (eBin pyAdd (eFz (fB bLstR (aCons (eCst (.int 90)) aNil))) (eVar 4)) aNil))))))))) (sRt (mSh (eCst (.bl false)))) sNx)
def b_law_3 : L3.Env → RS := (sIf (bOr (bNot (eTst (eFz (fCall true F_p_law_above [] (aCons (eVar 1) (aCons (eVar 7) aNil)))))) (bNot (eTst (eFz (fCall true F_p_law_above [] (aCons (eVar 2) (aCons (eVar 7) aNil))))))) (sRt (mSh (eCst (.bl false)))) sNx)
def s_law  : L3.Env → RS := (sSeq (sSet 1 (mSh (eFz (fCall true F_p_law_told [] (aCons (eVar 0) (aCons (eCst (.int 0)) aNil)))))) (sSeq (sSet 2 (mSh (eFz (fCall true F_p_law_told [] (aCons (eVar 0) (aCons (eCst (.int 4)) aNil)))))) (sSeq (sSet 3 (mSh (eFz (fCall true F_p_law_numbers [] (aCons (eFz (fCall true F_p_law_cell [] (aCons (eVar 0) (aCons (eCst (.int 3)) aNil)))) (aCons (eCst (.int 30)) (aCons (eCst (.int 8)) (aCons (eCst (.int 1000)) aNil)))))))) (sSeq (sSet 4 (mSh (eFz (fLst (aCons (eBin pyPow (eCst (.int 10)) (eCst (.int 30))) (aCons (eBin pyMod (eB bInt (aCons (eB bAbs (aCons (eFz (fCall true F_p_law_cell [] (aCons (eVar 0) (aCons (eCst (.int 7)) aNil)))) aNil)) aNil)) (eBin pyPow (eCst (.int 10)) (eCst (.int 30)))) (aCons (eBin pyMod (eB bInt (aCons (eB bAbs (aCons (eFz (fCall true F_p_law_cell [] (aCons (eVar 0) (aCons (eCst (.int 8)) aNil)))) aNil)) aNil)) (eBin pyPow (eCst (.int 10)) (eCst (.int 9)))) aNil))))))) (sSeq (sSet 5 (mSh (eBin pyMod (eIdx (eVar 3) (eCst (.int 0))) (eCst (.int 40))))) (sSeq (sFor (.nm 6) [6] (iRg rng1R (aCons (eCst (.int 3)) aNil)) b_law_1) (sSeq (sFor (.nm 6) [6] (iRg rng2R (aCons (eCst (.int 3)) (aCons (eCst (.int 6)) aNil))) b_law_2) (sSeq (sIf (bNot (eTst (eFz (fCall true F_p_law_right [] (aCons (eCst (.int 5)) (aCons (eVar 1) (aCons (eVar 2) (aCons (eBin pyMod (eB bInt (aCons (eB bAbs (aCons (eFz (fCall true F_p_law_cell [] (aCons (eVar 0) (aCons (eCst (.int 9)) aNil)))) aNil)) aNil)) (eBin pyPow (eCst (.int 10)) (eCst (.int 20)))) (aCons (eBin pyAdd (eFz (fB bLstR (aCons (eCst (.int 30)) aNil))) (eVar 4)) aNil))))))))) (sRt (mSh (eCst (.bl false)))) sNx) (sSeq (sFor (.nm 7) [7] (iSeq (eFz (fLst (aCons (eBin pySub (eBin pyMod (eIdx (eVar 3) (eCst (.int 1))) (eCst (.int 94))) (eCst (.int 3))) (aCons (eBin pyMod (eB bInt (aCons (eB bAbs (aCons (eFz (fCall true F_p_law_cell [] (aCons (eVar 0) (aCons (eCst (.int 10)) aNil)))) aNil)) aNil)) (eBin pyPow (eCst (.int 10)) (eCst (.int 25)))) aNil))))) b_law_3) (sSeq (sIf (bOr (bNot (eTst (eFz (fCall true F_p_law_equals [] (aCons (eVar 1) (aCons (eVar 2) aNil)))))) (bNot (eTst (eFz (fCall true F_p_law_refusals [] (aCons (eVar 1) (aCons (eVar 5) aNil))))))) (sRt (mSh (eCst (.bl false)))) sNx) (sRt (mSh (eAnd (eFz (fCall true F_p_law_long [] (aCons (eBin pyMod (eIdx (eVar 3) (eCst (.int 2))) (eCst (.int 3))) (aCons (eCst (.int 599)) aNil)))) (eFz (fCall true F_p_law_long [] (aCons (eBin pyMod (eIdx (eVar 3) (eCst (.int 3))) (eCst (.int 3))) (aCons (eCst (.int 600)) aNil)))))))))))))))))
def F_law : List PV → R OV := defF 8 1 s_law
theorem F_law_at {a0 : PV} : F_law [a0] = outS (s_law [some (.sh a0), none, none, none, none, none, none, none]) := rfl
end K02

end
section

/-! The derivations, as gen.py prints them. -/
namespace K02
open PySem PySem.Spec PyProof.Rows L2 L3 He
def top (i : Nat) : Stmt := PySem.Challenge.pw_flagfalls_k02_stairs_joined.main.body.getD i (.Pass ⟨0, 0, 0, 0⟩)
def cbody (s : Stmt) : List Stmt := match s with
  | .ClassDef (body := b) .. => b
  | _ => []
def mth (i j : Nat) : Stmt := (cbody (top i)).getD j (.Pass ⟨0, 0, 0, 0⟩)
theorem S_lesser : FnScope ["x", "y"] ["x", "y"] (defScope (top 8)) := ⟨rfl, rfl, rfl, by decide +kernel, rfl, by decide +kernel, by decide +kernel⟩
theorem S_greater : FnScope ["x", "y"] ["x", "y"] (defScope (top 9)) := ⟨rfl, rfl, rfl, by decide +kernel, rfl, by decide +kernel, by decide +kernel⟩
theorem S_added : FnScope ["x", "number"] ["x", "number"] (defScope (top 10)) := ⟨rfl, rfl, rfl, by decide +kernel, rfl, by decide +kernel, by decide +kernel⟩
theorem S_check_heights : FnScope ["heights", "step", "rise", "last", "height", "first"] ["heights", "step", "rise"] (defScope (top 13)) := ⟨rfl, rfl, rfl, by decide +kernel, rfl, by decide +kernel, by decide +kernel⟩
theorem S_least_step : FnScope ["heights", "step", "rise", "start", "part", "part_rise", "k"] ["heights", "step", "rise"] (defScope (top 14)) := ⟨rfl, rfl, rfl, by decide +kernel, rfl, by decide +kernel, by decide +kernel⟩
theorem S_normal_form : FnScope ["heights", "step", "rise", "part", "part_rise", "start"] ["heights", "step", "rise"] (defScope (top 15)) := ⟨rfl, rfl, rfl, by decide +kernel, rfl, by decide +kernel, by decide +kernel⟩
theorem S_Stair_init : FnScope ["self", "heights", "step", "rise", "given", "told", "part", "part_rise"] ["self", "heights", "step", "rise"] (defScope (mth 16 0)) := ⟨rfl, rfl, rfl, by decide +kernel, rfl, by decide +kernel, by decide +kernel⟩
theorem S_Stair_at : FnScope ["self", "amount", "turns"] ["self", "amount"] (defScope (mth 16 1)) := ⟨rfl, rfl, rfl, by decide +kernel, rfl, by decide +kernel, by decide +kernel⟩
theorem S_Stair_first_above : FnScope ["self", "number", "amount", "found", "turns"] ["self", "number"] (defScope (mth 16 3)) := ⟨rfl, rfl, rfl, by decide +kernel, rfl, by decide +kernel, by decide +kernel⟩
theorem S_Stair_later : FnScope ["self", "ticks", "size", "amount"] ["self", "ticks"] (defScope (mth 16 4)) := ⟨rfl, rfl, rfl, by decide +kernel, rfl, by decide +kernel, by decide +kernel⟩
theorem S_Stair_lowered : FnScope ["self", "ticks", "start", "heights", "amount", "height"] ["self", "ticks"] (defScope (mth 16 5)) := ⟨rfl, rfl, rfl, by decide +kernel, rfl, by decide +kernel, by decide +kernel⟩
theorem S_Stair_and : FnScope ["self", "other", "size", "step", "rise", "amount"] ["self", "other"] (defScope (mth 16 6)) := ⟨rfl, rfl, rfl, by decide +kernel, rfl, by decide +kernel, by decide +kernel⟩
theorem S_Stair_or : FnScope ["self", "other", "size", "step", "rise", "amount"] ["self", "other"] (defScope (mth 16 7)) := ⟨rfl, rfl, rfl, by decide +kernel, rfl, by decide +kernel, by decide +kernel⟩
theorem S_Stair_add : FnScope ["self", "other", "size", "step", "rise", "height", "amount"] ["self", "other"] (defScope (mth 16 8)) := ⟨rfl, rfl, rfl, by decide +kernel, rfl, by decide +kernel, by decide +kernel⟩
theorem S_Stair_eq : FnScope ["self", "other"] ["self", "other"] (defScope (mth 16 9)) := ⟨rfl, rfl, rfl, by decide +kernel, rfl, by decide +kernel, by decide +kernel⟩
theorem S_sum_at : FnScope ["one", "two", "amount", "height"] ["one", "two", "amount"] (defScope (top 17)) := ⟨rfl, rfl, rfl, by decide +kernel, rfl, by decide +kernel, by decide +kernel⟩
theorem S_first_none : FnScope ["one", "two", "starts", "stair"] ["one", "two"] (defScope (top 18)) := ⟨rfl, rfl, rfl, by decide +kernel, rfl, by decide +kernel, by decide +kernel⟩
theorem S_last_crossing : FnScope ["slow", "fast", "step", "gain", "last", "base", "amount", "gap"] ["slow", "fast"] (defScope (top 19)) := ⟨rfl, rfl, rfl, by decide +kernel, rfl, by decide +kernel, by decide +kernel⟩
theorem S_crossed_form : FnScope ["slow", "fast", "final", "last"] ["slow", "fast", "final"] (defScope (top 20)) := ⟨rfl, rfl, rfl, by decide +kernel, rfl, by decide +kernel, by decide +kernel⟩
theorem S_both_form : FnScope ["one", "two", "least", "ahead", "step", "slow", "fast"] ["one", "two", "least"] (defScope (top 21)) := ⟨rfl, rfl, rfl, by decide +kernel, rfl, by decide +kernel, by decide +kernel⟩
theorem S_lesser_form : FnScope ["one", "two"] ["one", "two"] (defScope (top 22)) := ⟨rfl, rfl, rfl, by decide +kernel, rfl, by decide +kernel, by decide +kernel⟩
theorem S_greater_form : FnScope ["one", "two"] ["one", "two"] (defScope (top 23)) := ⟨rfl, rfl, rfl, by decide +kernel, rfl, by decide +kernel, by decide +kernel⟩
theorem S_sum_form : FnScope ["one", "two", "step", "rise"] ["one", "two"] (defScope (top 24)) := ⟨rfl, rfl, rfl, by decide +kernel, rfl, by decide +kernel, by decide +kernel⟩
theorem S_p_law_cell : FnScope ["script", "k"] ["script", "k"] (defScope (top 26)) := ⟨rfl, rfl, rfl, by decide +kernel, rfl, by decide +kernel, by decide +kernel⟩
theorem S_p_law_numbers : FnScope ["cell", "salt", "count", "many", "numbers", "rest", "great", "k", "mixed"] ["cell", "salt", "count", "many"] (defScope (top 27)) := ⟨rfl, rfl, rfl, by decide +kernel, rfl, by decide +kernel, by decide +kernel⟩
theorem S_p_law_is : FnScope ["actual", "expected"] ["actual", "expected"] (defScope (top 28)) := ⟨rfl, rfl, rfl, by decide +kernel, rfl, by decide +kernel, by decide +kernel⟩
theorem S_p_law_value : FnScope ["heights", "step", "rise", "x", "start", "turns"] ["heights", "step", "rise", "x"] (defScope (top 29)) := ⟨rfl, rfl, rfl, by decide +kernel, rfl, by decide +kernel, by decide +kernel⟩
theorem S_p_law_normal : FnScope ["heights", "step", "rise", "k", "part", "up", "start", "x"] ["heights", "step", "rise"] (defScope (top 30)) := ⟨rfl, rfl, rfl, by decide +kernel, rfl, by decide +kernel, by decide +kernel⟩
theorem S_p_law_same : FnScope ["stair", "due", "told", "k"] ["stair", "due"] (defScope (top 31)) := ⟨rfl, rfl, rfl, by decide +kernel, rfl, by decide +kernel, by decide +kernel⟩
theorem S_p_law_told : FnScope ["script", "salt", "n", "start", "step", "heights", "height", "up", "count", "rise", "wide", "size", "x"] ["script", "salt"] (defScope (top 32)) := ⟨rfl, rfl, rfl, by decide +kernel, rfl, by decide +kernel, by decide +kernel⟩
theorem S_p_law_least : FnScope ["x", "y"] ["x", "y"] (defScope (top 33)) := ⟨rfl, rfl, rfl, by decide +kernel, rfl, by decide +kernel, by decide +kernel⟩
theorem S_p_law_greatest : FnScope ["x", "y"] ["x", "y"] (defScope (top 34)) := ⟨rfl, rfl, rfl, by decide +kernel, rfl, by decide +kernel, by decide +kernel⟩
theorem S_p_law_due : FnScope ["deed", "x", "y", "ticks"] ["deed", "x", "y", "ticks"] (defScope (top 35)) := ⟨rfl, rfl, rfl, by decide +kernel, rfl, by decide +kernel, by decide +kernel⟩
theorem S_p_law_made : FnScope ["deed", "one", "two", "ticks"] ["deed", "one", "two", "ticks"] (defScope (top 36)) := ⟨rfl, rfl, rfl, by decide +kernel, rfl, by decide +kernel, by decide +kernel⟩
theorem S_p_law_right : FnScope ["deed", "f", "g", "ticks", "places", "one", "two", "made", "x", "at", "due"] ["deed", "f", "g", "ticks", "places"] (defScope (top 37)) := ⟨rfl, rfl, rfl, by decide +kernel, rfl, by decide +kernel, by decide +kernel⟩
theorem S_p_law_above : FnScope ["f", "number", "told", "height", "before"] ["f", "number"] (defScope (top 38)) := ⟨rfl, rfl, rfl, by decide +kernel, rfl, by decide +kernel, by decide +kernel⟩
theorem S_p_law_equals : FnScope ["f", "g", "one"] ["f", "g"] (defScope (top 39)) := ⟨rfl, rfl, rfl, by decide +kernel, rfl, by decide +kernel, by decide +kernel⟩
theorem S_p_law_long : FnScope ["deed", "size", "one", "two", "made", "e"] ["deed", "size"] (defScope (top 40)) := ⟨rfl, rfl, rfl, by decide +kernel, rfl, by decide +kernel, by decide +kernel⟩
theorem S_p_law_refusals : FnScope ["f", "ticks", "one", "found", "e"] ["f", "ticks"] (defScope (top 41)) := ⟨rfl, rfl, rfl, by decide +kernel, rfl, by decide +kernel, by decide +kernel⟩
theorem S_law : FnScope ["script", "f", "g", "n", "far", "ticks", "deed", "number"] ["script"] (defScope (top 42)) := ⟨rfl, rfl, rfl, by decide +kernel, rfl, by decide +kernel, by decide +kernel⟩
/-- what is known of the head; ad, fd: the functions; cv, cu: the constants -/
structure Fx (P : Program) (Γ : Gc) (mg : Str → Option Value) (ad : Nat → Addr) (fd : Nat → FuncData) (dv : Nat → List V) (cv : Nat → V) (cu : Nat → Value) (fI : Nat → Addr) : Prop where
  gl_len : mg "len" = none
  gl_abs : mg "abs" = none
  gl_int : mg "int" = none
  gl_max : mg "max" = none
  gl_min : mg "min" = none
  gl_sum : mg "sum" = none
  gl_all : mg "all" = none
  gl_any : mg "any" = none
  gl_tuple : mg "tuple" = none
  gl_list : mg "list" = none
  gl_range : mg "range" = none
  gl_isinstance : mg "isinstance" = none
  gl_str : mg "str" = none
  gl_bool : mg "bool" = none
  gl_sorted : mg "sorted" = none
  GB_lcm : mg "lcm" = some (.builtin "math.lcm")
  F_lesser : FunD Γ.K "lesser" "lesser" (defArgs (top 8)) (defBody (top 8)) (defScope (top 8)) (dv 0) [] (ad 0) (fd 0)
  B0_lesser : Vals [] [] ∧ Binds Γ.K (fd 0) ["x", "y"] []
  G_lesser : mg "lesser" = some (.ref (ad 0))
  F_greater : FunD Γ.K "greater" "greater" (defArgs (top 9)) (defBody (top 9)) (defScope (top 9)) (dv 1) [] (ad 1) (fd 1)
  B0_greater : Vals [] [] ∧ Binds Γ.K (fd 1) ["x", "y"] []
  G_greater : mg "greater" = some (.ref (ad 1))
  F_added : FunD Γ.K "added" "added" (defArgs (top 10)) (defBody (top 10)) (defScope (top 10)) (dv 2) [] (ad 2) (fd 2)
  B0_added : Vals [] [] ∧ Binds Γ.K (fd 2) ["x", "number"] []
  G_added : mg "added" = some (.ref (ad 2))
  F_check_heights : FunD Γ.K "check_heights" "check_heights" (defArgs (top 13)) (defBody (top 13)) (defScope (top 13)) (dv 3) [] (ad 3) (fd 3)
  B0_check_heights : Vals [] [] ∧ Binds Γ.K (fd 3) ["heights", "step", "rise"] []
  G_check_heights : mg "check_heights" = some (.ref (ad 3))
  F_least_step : FunD Γ.K "least_step" "least_step" (defArgs (top 14)) (defBody (top 14)) (defScope (top 14)) (dv 4) [] (ad 4) (fd 4)
  B0_least_step : Vals [] [] ∧ Binds Γ.K (fd 4) ["heights", "step", "rise"] []
  G_least_step : mg "least_step" = some (.ref (ad 4))
  F_normal_form : FunD Γ.K "normal_form" "normal_form" (defArgs (top 15)) (defBody (top 15)) (defScope (top 15)) (dv 5) [] (ad 5) (fd 5)
  B0_normal_form : Vals [] [] ∧ Binds Γ.K (fd 5) ["heights", "step", "rise"] []
  G_normal_form : mg "normal_form" = some (.ref (ad 5))
  F_Stair_init : FunD Γ.K "__init__" "Stair.__init__" (defArgs (mth 16 0)) (defBody (mth 16 0)) (defScope (mth 16 0)) (dv 6) [] (ad 6) (fd 6)
  B0_Stair_init : Vals [] [] ∧ Binds Γ.K (fd 6) ["self", "heights", "step", "rise"] []
  F_Stair_at : FunD Γ.K "at" "Stair.at" (defArgs (mth 16 1)) (defBody (mth 16 1)) (defScope (mth 16 1)) (dv 7) [] (ad 7) (fd 7)
  B0_Stair_at : Vals [] [] ∧ Binds Γ.K (fd 7) ["self", "amount"] []
  MT_Stair_at : Meth Γ.K (Γ.CA 4) "at" (ad 7)
  F_Stair_first_above : FunD Γ.K "first_above" "Stair.first_above" (defArgs (mth 16 3)) (defBody (mth 16 3)) (defScope (mth 16 3)) (dv 8) [] (ad 8) (fd 8)
  B0_Stair_first_above : Vals [] [] ∧ Binds Γ.K (fd 8) ["self", "number"] []
  MT_Stair_first_above : Meth Γ.K (Γ.CA 4) "first_above" (ad 8)
  F_Stair_later : FunD Γ.K "later" "Stair.later" (defArgs (mth 16 4)) (defBody (mth 16 4)) (defScope (mth 16 4)) (dv 9) [] (ad 9) (fd 9)
  B0_Stair_later : Vals [] [] ∧ Binds Γ.K (fd 9) ["self", "ticks"] []
  MT_Stair_later : Meth Γ.K (Γ.CA 4) "later" (ad 9)
  F_Stair_lowered : FunD Γ.K "lowered" "Stair.lowered" (defArgs (mth 16 5)) (defBody (mth 16 5)) (defScope (mth 16 5)) (dv 10) [] (ad 10) (fd 10)
  B0_Stair_lowered : Vals [] [] ∧ Binds Γ.K (fd 10) ["self", "ticks"] []
  MT_Stair_lowered : Meth Γ.K (Γ.CA 4) "lowered" (ad 10)
  F_Stair_and : FunD Γ.K "__and__" "Stair.__and__" (defArgs (mth 16 6)) (defBody (mth 16 6)) (defScope (mth 16 6)) (dv 11) [] (ad 11) (fd 11)
  B0_Stair_and : Vals [] [] ∧ Binds Γ.K (fd 11) ["self", "other"] []
  OO_Stair_and : OwnOp Γ.K (Γ.CA 4) (ad 11) "and"
  F_Stair_or : FunD Γ.K "__or__" "Stair.__or__" (defArgs (mth 16 7)) (defBody (mth 16 7)) (defScope (mth 16 7)) (dv 12) [] (ad 12) (fd 12)
  B0_Stair_or : Vals [] [] ∧ Binds Γ.K (fd 12) ["self", "other"] []
  OO_Stair_or : OwnOp Γ.K (Γ.CA 4) (ad 12) "or"
  F_Stair_add : FunD Γ.K "__add__" "Stair.__add__" (defArgs (mth 16 8)) (defBody (mth 16 8)) (defScope (mth 16 8)) (dv 13) [] (ad 13) (fd 13)
  B0_Stair_add : Vals [] [] ∧ Binds Γ.K (fd 13) ["self", "other"] []
  OO_Stair_add : OwnOp Γ.K (Γ.CA 4) (ad 13) "add"
  F_Stair_eq : FunD Γ.K "__eq__" "Stair.__eq__" (defArgs (mth 16 9)) (defBody (mth 16 9)) (defScope (mth 16 9)) (dv 14) [] (ad 14) (fd 14)
  B0_Stair_eq : Vals [] [] ∧ Binds Γ.K (fd 14) ["self", "other"] []
  MT_Stair_eq : Meth Γ.K (Γ.CA 4) "__eq__" (ad 14)
  F_sum_at : FunD Γ.K "sum_at" "sum_at" (defArgs (top 17)) (defBody (top 17)) (defScope (top 17)) (dv 15) [] (ad 15) (fd 15)
  B0_sum_at : Vals [] [] ∧ Binds Γ.K (fd 15) ["one", "two", "amount"] []
  G_sum_at : mg "sum_at" = some (.ref (ad 15))
  F_first_none : FunD Γ.K "first_none" "first_none" (defArgs (top 18)) (defBody (top 18)) (defScope (top 18)) (dv 16) [] (ad 16) (fd 16)
  B0_first_none : Vals [] [] ∧ Binds Γ.K (fd 16) ["one", "two"] []
  G_first_none : mg "first_none" = some (.ref (ad 16))
  F_last_crossing : FunD Γ.K "last_crossing" "last_crossing" (defArgs (top 19)) (defBody (top 19)) (defScope (top 19)) (dv 17) [] (ad 17) (fd 17)
  B0_last_crossing : Vals [] [] ∧ Binds Γ.K (fd 17) ["slow", "fast"] []
  G_last_crossing : mg "last_crossing" = some (.ref (ad 17))
  F_crossed_form : FunD Γ.K "crossed_form" "crossed_form" (defArgs (top 20)) (defBody (top 20)) (defScope (top 20)) (dv 18) [] (ad 18) (fd 18)
  B0_crossed_form : Vals [] [] ∧ Binds Γ.K (fd 18) ["slow", "fast", "final"] []
  G_crossed_form : mg "crossed_form" = some (.ref (ad 18))
  F_both_form : FunD Γ.K "both_form" "both_form" (defArgs (top 21)) (defBody (top 21)) (defScope (top 21)) (dv 19) [] (ad 19) (fd 19)
  B0_both_form : Vals [] [] ∧ Binds Γ.K (fd 19) ["one", "two", "least"] []
  G_both_form : mg "both_form" = some (.ref (ad 19))
  F_lesser_form : FunD Γ.K "lesser_form" "lesser_form" (defArgs (top 22)) (defBody (top 22)) (defScope (top 22)) (dv 20) [] (ad 20) (fd 20)
  B0_lesser_form : Vals [] [] ∧ Binds Γ.K (fd 20) ["one", "two"] []
  G_lesser_form : mg "lesser_form" = some (.ref (ad 20))
  F_greater_form : FunD Γ.K "greater_form" "greater_form" (defArgs (top 23)) (defBody (top 23)) (defScope (top 23)) (dv 21) [] (ad 21) (fd 21)
  B0_greater_form : Vals [] [] ∧ Binds Γ.K (fd 21) ["one", "two"] []
  G_greater_form : mg "greater_form" = some (.ref (ad 21))
  F_sum_form : FunD Γ.K "sum_form" "sum_form" (defArgs (top 24)) (defBody (top 24)) (defScope (top 24)) (dv 22) [] (ad 22) (fd 22)
  B0_sum_form : Vals [] [] ∧ Binds Γ.K (fd 22) ["one", "two"] []
  G_sum_form : mg "sum_form" = some (.ref (ad 22))
  F_p_law_cell : FunD Γ.K "_law_cell" "_law_cell" (defArgs (top 26)) (defBody (top 26)) (defScope (top 26)) (dv 23) [] (ad 23) (fd 23)
  B0_p_law_cell : Vals [] [] ∧ Binds Γ.K (fd 23) ["script", "k"] []
  G_p_law_cell : mg "_law_cell" = some (.ref (ad 23))
  F_p_law_numbers : FunD Γ.K "_law_numbers" "_law_numbers" (defArgs (top 27)) (defBody (top 27)) (defScope (top 27)) (dv 24) [] (ad 24) (fd 24)
  B0_p_law_numbers : Vals [] [] ∧ Binds Γ.K (fd 24) ["cell", "salt", "count", "many"] []
  G_p_law_numbers : mg "_law_numbers" = some (.ref (ad 24))
  F_p_law_is : FunD Γ.K "_law_is" "_law_is" (defArgs (top 28)) (defBody (top 28)) (defScope (top 28)) (dv 25) [] (ad 25) (fd 25)
  B0_p_law_is : Vals [] [] ∧ Binds Γ.K (fd 25) ["actual", "expected"] []
  G_p_law_is : mg "_law_is" = some (.ref (ad 25))
  F_p_law_value : FunD Γ.K "_law_value" "_law_value" (defArgs (top 29)) (defBody (top 29)) (defScope (top 29)) (dv 26) [] (ad 26) (fd 26)
  B0_p_law_value : Vals [] [] ∧ Binds Γ.K (fd 26) ["heights", "step", "rise", "x"] []
  G_p_law_value : mg "_law_value" = some (.ref (ad 26))
  F_p_law_normal : FunD Γ.K "_law_normal" "_law_normal" (defArgs (top 30)) (defBody (top 30)) (defScope (top 30)) (dv 27) [] (ad 27) (fd 27)
  B0_p_law_normal : Vals [] [] ∧ Binds Γ.K (fd 27) ["heights", "step", "rise"] []
  G_p_law_normal : mg "_law_normal" = some (.ref (ad 27))
  F_p_law_same : FunD Γ.K "_law_same" "_law_same" (defArgs (top 31)) (defBody (top 31)) (defScope (top 31)) (dv 28) [] (ad 28) (fd 28)
  B0_p_law_same : Vals [] [] ∧ Binds Γ.K (fd 28) ["stair", "due"] []
  G_p_law_same : mg "_law_same" = some (.ref (ad 28))
  F_p_law_told : FunD Γ.K "_law_told" "_law_told" (defArgs (top 32)) (defBody (top 32)) (defScope (top 32)) (dv 29) [] (ad 29) (fd 29)
  B0_p_law_told : Vals [] [] ∧ Binds Γ.K (fd 29) ["script", "salt"] []
  G_p_law_told : mg "_law_told" = some (.ref (ad 29))
  F_p_law_least : FunD Γ.K "_law_least" "_law_least" (defArgs (top 33)) (defBody (top 33)) (defScope (top 33)) (dv 30) [] (ad 30) (fd 30)
  B0_p_law_least : Vals [] [] ∧ Binds Γ.K (fd 30) ["x", "y"] []
  G_p_law_least : mg "_law_least" = some (.ref (ad 30))
  F_p_law_greatest : FunD Γ.K "_law_greatest" "_law_greatest" (defArgs (top 34)) (defBody (top 34)) (defScope (top 34)) (dv 31) [] (ad 31) (fd 31)
  B0_p_law_greatest : Vals [] [] ∧ Binds Γ.K (fd 31) ["x", "y"] []
  G_p_law_greatest : mg "_law_greatest" = some (.ref (ad 31))
  F_p_law_due : FunD Γ.K "_law_due" "_law_due" (defArgs (top 35)) (defBody (top 35)) (defScope (top 35)) (dv 32) [] (ad 32) (fd 32)
  B0_p_law_due : Vals [] [] ∧ Binds Γ.K (fd 32) ["deed", "x", "y", "ticks"] []
  G_p_law_due : mg "_law_due" = some (.ref (ad 32))
  F_p_law_made : FunD Γ.K "_law_made" "_law_made" (defArgs (top 36)) (defBody (top 36)) (defScope (top 36)) (dv 33) [] (ad 33) (fd 33)
  B0_p_law_made : Vals [] [] ∧ Binds Γ.K (fd 33) ["deed", "one", "two", "ticks"] []
  G_p_law_made : mg "_law_made" = some (.ref (ad 33))
  F_p_law_right : FunD Γ.K "_law_right" "_law_right" (defArgs (top 37)) (defBody (top 37)) (defScope (top 37)) (dv 34) [] (ad 34) (fd 34)
  B0_p_law_right : Vals [] [] ∧ Binds Γ.K (fd 34) ["deed", "f", "g", "ticks", "places"] []
  G_p_law_right : mg "_law_right" = some (.ref (ad 34))
  F_p_law_above : FunD Γ.K "_law_above" "_law_above" (defArgs (top 38)) (defBody (top 38)) (defScope (top 38)) (dv 35) [] (ad 35) (fd 35)
  B0_p_law_above : Vals [] [] ∧ Binds Γ.K (fd 35) ["f", "number"] []
  G_p_law_above : mg "_law_above" = some (.ref (ad 35))
  F_p_law_equals : FunD Γ.K "_law_equals" "_law_equals" (defArgs (top 39)) (defBody (top 39)) (defScope (top 39)) (dv 36) [] (ad 36) (fd 36)
  B0_p_law_equals : Vals [] [] ∧ Binds Γ.K (fd 36) ["f", "g"] []
  G_p_law_equals : mg "_law_equals" = some (.ref (ad 36))
  F_p_law_long : FunD Γ.K "_law_long" "_law_long" (defArgs (top 40)) (defBody (top 40)) (defScope (top 40)) (dv 37) [] (ad 37) (fd 37)
  B0_p_law_long : Vals [] [] ∧ Binds Γ.K (fd 37) ["deed", "size"] []
  G_p_law_long : mg "_law_long" = some (.ref (ad 37))
  F_p_law_refusals : FunD Γ.K "_law_refusals" "_law_refusals" (defArgs (top 41)) (defBody (top 41)) (defScope (top 41)) (dv 38) [] (ad 38) (fd 38)
  B0_p_law_refusals : Vals [] [] ∧ Binds Γ.K (fd 38) ["f", "ticks"] []
  G_p_law_refusals : mg "_law_refusals" = some (.ref (ad 38))
  F_law : FunD Γ.K "law" "law" (defArgs (top 42)) (defBody (top 42)) (defScope (top 42)) (dv 39) [] (ad 39) (fd 39)
  B0_law : Vals [] [] ∧ Binds Γ.K (fd 39) ["script"] []
  G_law : mg "law" = some (.ref (ad 39))
  G_Fault : mg "Fault" = some (.ref (Γ.CA 0))
  G_BadAmount : mg "BadAmount" = some (.ref (Γ.CA 1))
  SU_BadAmount : X3.SupC P Γ.K (Γ.CA 1) (fI 1) "amount"
  KP_BadAmount : PySem.W.keepIn Γ.K (.ref (Γ.CA 1)) = true
  RS_BadAmount : ∀ X : Cx, X.K = Γ.K → Raises X (.ref (Γ.CA 1))
  G_TooMany : mg "TooMany" = some (.ref (Γ.CA 2))
  SU_TooMany : X3.SupC P Γ.K (Γ.CA 2) (fI 2) "limit"
  KP_TooMany : PySem.W.keepIn Γ.K (.ref (Γ.CA 2)) = true
  RS_TooMany : ∀ X : Cx, X.K = Γ.K → Raises X (.ref (Γ.CA 2))
  G_BadStair : mg "BadStair" = some (.ref (Γ.CA 3))
  EX_BadStair : PySem.W.excIn Γ.K (Γ.CA 3) veBase "ValueError.__new__" = true
  KP_BadStair : PySem.W.keepIn Γ.K (.ref (Γ.CA 3)) = true
  RS_BadStair : ∀ X : Cx, X.K = Γ.K → Raises X (.ref (Γ.CA 3))
  G_Stair : mg "Stair" = some (.ref (Γ.CA 4))
  C_Stair : Cls Γ.K (Γ.CA 4)
  M_Stair : Mk Γ.K (Γ.CA 4) (ad 6)
  EO_Stair : EqC Γ.K (Γ.CA 4) (ad 14)
  FL_heights : ∀ c, ok_heights c = true → Cls Γ.K (Γ.CA c) ∧ NoAttr Γ.K (Γ.CA c) "heights"
  FL_rise : ∀ c, ok_rise c = true → Cls Γ.K (Γ.CA c) ∧ NoAttr Γ.K (Γ.CA c) "rise"
  FL_start : ∀ c, ok_start c = true → Cls Γ.K (Γ.CA c) ∧ NoAttr Γ.K (Γ.CA c) "start"
  FL_step : ∀ c, ok_step c = true → Cls Γ.K (Γ.CA c) ∧ NoAttr Γ.K (Γ.CA c) "step"
  XF_amount : ∀ c, okx_amount c = true → XfC Γ.K (Γ.CA c) ∧ PySem.W.findIn Γ.K (.ref (Γ.CA c)) "amount" = some none
  XF_limit : ∀ c, okx_limit c = true → XfC Γ.K (Γ.CA c) ∧ PySem.W.findIn Γ.K (.ref (Γ.CA c)) "limit" = some none
  MTX_BadAmount : ∀ c b, mt_BadAmount c = some b → PySem.W.exmOne Γ.K (.ref (Γ.CA c)) (.ref (Γ.CA 1)) = some b
  MTX_BadStair : ∀ c b, mt_BadStair c = some b → PySem.W.exmOne Γ.K (.ref (Γ.CA c)) (.ref (Γ.CA 3)) = some b
  MTX_TooMany : ∀ c b, mt_TooMany c = some b → PySem.W.exmOne Γ.K (.ref (Γ.CA c)) (.ref (Γ.CA 2)) = some b
  XI_BadAmount : ∀ c b, ib_BadAmount c = some b → X3.ExI Γ.K (Γ.CA c) ∧ PySem.W.kitOne Γ.K (.ref (Γ.CA c)) (.ref (Γ.CA 1)) = some b
  XI_BadStair : ∀ c b, ib_BadStair c = some b → X3.ExI Γ.K (Γ.CA c) ∧ PySem.W.kitOne Γ.K (.ref (Γ.CA c)) (.ref (Γ.CA 3)) = some b
  XI_Fault : ∀ c b, ib_Fault c = some b → X3.ExI Γ.K (Γ.CA c) ∧ PySem.W.kitOne Γ.K (.ref (Γ.CA c)) (.ref (Γ.CA 0)) = some b
  IBC_int : ∀ c b, ibc_int c = some b → IsC Γ.K (Γ.CA c) ∧ PySem.W.kitOne Γ.K (.ref (Γ.CA c)) (.type "int") = some b
  IC_Stair : ∀ c b, ic_Stair c = some b → IsC Γ.K (Γ.CA c) ∧ PySem.W.kitOne Γ.K (.ref (Γ.CA c)) (.ref (Γ.CA 4)) = some b
  IT_Stair : ∀ s b, tb_Stair s = some b → PySem.W.kitOne Γ.K (.type s) (.ref (Γ.CA 4)) = some b
  G_MOST_HEIGHTS : mg "MOST_HEIGHTS" = some (cu 0) ∧ RelV (cv 0) (cu 0)
  R_MOST_HEIGHTS : ∀ H, Rep Γ H (.int 600) (cv 0)
section
variable {P : Program} {w : World} {Γ : Gc} {mg : Str → Option Value} {base : Heap} {ad : Nat → Addr} {fd : Nat → FuncData} {dv : Nat → List V} {cv : Nat → V} {cu : Nat → Value} {fI : Nat → Addr}
theorem ok_lesser (fx : Fx P Γ mg ad fd dv cv cu fI) : FnOk P w Γ.K mg base (L2N.CX P w) 1 (ad 0) (fd 0) ["x", "y"] (spP Γ F_lesser) := by
  refine qDef fx.F_lesser S_lesser rfl rfl fun cdv A outer s H E C hG hfx hr tk hp => ?_
  obtain ⟨G, He, Hz, fx0, Hx⟩ := C
  dsimp only at hG hfx
  subst hG hfx
  have hu := L3.hu_of hr
  have hrH := L2H.roomH_of hr
  have hdep := L3.dep_of hr
  unfold s_lesser
  exact qCons (qIfS (tIsN (m := true) (qVar 0)) (qLast (qRt (qmSh (qVar 1)))) (qNil)) (qCons (qIfS (qt_w (qw_or (tIsN (m := true) (qVar 1)) (qw_or1 (tLe (m := true)  (qVar 0) (qVar 1))))) (qLast (qRt (qmSh (qVar 0)))) (qNil)) (qLast (qRt (qmSh (qVar 1)))))
theorem ok_greater (fx : Fx P Γ mg ad fd dv cv cu fI) : FnOk P w Γ.K mg base (L2N.CX P w) 1 (ad 1) (fd 1) ["x", "y"] (spP Γ F_greater) := by
  refine qDef fx.F_greater S_greater rfl rfl fun cdv A outer s H E C hG hfx hr tk hp => ?_
  obtain ⟨G, He, Hz, fx0, Hx⟩ := C
  dsimp only at hG hfx
  subst hG hfx
  have hu := L3.hu_of hr
  have hrH := L2H.roomH_of hr
  have hdep := L3.dep_of hr
  unfold s_greater
  exact qCons (qIfS (qt_w (qw_or (tIsN (m := true) (qVar 0)) (qw_or1 (tIsN (m := true) (qVar 1))))) (qLast (qRt (qmSh (qNon)))) (qNil)) (qCons (qIfS (tGe (m := true)  (qVar 0) (qVar 1)) (qLast (qRt (qmSh (qVar 0)))) (qNil)) (qLast (qRt (qmSh (qVar 1)))))
theorem ok_added (fx : Fx P Γ mg ad fd dv cv cu fI) : FnOk P w Γ.K mg base (L2N.CX P w) 1 (ad 2) (fd 2) ["x", "number"] (spP Γ F_added) := by
  refine qDef fx.F_added S_added rfl rfl fun cdv A outer s H E C hG hfx hr tk hp => ?_
  obtain ⟨G, He, Hz, fx0, Hx⟩ := C
  dsimp only at hG hfx
  subst hG hfx
  have hu := L3.hu_of hr
  have hrH := L2H.roomH_of hr
  have hdep := L3.dep_of hr
  unfold s_added
  exact qCons (qIfS (tIsN (m := true) (qVar 0)) (qLast (qRt (qmSh (qNon)))) (qNil)) (qLast (qRt (qmSh (qAdd rfl (qVar 0) (qVar 1)))))
theorem ok_check_heights (fx : Fx P Γ mg ad fd dv cv cu fI) : FnOk P w Γ.K mg base (L2N.CX P w) 1 (ad 3) (fd 3) ["heights", "step", "rise"] (spP Γ F_check_heights) := by
  refine qDef fx.F_check_heights S_check_heights rfl rfl fun cdv A outer s H E C hG hfx hr tk hp => ?_
  obtain ⟨G, He, Hz, fx0, Hx⟩ := C
  dsimp only at hG hfx
  subst hG hfx
  have hu := L3.hu_of hr
  have hrH := L2H.roomH_of hr
  have hdep := L3.dep_of hr
  unfold s_check_heights
  exact qCons (qIfS (qt_w (qw_or (tLt (m := true)  (qVar 1) (qInt)) (qw_or1 (tLt (m := true)  (qLen rfl fx.gl_len (qaCons (qVar 0) qaNil)) (qVar 1))))) (qLast (qRzP (c := 3) rfl tk PySem.F.excBase_ValueError fx.EX_BadStair fx.G_BadStair fx.KP_BadStair (fx.RS_BadStair _ rfl))) (qNil)) (qCons (qSet (i := 3) fxo_none S_check_heights.nd (qmSh (qInt))) (qCons (qFor (T := (.nm 4)) [4] hp rfl (qiSeq rfl (qVar 0)) (fun _ => qgName (i := 4) fxo_none S_check_heights.nd) (fun _ => qCons (qIfS (qt_w (qw_and (tIsN (m := true) (qVar 3)) (qw_and1 (tNotN (m := true) (qVar 4))))) (qLast (qRzP (c := 3) rfl tk PySem.F.excBase_ValueError fx.EX_BadStair fx.G_BadStair fx.KP_BadStair (fx.RS_BadStair _ rfl))) (qNil)) (qCons (qIfS (qt_w (qw_and (tNotN (m := true) (qVar 3)) (qw_and (tNotN (m := true) (qVar 4)) (qw_and1 (tLt (m := true)  (qVar 4) (qVar 3)))))) (qLast (qRzP (c := 3) rfl tk PySem.F.excBase_ValueError fx.EX_BadStair fx.G_BadStair fx.KP_BadStair (fx.RS_BadStair _ rfl))) (qNil)) (qLast (qSet (i := 3) fxo_none S_check_heights.nd (qmSh (qVar 4))))))) (qCons (qSet (i := 5) fxo_none S_check_heights.nd (qmSh (qIdx rfl (qVar 0) (qSub (qLen rfl fx.gl_len (qaCons (qVar 0) qaNil)) (qVar 1))))) (qCons (qIfS (qt_w (qw_and (tIsN (m := true) (qVar 2)) (qw_and1 (tNotN (m := true) (qVar 5))))) (qLast (qRzP (c := 3) rfl tk PySem.F.excBase_ValueError fx.EX_BadStair fx.G_BadStair fx.KP_BadStair (fx.RS_BadStair _ rfl))) (qNil)) (qLast (qIfS (qt_w (qw_and (tNotN (m := true) (qVar 2)) (qw_and1 (qt_w (qw_or (tIsN (m := true) (qVar 3)) (qw_or1 (tGt (m := true)  (qVar 3) (qAdd rfl (qVar 5) (qVar 2))))))))) (qLast (qRzP (c := 3) rfl tk PySem.F.excBase_ValueError fx.EX_BadStair fx.G_BadStair fx.KP_BadStair (fx.RS_BadStair _ rfl))) (qNil)))))))
theorem ok_least_step (fx : Fx P Γ mg ad fd dv cv cu fI) : FnOk P w Γ.K mg base (L2N.CX P w) 1 (ad 4) (fd 4) ["heights", "step", "rise"] (spP Γ F_least_step) := by
  refine qDef fx.F_least_step S_least_step rfl rfl fun cdv A outer s H E C hG hfx hr tk hp => ?_
  obtain ⟨G, He, Hz, fx0, Hx⟩ := C
  dsimp only at hG hfx
  subst hG hfx
  have hu := L3.hu_of hr
  have hrH := L2H.roomH_of hr
  have hdep := L3.dep_of hr
  unfold s_least_step
  exact qCons (qSet (i := 3) fxo_none S_least_step.nd (qmSh (qSub (qLen rfl fx.gl_len (qaCons (qVar 0) qaNil)) (qVar 1)))) (qCons (qFor (T := (.nm 4)) [4, 5] hp rfl (qiRng2 fx.gl_range (qaCons (qInt) (qaCons (qVar 1) qaNil))) (fun _ => qgName (i := 4) fxo_none S_least_step.nd) (fun _ => qLast (qIfS (qt_w (qw_and (tEq (m := true) rfl hu (qMod (qVar 1) (qVar 4)) (qInt)) (qw_and1 (tEq (m := true) rfl hu (qMod (qMul (qVar 2) (qVar 4)) (qVar 1)) (qInt))))) (qCons (qSet (i := 5) fxo_none S_least_step.nd (qmSh (qFdiv (qMul (qVar 2) (qVar 4)) (qVar 1)))) (qLast (qIfS (qtVal (m := true) (qAll rfl rfl fx.gl_all (qaCons (qFz ((qLc (T := .nm 6) rfl S_least_step.nd (qiRng2 fx.gl_range (qaCons (qVar 3) (qaCons (qSub (qAdd rfl (qVar 3) (qVar 1)) (qVar 4)) qaNil))) (own := [("k", 6)]) (blkOk_by rfl) (by decide) fxs_none (lcName (i := 6) fxo_none S_least_step.nd rfl (fun _ _ => rfl)) (fun _ _ _ _ _ => qtsNil) (fun _ _ _ _ _ => qSh (qEq rfl hu (qIdx rfl (qVar 0) (qAdd rfl (qVar 6) (qVar 4))) (qAdd rfl (qIdx rfl (qVar 0) (qVar 6)) (qVar 5))))))) qaNil))) (qLast (qRt (qmSh (qVar 4)))) (qNil)))) (qNil)))) (qLast (qRt (qmSh (qVar 1)))))
theorem ok_Stair_at (fx : Fx P Γ mg ad fd dv cv cu fI) : FnOk P w Γ.K mg base (L2N.CX P w) 1 (ad 7) (fd 7) ["self", "amount"] (spP Γ F_Stair_at) := by
  refine qDef fx.F_Stair_at S_Stair_at rfl rfl fun cdv A outer s H E C hG hfx hr tk hp => ?_
  obtain ⟨G, He, Hz, fx0, Hx⟩ := C
  dsimp only at hG hfx
  subst hG hfx
  have hu := L3.hu_of hr
  have hrH := L2H.roomH_of hr
  have hdep := L3.dep_of hr
  unfold s_Stair_at
  exact qCons (qIfS (tLt (m := true)  (qVar 1) (qInt)) (qLast (qRz (c := 1) rfl tk fx.SU_BadAmount fx.G_BadAmount fx.KP_BadAmount (fx.RS_BadAmount _ rfl) hdep (qVar 1))) (qNil)) (qCons (qIfS (tLt (m := true)  (qVar 1) (qLen rfl fx.gl_len (qaCons (qFld (ok := ok_heights) rfl fx.FL_heights (qVar 0)) qaNil))) (qLast (qRt (qmSh (qIdx rfl (qFld (ok := ok_heights) rfl fx.FL_heights (qVar 0)) (qVar 1))))) (qNil)) (qCons (qIfS (tIsN (m := true) (qFld (ok := ok_rise) rfl fx.FL_rise (qVar 0))) (qLast (qRt (qmSh (qNon)))) (qNil)) (qCons (qSet (i := 2) fxo_none S_Stair_at.nd (qmSh (qFdiv (qSub (qVar 1) (qFld (ok := ok_start) rfl fx.FL_start (qVar 0))) (qFld (ok := ok_step) rfl fx.FL_step (qVar 0))))) (qLast (qRt (qmSh (qAdd rfl (qIdx rfl (qFld (ok := ok_heights) rfl fx.FL_heights (qVar 0)) (qSub (qVar 1) (qMul (qVar 2) (qFld (ok := ok_step) rfl fx.FL_step (qVar 0))))) (qMul (qVar 2) (qFld (ok := ok_rise) rfl fx.FL_rise (qVar 0))))))))))
theorem ok_Stair_eq (fx : Fx P Γ mg ad fd dv cv cu fI) : FnOk P w Γ.K mg base (L2N.CX P w) 1 (ad 14) (fd 14) ["self", "other"] (spP Γ F_Stair_eq) := by
  refine qDef fx.F_Stair_eq S_Stair_eq rfl rfl fun cdv A outer s H E C hG hfx hr tk hp => ?_
  obtain ⟨G, He, Hz, fx0, Hx⟩ := C
  dsimp only at hG hfx
  subst hG hfx
  have hu := L3.hu_of hr
  have hrH := L2H.roomH_of hr
  have hdep := L3.dep_of hr
  unfold s_Stair_eq
  exact qCons (qIfS (qt_not (qtVal (m := true) (qIsiC (tb := tb_Stair) (ib := ic_Stair) rfl fx.gl_isinstance fx.G_Stair fx.IT_Stair fx.IC_Stair (qVar 1)))) (qLast (qRt (qmSh (qBl)))) (qNil)) (qLast (qRt (qmSh (qAnd (qEq rfl hu (qFld (ok := ok_heights) rfl fx.FL_heights (qVar 0)) (qFld (ok := ok_heights) rfl fx.FL_heights (qVar 1))) (qAnd (qEq rfl hu (qFld (ok := ok_step) rfl fx.FL_step (qVar 0)) (qFld (ok := ok_step) rfl fx.FL_step (qVar 1))) (qOne (qEq rfl hu (qFld (ok := ok_rise) rfl fx.FL_rise (qVar 0)) (qFld (ok := ok_rise) rfl fx.FL_rise (qVar 1)))))))))
theorem ok_first_none (fx : Fx P Γ mg ad fd dv cv cu fI) : FnOk P w Γ.K mg base (L2N.CX P w) 1 (ad 16) (fd 16) ["one", "two"] (spP Γ F_first_none) := by
  refine qDef fx.F_first_none S_first_none rfl rfl fun cdv A outer s H E C hG hfx hr tk hp => ?_
  obtain ⟨G, He, Hz, fx0, Hx⟩ := C
  dsimp only at hG hfx
  subst hG hfx
  have hu := L3.hu_of hr
  have hrH := L2H.roomH_of hr
  have hdep := L3.dep_of hr
  unfold s_first_none
  exact qCons (qSetLc (T := .nm 3) fxo_none rfl S_first_none.nd (qiSeq rfl (qTup (qaCons (qVar 0) (qaCons (qVar 1) qaNil)))) (own := [("stair", 3)]) (blkOk_by rfl) (by decide) fxs_none (lcName (i := 3) fxo_none S_first_none.nd rfl (fun _ _ => rfl)) (fun _ _ _ _ _ => qtsOne (tIsN (m := true) (qFld (ok := ok_rise) rfl fx.FL_rise (qVar 3)))) (fun _ _ _ _ _ => qSh (qFld (ok := ok_start) rfl fx.FL_start (qVar 3))) (sw_true rfl rfl rfl rfl)) (qFzS 2 (qLast (qRt (qmSh (qMin rfl rfl fx.gl_min (qaCons (qVar 2) qaNil))))))
theorem ok_p_law_cell (fx : Fx P Γ mg ad fd dv cv cu fI) : FnOk P w Γ.K mg base (L2N.CX P w) 1 (ad 23) (fd 23) ["script", "k"] (spP Γ F_p_law_cell) := by
  refine qDef fx.F_p_law_cell S_p_law_cell rfl rfl fun cdv A outer s H E C hG hfx hr tk hp => ?_
  obtain ⟨G, He, Hz, fx0, Hx⟩ := C
  dsimp only at hG hfx
  subst hG hfx
  have hu := L3.hu_of hr
  have hrH := L2H.roomH_of hr
  have hdep := L3.dep_of hr
  unfold s_p_law_cell
  exact qCons (qIfS (tLt (m := true)  (qVar 1) (qLen rfl fx.gl_len (qaCons (qVar 0) qaNil))) (qLast (qRt (qmSh (qIdx rfl (qVar 0) (qVar 1))))) (qNil)) (qLast (qRt (qmSh (qInt))))
theorem ok_p_law_numbers (fx : Fx P Γ mg ad fd dv cv cu fI) : FnOk P w Γ.K mg base (L2N.CX P w) 1 (ad 24) (fd 24) ["cell", "salt", "count", "many"] (spP Γ F_p_law_numbers) := by
  refine qDef fx.F_p_law_numbers S_p_law_numbers rfl rfl fun cdv A outer s H E C hG hfx hr tk hp => ?_
  obtain ⟨G, He, Hz, fx0, Hx⟩ := C
  dsimp only at hG hfx
  subst hG hfx
  have hu := L3.hu_of hr
  have hrH := L2H.roomH_of hr
  have hdep := L3.dep_of hr
  unfold s_p_law_numbers
  exact qCons (qSet (i := 4) fxo_none S_p_law_numbers.nd (qmFr (qLst qaNil))) (qCons (qSet (i := 5) fxo_none S_p_law_numbers.nd (qmSh (qAbs fx.gl_abs (qaCons (qVar 0) qaNil)))) (qCons (qSet (i := 6) fxo_none S_p_law_numbers.nd (qmSh (qGe  (qVar 5) (qPow (qInt) (qInt))))) (qCons (qFor (T := (.nm 7)) [7, 8] hp rfl (qiRng1 fx.gl_range (qaCons (qVar 2) qaNil)) (fun _ => qgName (i := 7) fxo_none S_p_law_numbers.nd) (fun _ => qLast (qIfS (qt_w (qw_and (qtVal (m := true) (qVar 6)) (qw_and1 (tGt (m := true)  (qVar 5) (qInt))))) (qCons (qApp (qpVar 4) (qmSh (qMod (qIntB fx.gl_int (qaCons (qVar 5) qaNil)) (qVar 3)))) (qLast (qSet (i := 5) fxo_none S_p_law_numbers.nd (qmSh (qFdiv (qVar 5) (qVar 3)))))) (qCons (qSet (i := 8) fxo_none S_p_law_numbers.nd (qmSh (qMod (qIntB fx.gl_int (qaCons (qAdd rfl (qAdd rfl (qAdd rfl (qAbs fx.gl_abs (qaCons (qVar 0) qaNil)) (qMul (qVar 1) (qInt))) (qMul (qVar 7) (qInt))) (qInt)) qaNil)) (qInt)))) (qCons (qSet (i := 8) fxo_none S_p_law_numbers.nd (qmSh (qMod (qIntB fx.gl_int (qaCons (qAdd rfl (qMul (qVar 8) (qInt)) (qInt)) qaNil)) (qInt)))) (qCons (qSet (i := 8) fxo_none S_p_law_numbers.nd (qmSh (qMod (qIntB fx.gl_int (qaCons (qAdd rfl (qAdd rfl (qMul (qVar 8) (qVar 8)) (qMul (qVar 8) (qInt))) (qMul (qVar 7) (qInt))) qaNil)) (qInt)))) (qLast (qApp (qpVar 4) (qmSh (qMod (qIntB fx.gl_int (qaCons (qFdiv (qVar 8) (qInt)) qaNil)) (qVar 3))))))))))) (qLast (qRt (qmMv 4))))))
theorem ok_p_law_is (fx : Fx P Γ mg ad fd dv cv cu fI) : FnOk P w Γ.K mg base (L2N.CX P w) 1 (ad 25) (fd 25) ["actual", "expected"] (spP Γ F_p_law_is) := by
  refine qDef fx.F_p_law_is S_p_law_is rfl rfl fun cdv A outer s H E C hG hfx hr tk hp => ?_
  obtain ⟨G, He, Hz, fx0, Hx⟩ := C
  dsimp only at hG hfx
  subst hG hfx
  have hu := L3.hu_of hr
  have hrH := L2H.roomH_of hr
  have hdep := L3.dep_of hr
  unfold s_p_law_is
  exact qCons (qIfS (tIsN (m := true) (qVar 1)) (qLast (qRt (qmSh (qIsN (qVar 0))))) (qNil)) (qLast (qRt (qmSh (qAnd (qIsiT (tb := tbT "int") (ib := ibc_int) rfl fx.gl_isinstance fx.gl_int bt_int tbT_ok fx.IBC_int (qVar 0)) (qAnd (qNot (qIsiT (tb := tbT "bool") (ib := ibN) rfl fx.gl_isinstance fx.gl_bool bt_bool tbT_ok ibN_ok (qVar 0))) (qOne (qEq rfl hu (qVar 0) (qVar 1))))))))
theorem okH_p_law_is (fx : Fx P Γ mg ad fd dv cv cu fI) : L2H.FnH P w Γ.K mg base (L2N.CX P w) 1 (ad 25) (fd 25) ["actual", "expected"] (spP Γ F_p_law_is) := by
  refine qDefH fx.F_p_law_is S_p_law_is rfl rfl fun cdv A outer s H E q0 C hG hfx hot hrH tk => ?_
  obtain ⟨G, He, Hz, fx0, Hx⟩ := C
  dsimp only at hG hfx
  subst hG hfx
  have hu := L3.huH_of hrH
  unfold s_p_law_is
  exact qCons (qIfS (tIsN (m := true) (qVar 1)) (qLast (qRt (qmSh (qIsN (qVar 0))))) (qNil)) (qLast (qRt (qmSh (qAnd (qIsiT (tb := tbT "int") (ib := ibc_int) rfl fx.gl_isinstance fx.gl_int bt_int tbT_ok fx.IBC_int (qVar 0)) (qAnd (qNot (qIsiT (tb := tbT "bool") (ib := ibN) rfl fx.gl_isinstance fx.gl_bool bt_bool tbT_ok ibN_ok (qVar 0))) (qOne (qEq rfl hu (qVar 0) (qVar 1))))))))
theorem ok_p_law_value (fx : Fx P Γ mg ad fd dv cv cu fI) : FnOk P w Γ.K mg base (L2N.CX P w) 1 (ad 26) (fd 26) ["heights", "step", "rise", "x"] (spP Γ F_p_law_value) := by
  refine qDef fx.F_p_law_value S_p_law_value rfl rfl fun cdv A outer s H E C hG hfx hr tk hp => ?_
  obtain ⟨G, He, Hz, fx0, Hx⟩ := C
  dsimp only at hG hfx
  subst hG hfx
  have hu := L3.hu_of hr
  have hrH := L2H.roomH_of hr
  have hdep := L3.dep_of hr
  unfold s_p_law_value
  exact qCons (qIfS (tLt (m := true)  (qVar 3) (qLen rfl fx.gl_len (qaCons (qVar 0) qaNil))) (qLast (qRt (qmSh (qIdx rfl (qVar 0) (qVar 3))))) (qNil)) (qCons (qIfS (tIsN (m := true) (qVar 2)) (qLast (qRt (qmSh (qNon)))) (qNil)) (qCons (qSet (i := 4) fxo_none S_p_law_value.nd (qmSh (qSub (qLen rfl fx.gl_len (qaCons (qVar 0) qaNil)) (qVar 1)))) (qCons (qSet (i := 5) fxo_none S_p_law_value.nd (qmSh (qFdiv (qSub (qVar 3) (qVar 4)) (qVar 1)))) (qLast (qRt (qmSh (qAdd rfl (qIdx rfl (qVar 0) (qAdd rfl (qVar 4) (qMod (qIntB fx.gl_int (qaCons (qSub (qVar 3) (qVar 4)) qaNil)) (qVar 1)))) (qMul (qVar 5) (qVar 2)))))))))
theorem ok_p_law_least (fx : Fx P Γ mg ad fd dv cv cu fI) : FnOk P w Γ.K mg base (L2N.CX P w) 1 (ad 30) (fd 30) ["x", "y"] (spP Γ F_p_law_least) := by
  refine qDef fx.F_p_law_least S_p_law_least rfl rfl fun cdv A outer s H E C hG hfx hr tk hp => ?_
  obtain ⟨G, He, Hz, fx0, Hx⟩ := C
  dsimp only at hG hfx
  subst hG hfx
  have hu := L3.hu_of hr
  have hrH := L2H.roomH_of hr
  have hdep := L3.dep_of hr
  unfold s_p_law_least
  exact qCons (qIfS (tIsN (m := true) (qVar 0)) (qLast (qRt (qmSh (qVar 1)))) (qNil)) (qCons (qIfS (tIsN (m := true) (qVar 1)) (qLast (qRt (qmSh (qVar 0)))) (qNil)) (qLast (qRt (qmSh (qMin rfl rfl fx.gl_min (qaCons (qVar 0) (qaCons (qVar 1) qaNil)))))))
theorem ok_p_law_greatest (fx : Fx P Γ mg ad fd dv cv cu fI) : FnOk P w Γ.K mg base (L2N.CX P w) 1 (ad 31) (fd 31) ["x", "y"] (spP Γ F_p_law_greatest) := by
  refine qDef fx.F_p_law_greatest S_p_law_greatest rfl rfl fun cdv A outer s H E C hG hfx hr tk hp => ?_
  obtain ⟨G, He, Hz, fx0, Hx⟩ := C
  dsimp only at hG hfx
  subst hG hfx
  have hu := L3.hu_of hr
  have hrH := L2H.roomH_of hr
  have hdep := L3.dep_of hr
  unfold s_p_law_greatest
  exact qCons (qIfS (qt_w (qw_or (tIsN (m := true) (qVar 0)) (qw_or1 (tIsN (m := true) (qVar 1))))) (qLast (qRt (qmSh (qNon)))) (qNil)) (qLast (qRt (qmSh (qMax rfl rfl fx.gl_max (qaCons (qVar 0) (qaCons (qVar 1) qaNil))))))
theorem ok_normal_form (fx : Fx P Γ mg ad fd dv cv cu fI) (k_least_step : FnOk P w Γ.K mg base (L2N.CX P w) 1 (ad 4) (fd 4) ["heights", "step", "rise"] (spP Γ F_least_step)) : FnOk P w Γ.K mg base (L2N.CX P w) 2 (ad 5) (fd 5) ["heights", "step", "rise"] (spP Γ F_normal_form) := by
  refine qDef fx.F_normal_form S_normal_form rfl rfl fun cdv A outer s H E C hG hfx hr tk hp => ?_
  obtain ⟨G, He, Hz, fx0, Hx⟩ := C
  dsimp only at hG hfx
  subst hG hfx
  have hu := L3.hu_of hr
  have hrH := L2H.roomH_of hr
  have hdep := L3.dep_of hr
  unfold s_normal_form
  exact qCons (qIfS (tIsN (m := true) (qVar 2)) (qLast (qRt (qmSh (qTup (qaCons (qSl rfl (qVar 0) qoNone (qoSome (qAdd rfl (qIndex rfl (qVar 0) (qaCons (qNon) qaNil)) (qInt)))) (qaCons (qInt) (qaCons (qNon) qaNil))))))) (qNil)) (qCons (qSet (i := 3) fxo_none S_normal_form.nd (qmSh (qFz ((qCall k_least_step (hr.mono (by decide)) tk fx.G_least_step fx.F_least_step.kp fx.B0_least_step.2 fx.B0_least_step.1 (fun _ => Reps.nil) (qaCons (qVar 0) (qaCons (qVar 1) (qaCons (qVar 2) qaNil)))))))) (qCons (qSet (i := 4) fxo_none S_normal_form.nd (qmSh (qFdiv (qMul (qVar 2) (qVar 3)) (qVar 1)))) (qCons (qSet (i := 5) fxo_none S_normal_form.nd (qmSh (qSub (qLen rfl fx.gl_len (qaCons (qVar 0) qaNil)) (qVar 1)))) (qCons (qWhile fuel_normal_form [] hp (qt_w (qw_and (tGt (m := true)  (qVar 5) (qInt)) (qw_and1 (tEq (m := true) rfl hu (qAdd rfl (qIdx rfl (qVar 0) (qSub (qVar 5) (qInt))) (qVar 4)) (qIdx rfl (qVar 0) (qAdd rfl (qSub (qVar 5) (qInt)) (qVar 3))))))) (qLast (qAugSub (i := 5) (m := true) fxo_none S_normal_form.nd (qInt)))) (qLast (qRt (qmSh (qTup (qaCons (qSl rfl (qVar 0) qoNone (qoSome (qAdd rfl (qVar 5) (qVar 3)))) (qaCons (qVar 3) (qaCons (qVar 4) qaNil)))))))))))
theorem ok_Stair_first_above (fx : Fx P Γ mg ad fd dv cv cu fI) (k_lesser : FnOk P w Γ.K mg base (L2N.CX P w) 1 (ad 0) (fd 0) ["x", "y"] (spP Γ F_lesser)) : FnOk P w Γ.K mg base (L2N.CX P w) 2 (ad 8) (fd 8) ["self", "number"] (spP Γ F_Stair_first_above) := by
  refine qDef fx.F_Stair_first_above S_Stair_first_above rfl rfl fun cdv A outer s H E C hG hfx hr tk hp => ?_
  obtain ⟨G, He, Hz, fx0, Hx⟩ := C
  dsimp only at hG hfx
  subst hG hfx
  have hu := L3.hu_of hr
  have hrH := L2H.roomH_of hr
  have hdep := L3.dep_of hr
  unfold s_Stair_first_above
  exact qCons (qFor (T := (.nm 2)) [2] hp rfl (qiRng1 fx.gl_range (qaCons (qLen rfl fx.gl_len (qaCons (qFld (ok := ok_heights) rfl fx.FL_heights (qVar 0)) qaNil)) qaNil)) (fun _ => qgName (i := 2) fxo_none S_Stair_first_above.nd) (fun _ => qLast (qIfS (qt_w (qw_or (tIsN (m := true) (qIdx rfl (qFld (ok := ok_heights) rfl fx.FL_heights (qVar 0)) (qVar 2))) (qw_or1 (tGt (m := true)  (qIdx rfl (qFld (ok := ok_heights) rfl fx.FL_heights (qVar 0)) (qVar 2)) (qVar 1))))) (qLast (qRt (qmSh (qVar 2)))) (qNil)))) (qCons (qIfS (tEq (m := true) rfl hu (qFld (ok := ok_rise) rfl fx.FL_rise (qVar 0)) (qInt)) (qLast (qRt (qmSh (qNon)))) (qNil)) (qCons (qSet (i := 3) fxo_none S_Stair_first_above.nd (qmSh (qNon))) (qCons (qFor (T := (.nm 2)) [2, 4] hp rfl (qiRng2 fx.gl_range (qaCons (qFld (ok := ok_start) rfl fx.FL_start (qVar 0)) (qaCons (qLen rfl fx.gl_len (qaCons (qFld (ok := ok_heights) rfl fx.FL_heights (qVar 0)) qaNil)) qaNil))) (fun _ => qgName (i := 2) fxo_none S_Stair_first_above.nd) (fun _ => qCons (qSet (i := 4) fxo_none S_Stair_first_above.nd (qmSh (qAdd rfl (qFdiv (qSub (qVar 1) (qIdx rfl (qFld (ok := ok_heights) rfl fx.FL_heights (qVar 0)) (qVar 2))) (qFld (ok := ok_rise) rfl fx.FL_rise (qVar 0))) (qInt)))) (qLast (qSet (i := 3) fxo_none S_Stair_first_above.nd (qmSh (qFz ((qCall k_lesser (hr.mono (by decide)) tk fx.G_lesser fx.F_lesser.kp fx.B0_lesser.2 fx.B0_lesser.1 (fun _ => Reps.nil) (qaCons (qVar 3) (qaCons (qAdd rfl (qVar 2) (qMul (qVar 4) (qFld (ok := ok_step) rfl fx.FL_step (qVar 0)))) qaNil)))))))))) (qLast (qRt (qmSh (qVar 3)))))))
theorem ok_sum_at (fx : Fx P Γ mg ad fd dv cv cu fI) (k_Stair_at : FnOk P w Γ.K mg base (L2N.CX P w) 1 (ad 7) (fd 7) ["self", "amount"] (spP Γ F_Stair_at)) (k_added : FnOk P w Γ.K mg base (L2N.CX P w) 1 (ad 2) (fd 2) ["x", "number"] (spP Γ F_added)) : FnOk P w Γ.K mg base (L2N.CX P w) 2 (ad 15) (fd 15) ["one", "two", "amount"] (spP Γ F_sum_at) := by
  refine qDef fx.F_sum_at S_sum_at rfl rfl fun cdv A outer s H E C hG hfx hr tk hp => ?_
  obtain ⟨G, He, Hz, fx0, Hx⟩ := C
  dsimp only at hG hfx
  subst hG hfx
  have hu := L3.hu_of hr
  have hrH := L2H.roomH_of hr
  have hdep := L3.dep_of hr
  unfold s_sum_at
  exact qCons (qSet (i := 3) fxo_none S_sum_at.nd (qmSh (qFz ((qMeth (c := 4) k_Stair_at fx.C_Stair fx.MT_Stair_at (hr.mono (by decide)) tk fx.B0_Stair_at.2 fx.B0_Stair_at.1 (fun _ => Reps.nil) (qVar 1) (qaCons (qVar 2) qaNil)))))) (qCons (qIfS (tIsN (m := true) (qVar 3)) (qLast (qRt (qmSh (qNon)))) (qNil)) (qLast (qRt (qmSh (qFz ((qCall k_added (hr.mono (by decide)) tk fx.G_added fx.F_added.kp fx.B0_added.2 fx.B0_added.1 (fun _ => Reps.nil) (qaCons (qFz ((qMeth (c := 4) k_Stair_at fx.C_Stair fx.MT_Stair_at (hr.mono (by decide)) tk fx.B0_Stair_at.2 fx.B0_Stair_at.1 (fun _ => Reps.nil) (qVar 0) (qaCons (qVar 2) qaNil)))) (qaCons (qVar 3) qaNil)))))))))
theorem ok_last_crossing (fx : Fx P Γ mg ad fd dv cv cu fI) (k_Stair_at : FnOk P w Γ.K mg base (L2N.CX P w) 1 (ad 7) (fd 7) ["self", "amount"] (spP Γ F_Stair_at)) : FnOk P w Γ.K mg base (L2N.CX P w) 2 (ad 17) (fd 17) ["slow", "fast"] (spP Γ F_last_crossing) := by
  refine qDef fx.F_last_crossing S_last_crossing rfl rfl fun cdv A outer s H E C hG hfx hr tk hp => ?_
  obtain ⟨G, He, Hz, fx0, Hx⟩ := C
  dsimp only at hG hfx
  subst hG hfx
  have hu := L3.hu_of hr
  have hrH := L2H.roomH_of hr
  have hdep := L3.dep_of hr
  unfold s_last_crossing
  exact qCons (qSet (i := 2) fxo_none S_last_crossing.nd (qmSh (qLcm fx.GB_lcm (qaCons (qFld (ok := ok_step) rfl fx.FL_step (qVar 0)) (qaCons (qFld (ok := ok_step) rfl fx.FL_step (qVar 1)) qaNil))))) (qCons (qSet (i := 3) fxo_none S_last_crossing.nd (qmSh (qSub (qMul (qFld (ok := ok_rise) rfl fx.FL_rise (qVar 1)) (qFdiv (qVar 2) (qFld (ok := ok_step) rfl fx.FL_step (qVar 1)))) (qMul (qFld (ok := ok_rise) rfl fx.FL_rise (qVar 0)) (qFdiv (qVar 2) (qFld (ok := ok_step) rfl fx.FL_step (qVar 0))))))) (qCons (qSet (i := 4) fxo_none S_last_crossing.nd (qmSh (qNeg (qInt)))) (qCons (qSet (i := 5) fxo_none S_last_crossing.nd (qmSh (qMax rfl rfl fx.gl_max (qaCons (qFld (ok := ok_start) rfl fx.FL_start (qVar 0)) (qaCons (qFld (ok := ok_start) rfl fx.FL_start (qVar 1)) qaNil))))) (qCons (qFor (T := (.nm 6)) [6, 7] hp rfl (qiRng2 fx.gl_range (qaCons (qVar 5) (qaCons (qAdd rfl (qVar 5) (qVar 2)) qaNil))) (fun _ => qgName (i := 6) fxo_none S_last_crossing.nd) (fun _ => qCons (qSet (i := 7) fxo_none S_last_crossing.nd (qmSh (qSub (qFz ((qMeth (c := 4) k_Stair_at fx.C_Stair fx.MT_Stair_at (hr.mono (by decide)) tk fx.B0_Stair_at.2 fx.B0_Stair_at.1 (fun _ => Reps.nil) (qVar 0) (qaCons (qVar 6) qaNil)))) (qFz ((qMeth (c := 4) k_Stair_at fx.C_Stair fx.MT_Stair_at (hr.mono (by decide)) tk fx.B0_Stair_at.2 fx.B0_Stair_at.1 (fun _ => Reps.nil) (qVar 1) (qaCons (qVar 6) qaNil))))))) (qLast (qIfS (tGt (m := true)  (qVar 7) (qInt)) (qLast (qSet (i := 4) fxo_none S_last_crossing.nd (qmSh (qMax rfl rfl fx.gl_max (qaCons (qVar 4) (qaCons (qAdd rfl (qVar 6) (qMul (qFdiv (qSub (qVar 7) (qInt)) (qVar 3)) (qVar 2))) qaNil)))))) (qNil))))) (qLast (qRt (qmSh (qVar 4))))))))
theorem ok_sum_form (fx : Fx P Γ mg ad fd dv cv cu fI) (k_first_none : FnOk P w Γ.K mg base (L2N.CX P w) 1 (ad 16) (fd 16) ["one", "two"] (spP Γ F_first_none)) : FnOk P w Γ.K mg base (L2N.CX P w) 2 (ad 22) (fd 22) ["one", "two"] (spP Γ F_sum_form) := by
  refine qDef fx.F_sum_form S_sum_form rfl rfl fun cdv A outer s H E C hG hfx hr tk hp => ?_
  obtain ⟨G, He, Hz, fx0, Hx⟩ := C
  dsimp only at hG hfx
  subst hG hfx
  have hu := L3.hu_of hr
  have hrH := L2H.roomH_of hr
  have hdep := L3.dep_of hr
  unfold s_sum_form
  exact qCons (qIfS (qt_w (qw_or (tIsN (m := true) (qFld (ok := ok_rise) rfl fx.FL_rise (qVar 0))) (qw_or1 (tIsN (m := true) (qFld (ok := ok_rise) rfl fx.FL_rise (qVar 1)))))) (qLast (qRt (qmSh (qTup (qaCons (qAdd rfl (qFz ((qCall k_first_none (hr.mono (by decide)) tk fx.G_first_none fx.F_first_none.kp fx.B0_first_none.2 fx.B0_first_none.1 (fun _ => Reps.nil) (qaCons (qVar 0) (qaCons (qVar 1) qaNil))))) (qInt)) (qaCons (qInt) (qaCons (qNon) qaNil))))))) (qNil)) (qCons (qSet (i := 2) fxo_none S_sum_form.nd (qmSh (qLcm fx.GB_lcm (qaCons (qFld (ok := ok_step) rfl fx.FL_step (qVar 0)) (qaCons (qFld (ok := ok_step) rfl fx.FL_step (qVar 1)) qaNil))))) (qCons (qSet (i := 3) fxo_none S_sum_form.nd (qmSh (qAdd rfl (qMul (qFld (ok := ok_rise) rfl fx.FL_rise (qVar 0)) (qFdiv (qVar 2) (qFld (ok := ok_step) rfl fx.FL_step (qVar 0)))) (qMul (qFld (ok := ok_rise) rfl fx.FL_rise (qVar 1)) (qFdiv (qVar 2) (qFld (ok := ok_step) rfl fx.FL_step (qVar 1))))))) (qLast (qRt (qmSh (qTup (qaCons (qAdd rfl (qMax rfl rfl fx.gl_max (qaCons (qFld (ok := ok_start) rfl fx.FL_start (qVar 0)) (qaCons (qFld (ok := ok_start) rfl fx.FL_start (qVar 1)) qaNil))) (qVar 2)) (qaCons (qVar 2) (qaCons (qVar 3) qaNil)))))))))
theorem ok_p_law_normal (fx : Fx P Γ mg ad fd dv cv cu fI) (k_p_law_value : FnOk P w Γ.K mg base (L2N.CX P w) 1 (ad 26) (fd 26) ["heights", "step", "rise", "x"] (spP Γ F_p_law_value)) : FnOk P w Γ.K mg base (L2N.CX P w) 2 (ad 27) (fd 27) ["heights", "step", "rise"] (spP Γ F_p_law_normal) := by
  refine qDef fx.F_p_law_normal S_p_law_normal rfl rfl fun cdv A outer s H E C hG hfx hr tk hp => ?_
  obtain ⟨G, He, Hz, fx0, Hx⟩ := C
  dsimp only at hG hfx
  subst hG hfx
  have hu := L3.hu_of hr
  have hrH := L2H.roomH_of hr
  have hdep := L3.dep_of hr
  unfold s_p_law_normal
  exact qCons (qIfS (tIsN (m := true) (qVar 2)) (qLast (qFor (T := (.nm 3)) [3] hp rfl (qiRng1 fx.gl_range (qaCons (qLen rfl fx.gl_len (qaCons (qVar 0) qaNil)) qaNil)) (fun _ => qgName (i := 3) fxo_none S_p_law_normal.nd) (fun _ => qLast (qIfS (tIsN (m := true) (qIdx rfl (qVar 0) (qVar 3))) (qLast (qRt (qmSh (qFz (qLst (qaCons (qSl rfl (qVar 0) qoNone (qoSome (qAdd rfl (qVar 3) (qInt)))) (qaCons (qInt) (qaCons (qNon) qaNil)))))))) (qNil))))) (qNil)) (qCons (qFor (T := (.nm 4)) [3, 4, 5, 6] hp rfl (qiRng2 fx.gl_range (qaCons (qInt) (qaCons (qAdd rfl (qVar 1) (qInt)) qaNil))) (fun _ => qgName (i := 4) fxo_none S_p_law_normal.nd) (fun _ => qLast (qIfS (tEq (m := true) rfl hu (qMod (qIntB fx.gl_int (qaCons (qMul (qVar 2) (qVar 4)) qaNil)) (qVar 1)) (qInt)) (qCons (qSet (i := 5) fxo_none S_p_law_normal.nd (qmSh (qFdiv (qMul (qVar 2) (qVar 4)) (qVar 1)))) (qCons (qSet (i := 6) fxo_none S_p_law_normal.nd (qmSh (qLen rfl fx.gl_len (qaCons (qVar 0) qaNil)))) (qCons (qFor (T := (.nm 3)) [3] hp rfl (qiRng1 fx.gl_range (qaCons (qLen rfl fx.gl_len (qaCons (qVar 0) qaNil)) qaNil)) (fun _ => qgName (i := 3) fxo_none S_p_law_normal.nd) (fun _ => qCons (qSet (i := 7) fxo_none S_p_law_normal.nd (qmSh (qSub (qSub (qLen rfl fx.gl_len (qaCons (qVar 0) qaNil)) (qInt)) (qVar 3)))) (qLast (qIfS (qt_w (qw_and (tEq (m := true) rfl hu (qVar 6) (qAdd rfl (qVar 7) (qInt))) (qw_and1 (tEq (m := true) rfl hu (qFz ((qCall k_p_law_value (hr.mono (by decide)) tk fx.G_p_law_value fx.F_p_law_value.kp fx.B0_p_law_value.2 fx.B0_p_law_value.1 (fun _ => Reps.nil) (qaCons (qVar 0) (qaCons (qVar 1) (qaCons (qVar 2) (qaCons (qAdd rfl (qVar 7) (qVar 4)) qaNil))))))) (qAdd rfl (qIdx rfl (qVar 0) (qVar 7)) (qVar 5)))))) (qLast (qSet (i := 6) fxo_none S_p_law_normal.nd (qmSh (qVar 7)))) (qNil))))) (qLast (qIfS (tLe (m := true)  (qVar 6) (qSub (qLen rfl fx.gl_len (qaCons (qVar 0) qaNil)) (qVar 1))) (qLast (qRt (qmSh (qFz (qLst (qaCons (qFz ((qLc (T := .nm 7) rfl S_p_law_normal.nd (qiRng1 fx.gl_range (qaCons (qAdd rfl (qVar 6) (qVar 4)) qaNil)) (own := [("x", 7)]) (blkOk_by rfl) (by decide) fxs_none (lcName (i := 7) fxo_none S_p_law_normal.nd rfl (fun _ _ => rfl)) (fun _ _ _ _ _ => qtsNil) (fun _ _ _ _ _ => qSh (qFz ((qCall k_p_law_value (hr.mono (by decide)) takes0 fx.G_p_law_value fx.F_p_law_value.kp fx.B0_p_law_value.2 fx.B0_p_law_value.1 (fun _ => Reps.nil) (qaCons (qVar 0) (qaCons (qVar 1) (qaCons (qVar 2) (qaCons (qVar 7) qaNil))))))))))) (qaCons (qVar 4) (qaCons (qVar 5) qaNil)))))))) (qNil)))))) (qNil)))) (qLast (qRt (qmSh (qFz (qLst (qaCons (qVar 0) (qaCons (qVar 1) (qaCons (qVar 2) qaNil)))))))))
theorem ok_p_law_same (fx : Fx P Γ mg ad fd dv cv cu fI) (k_p_law_is : FnOk P w Γ.K mg base (L2N.CX P w) 1 (ad 25) (fd 25) ["actual", "expected"] (spP Γ F_p_law_is)) : FnOk P w Γ.K mg base (L2N.CX P w) 2 (ad 28) (fd 28) ["stair", "due"] (spP Γ F_p_law_same) := by
  refine qDef fx.F_p_law_same S_p_law_same rfl rfl fun cdv A outer s H E C hG hfx hr tk hp => ?_
  obtain ⟨G, He, Hz, fx0, Hx⟩ := C
  dsimp only at hG hfx
  subst hG hfx
  have hu := L3.hu_of hr
  have hrH := L2H.roomH_of hr
  have hdep := L3.dep_of hr
  unfold s_p_law_same
  exact qCons (qSet (i := 2) fxo_none S_p_law_same.nd (qmSh (qFld (ok := ok_heights) rfl fx.FL_heights (qVar 0)))) (qCons (qIfS (qt_w (qw_or (qt_not (qtVal (m := true) (qIsiT (tb := tbT "tuple") (ib := ibN) rfl fx.gl_isinstance fx.gl_tuple bt_tuple tbT_ok ibN_ok (qVar 2)))) (qw_or1 (tNe (m := true) rfl hu (qLen rfl fx.gl_len (qaCons (qVar 2) qaNil)) (qLen rfl fx.gl_len (qaCons (qIdx rfl (qVar 1) (qInt)) qaNil)))))) (qLast (qRt (qmSh (qBl)))) (qNil)) (qCons (qFor (T := (.nm 3)) [3] hp rfl (qiRng1 fx.gl_range (qaCons (qLen rfl fx.gl_len (qaCons (qVar 2) qaNil)) qaNil)) (fun _ => qgName (i := 3) fxo_none S_p_law_same.nd) (fun _ => qLast (qIfS (qt_not (qtVal (m := true) (qFz ((qCall k_p_law_is (hr.mono (by decide)) tk fx.G_p_law_is fx.F_p_law_is.kp fx.B0_p_law_is.2 fx.B0_p_law_is.1 (fun _ => Reps.nil) (qaCons (qIdx rfl (qVar 2) (qVar 3)) (qaCons (qIdx rfl (qIdx rfl (qVar 1) (qInt)) (qVar 3)) qaNil))))))) (qLast (qRt (qmSh (qBl)))) (qNil)))) (qCons (qIfS (qt_not (qtVal (m := true) (qFz ((qCall k_p_law_is (hr.mono (by decide)) tk fx.G_p_law_is fx.F_p_law_is.kp fx.B0_p_law_is.2 fx.B0_p_law_is.1 (fun _ => Reps.nil) (qaCons (qFld (ok := ok_start) rfl fx.FL_start (qVar 0)) (qaCons (qSub (qLen rfl fx.gl_len (qaCons (qIdx rfl (qVar 1) (qInt)) qaNil)) (qIdx rfl (qVar 1) (qInt))) qaNil))))))) (qLast (qRt (qmSh (qBl)))) (qNil)) (qLast (qRt (qmSh (qAnd (qFz ((qCall k_p_law_is (hr.mono (by decide)) tk fx.G_p_law_is fx.F_p_law_is.kp fx.B0_p_law_is.2 fx.B0_p_law_is.1 (fun _ => Reps.nil) (qaCons (qFld (ok := ok_step) rfl fx.FL_step (qVar 0)) (qaCons (qIdx rfl (qVar 1) (qInt)) qaNil))))) (qOne (qFz ((qCall k_p_law_is (hr.mono (by decide)) tk fx.G_p_law_is fx.F_p_law_is.kp fx.B0_p_law_is.2 fx.B0_p_law_is.1 (fun _ => Reps.nil) (qaCons (qFld (ok := ok_rise) rfl fx.FL_rise (qVar 0)) (qaCons (qIdx rfl (qVar 1) (qInt)) qaNil)))))))))))))
theorem ok_p_law_told (fx : Fx P Γ mg ad fd dv cv cu fI) (k_p_law_cell : FnOk P w Γ.K mg base (L2N.CX P w) 1 (ad 23) (fd 23) ["script", "k"] (spP Γ F_p_law_cell)) (k_p_law_numbers : FnOk P w Γ.K mg base (L2N.CX P w) 1 (ad 24) (fd 24) ["cell", "salt", "count", "many"] (spP Γ F_p_law_numbers)) (k_p_law_value : FnOk P w Γ.K mg base (L2N.CX P w) 1 (ad 26) (fd 26) ["heights", "step", "rise", "x"] (spP Γ F_p_law_value)) : FnOk P w Γ.K mg base (L2N.CX P w) 2 (ad 29) (fd 29) ["script", "salt"] (spP Γ F_p_law_told) := by
  refine qDef fx.F_p_law_told S_p_law_told rfl rfl fun cdv A outer s H E C hG hfx hr tk hp => ?_
  obtain ⟨G, He, Hz, fx0, Hx⟩ := C
  dsimp only at hG hfx
  subst hG hfx
  have hu := L3.hu_of hr
  have hrH := L2H.roomH_of hr
  have hdep := L3.dep_of hr
  unfold s_p_law_told
  exact qCons (qSet (i := 2) fxo_none S_p_law_told.nd (qmSh (qFz ((qCall k_p_law_numbers (hr.mono (by decide)) tk fx.G_p_law_numbers fx.F_p_law_numbers.kp fx.B0_p_law_numbers.2 fx.B0_p_law_numbers.1 (fun _ => Reps.nil) (qaCons (qFz ((qCall k_p_law_cell (hr.mono (by decide)) tk fx.G_p_law_cell fx.F_p_law_cell.kp fx.B0_p_law_cell.2 fx.B0_p_law_cell.1 (fun _ => Reps.nil) (qaCons (qVar 0) (qaCons (qVar 1) qaNil))))) (qaCons (qVar 1) (qaCons (qInt) (qaCons (qInt) qaNil))))))))) (qCons (qSet (i := 3) fxo_none S_p_law_told.nd (qmSh (qMod (qIdx rfl (qVar 2) (qInt)) (qInt)))) (qCons (qSet (i := 4) fxo_none S_p_law_told.nd (qmSh (qAdd rfl (qInt) (qMod (qIdx rfl (qVar 2) (qInt)) (qInt))))) (qCons (qSet (i := 5) fxo_none S_p_law_told.nd (qmFr (qLst qaNil))) (qCons (qSet (i := 6) fxo_none S_p_law_told.nd (qmSh (qInt))) (qCons (qFor (T := (.nm 7)) [7] hp rfl (qiSeq rfl (qFz ((qCall k_p_law_numbers (hr.mono (by decide)) tk fx.G_p_law_numbers fx.F_p_law_numbers.kp fx.B0_p_law_numbers.2 fx.B0_p_law_numbers.1 (fun _ => Reps.nil) (qaCons (qFz ((qCall k_p_law_cell (hr.mono (by decide)) tk fx.G_p_law_cell fx.F_p_law_cell.kp fx.B0_p_law_cell.2 fx.B0_p_law_cell.1 (fun _ => Reps.nil) (qaCons (qVar 0) (qaCons (qAdd rfl (qVar 1) (qInt)) qaNil))))) (qaCons (qAdd rfl (qVar 1) (qInt)) (qaCons (qAdd rfl (qVar 3) (qVar 4)) (qaCons (qInt) qaNil)))))))) (fun _ => qgName (i := 7) fxo_none S_p_law_told.nd) (fun _ => qCons (qSet (i := 6) fxo_none S_p_law_told.nd (qmSh (qAdd rfl (qVar 6) (qVar 7)))) (qLast (qApp (qpVar 5) (qmSh (qVar 6)))))) (qFzS 5 (qCons (qIfS (tEq (m := true) rfl hu (qMod (qIdx rfl (qVar 2) (qInt)) (qInt)) (qInt)) (qCons (qSet (i := 8) fxo_none S_p_law_told.nd (qmSh (qAdd rfl (qInt) (qMod (qIdx rfl (qVar 2) (qInt)) (qInt))))) (qLast (qRt (qmSh (qFz (qLst (qaCons (qAdd rfl (qSl rfl (qVar 5) qoNone (qoSome (qVar 3))) (qMul (qFz (qLst (qaCons (qNon) qaNil))) (qVar 8))) (qaCons (qAdd rfl (qInt) (qMod (qIdx rfl (qVar 2) (qInt)) (qVar 8))) (qaCons (qNon) qaNil))))))))) (qNil)) (qCons (qSet (i := 9) fxo_none S_p_law_told.nd (qmSh (qAdd rfl (qSub (qIdx rfl (qVar 5) (qNeg (qInt))) (qIdx rfl (qVar 5) (qVar 3))) (qMod (qIdx rfl (qVar 2) (qInt)) (qInt))))) (qCons (qSet (i := 10) fxo_none S_p_law_told.nd (qmSh (qAdd rfl (qInt) (qMod (qIdx rfl (qVar 2) (qInt)) (qInt))))) (qCons (qSet (i := 11) fxo_none S_p_law_told.nd (qmSh (qAdd rfl (qAdd rfl (qVar 3) (qMod (qIdx rfl (qVar 2) (qInt)) (qInt))) (qMul (qVar 4) (qVar 10))))) (qLast (qRt (qmSh (qFz (qLst (qaCons (qFz ((qLc (T := .nm 12) rfl S_p_law_told.nd (qiRng1 fx.gl_range (qaCons (qVar 11) qaNil)) (own := [("x", 12)]) (blkOk_by rfl) (by decide) fxs_none (lcName (i := 12) fxo_none S_p_law_told.nd rfl (fun _ _ => rfl)) (fun _ _ _ _ _ => qtsNil) (fun _ _ _ _ _ => qSh (qFz ((qCall k_p_law_value (hr.mono (by decide)) takes0 fx.G_p_law_value fx.F_p_law_value.kp fx.B0_p_law_value.2 fx.B0_p_law_value.1 (fun _ => Reps.nil) (qaCons (qVar 5) (qaCons (qVar 4) (qaCons (qVar 9) (qaCons (qVar 12) qaNil))))))))))) (qaCons (qMul (qVar 4) (qVar 10)) (qaCons (qMul (qVar 9) (qVar 10)) qaNil))))))))))))))))))
theorem ok_p_law_due (fx : Fx P Γ mg ad fd dv cv cu fI) (k_p_law_greatest : FnOk P w Γ.K mg base (L2N.CX P w) 1 (ad 31) (fd 31) ["x", "y"] (spP Γ F_p_law_greatest)) (k_p_law_least : FnOk P w Γ.K mg base (L2N.CX P w) 1 (ad 30) (fd 30) ["x", "y"] (spP Γ F_p_law_least)) : FnOk P w Γ.K mg base (L2N.CX P w) 2 (ad 32) (fd 32) ["deed", "x", "y", "ticks"] (spP Γ F_p_law_due) := by
  refine qDef fx.F_p_law_due S_p_law_due rfl rfl fun cdv A outer s H E C hG hfx hr tk hp => ?_
  obtain ⟨G, He, Hz, fx0, Hx⟩ := C
  dsimp only at hG hfx
  subst hG hfx
  have hu := L3.hu_of hr
  have hrH := L2H.roomH_of hr
  have hdep := L3.dep_of hr
  unfold s_p_law_due
  exact qCons (qIfS (tEq (m := true) rfl hu (qVar 0) (qInt)) (qLast (qRt (qmSh (qFz ((qCall k_p_law_least (hr.mono (by decide)) tk fx.G_p_law_least fx.F_p_law_least.kp fx.B0_p_law_least.2 fx.B0_p_law_least.1 (fun _ => Reps.nil) (qaCons (qVar 1) (qaCons (qVar 2) qaNil)))))))) (qNil)) (qCons (qIfS (tEq (m := true) rfl hu (qVar 0) (qInt)) (qLast (qRt (qmSh (qFz ((qCall k_p_law_greatest (hr.mono (by decide)) tk fx.G_p_law_greatest fx.F_p_law_greatest.kp fx.B0_p_law_greatest.2 fx.B0_p_law_greatest.1 (fun _ => Reps.nil) (qaCons (qVar 1) (qaCons (qVar 2) qaNil)))))))) (qNil)) (qCons (qIfS (qt_w (qw_or (tIsN (m := true) (qVar 1)) (qw_or1 (qt_w (qw_and (tEq (m := true) rfl hu (qVar 0) (qInt)) (qw_and1 (tIsN (m := true) (qVar 2)))))))) (qLast (qRt (qmSh (qNon)))) (qNil)) (qCons (qIfS (tEq (m := true) rfl hu (qVar 0) (qInt)) (qLast (qRt (qmSh (qAdd rfl (qVar 1) (qVar 2))))) (qNil)) (qCons (qIfS (tEq (m := true) rfl hu (qVar 0) (qInt)) (qLast (qRt (qmSh (qAdd rfl (qVar 1) (qVar 3))))) (qNil)) (qLast (qRt (qmSh (qMax rfl rfl fx.gl_max (qaCons (qInt) (qaCons (qSub (qVar 1) (qVar 3)) qaNil))))))))))
theorem ok_Stair_init (fx : Fx P Γ mg ad fd dv cv cu fI) (k_check_heights : FnOk P w Γ.K mg base (L2N.CX P w) 1 (ad 3) (fd 3) ["heights", "step", "rise"] (spP Γ F_check_heights)) (k_normal_form : FnOk P w Γ.K mg base (L2N.CX P w) 2 (ad 5) (fd 5) ["heights", "step", "rise"] (spP Γ F_normal_form)) : FnOk P w Γ.K mg base (L2N.CX P w) 3 (ad 6) (fd 6) ["self", "heights", "step", "rise"] (spI Γ 4 F_Stair_init) := by
  refine qInit fx.F_Stair_init S_Stair_init rfl rfl fun cdv A outer s H E self C hG hfx hr tk hp => ?_
  obtain ⟨G, He, Hz, fx0, Hx⟩ := C
  dsimp only at hG hfx
  subst hG hfx
  have hu := L3.hu_of hr
  have hrH := L2H.roomH_of hr
  have hdep := L3.dep_of hr
  unfold s_Stair_init
  exact qCons (qSet (i := 4) (fxo_some (by decide)) S_Stair_init.nd (qmSh (qFz (qList rfl fx.gl_list (qaCons (qVar 1) qaNil))))) (qCons (qDoF ((qCall k_check_heights (hr.mono (by decide)) tk fx.G_check_heights fx.F_check_heights.kp fx.B0_check_heights.2 fx.B0_check_heights.1 (fun _ => Reps.nil) (qaCons (qVar 4) (qaCons (qVar 2) (qaCons (qVar 3) qaNil)))))) (qCons (qTg (qFz ((qCall k_normal_form (hr.mono (by decide)) tk fx.G_normal_form fx.F_normal_form.kp fx.B0_normal_form.2 fx.B0_normal_form.1 (fun _ => Reps.nil) (qaCons (qVar 4) (qaCons (qVar 2) (qaCons (qVar 3) qaNil)))))) (qgTup rfl rfl (qgsCons (i := 5) (fxo_some (by decide)) S_Stair_init.nd (qgsCons (i := 6) (fxo_some (by decide)) S_Stair_init.nd (qgsCons (i := 7) (fxo_some (by decide)) S_Stair_init.nd qgsNil))))) (qCons (qIfS (tGt (m := true)  (qLen rfl fx.gl_len (qaCons (qVar 5) qaNil)) (qGlob fx.G_MOST_HEIGHTS.1 fx.G_MOST_HEIGHTS.2 fx.R_MOST_HEIGHTS)) (qLast (qRz (c := 2) rfl tk fx.SU_TooMany fx.G_TooMany fx.KP_TooMany (fx.RS_TooMany _ rfl) hdep (qGlob fx.G_MOST_HEIGHTS.1 fx.G_MOST_HEIGHTS.2 fx.R_MOST_HEIGHTS))) (qNil)) (qCons (qFl (ok := ok_heights) rfl fx.FL_heights (qmSh (qTuple rfl fx.gl_tuple (qaCons (qVar 5) qaNil))) (qpVar 0)) (qCons (qFl (ok := ok_start) rfl fx.FL_start (qmSh (qSub (qLen rfl fx.gl_len (qaCons (qVar 5) qaNil)) (qVar 6))) (qpVar 0)) (qCons (qFl (ok := ok_step) rfl fx.FL_step (qmSh (qVar 6)) (qpVar 0)) (qLast (qFl (ok := ok_rise) rfl fx.FL_rise (qmSh (qVar 7)) (qpVar 0)))))))))
theorem ok_crossed_form (fx : Fx P Γ mg ad fd dv cv cu fI) (k_last_crossing : FnOk P w Γ.K mg base (L2N.CX P w) 2 (ad 17) (fd 17) ["slow", "fast"] (spP Γ F_last_crossing)) : FnOk P w Γ.K mg base (L2N.CX P w) 3 (ad 18) (fd 18) ["slow", "fast", "final"] (spP Γ F_crossed_form) := by
  refine qDef fx.F_crossed_form S_crossed_form rfl rfl fun cdv A outer s H E C hG hfx hr tk hp => ?_
  obtain ⟨G, He, Hz, fx0, Hx⟩ := C
  dsimp only at hG hfx
  subst hG hfx
  have hu := L3.hu_of hr
  have hrH := L2H.roomH_of hr
  have hdep := L3.dep_of hr
  unfold s_crossed_form
  exact qCons (qSet (i := 3) fxo_none S_crossed_form.nd (qmSh (qFz ((qCall k_last_crossing (hr.mono (by decide)) tk fx.G_last_crossing fx.F_last_crossing.kp fx.B0_last_crossing.2 fx.B0_last_crossing.1 (fun _ => Reps.nil) (qaCons (qVar 0) (qaCons (qVar 1) qaNil))))))) (qCons (qIfS (tLt (m := true)  (qVar 3) (qInt)) (qLast (qRt (qmSh (qTup (qaCons (qAdd rfl (qMax rfl rfl fx.gl_max (qaCons (qFld (ok := ok_start) rfl fx.FL_start (qVar 0)) (qaCons (qFld (ok := ok_start) rfl fx.FL_start (qVar 1)) qaNil))) (qFld (ok := ok_step) rfl fx.FL_step (qVar 2))) (qaCons (qFld (ok := ok_step) rfl fx.FL_step (qVar 2)) (qaCons (qFld (ok := ok_rise) rfl fx.FL_rise (qVar 2)) qaNil))))))) (qNil)) (qCons (qIfS (tGt (m := true)  (qAdd rfl (qAdd rfl (qVar 3) (qInt)) (qFld (ok := ok_step) rfl fx.FL_step (qVar 2))) (qGlob fx.G_MOST_HEIGHTS.1 fx.G_MOST_HEIGHTS.2 fx.R_MOST_HEIGHTS)) (qLast (qRz (c := 2) rfl tk fx.SU_TooMany fx.G_TooMany fx.KP_TooMany (fx.RS_TooMany _ rfl) hdep (qGlob fx.G_MOST_HEIGHTS.1 fx.G_MOST_HEIGHTS.2 fx.R_MOST_HEIGHTS))) (qNil)) (qLast (qRt (qmSh (qTup (qaCons (qAdd rfl (qAdd rfl (qVar 3) (qInt)) (qFld (ok := ok_step) rfl fx.FL_step (qVar 2))) (qaCons (qFld (ok := ok_step) rfl fx.FL_step (qVar 2)) (qaCons (qFld (ok := ok_rise) rfl fx.FL_rise (qVar 2)) qaNil)))))))))
theorem ok_both_form (fx : Fx P Γ mg ad fd dv cv cu fI) (k_crossed_form : FnOk P w Γ.K mg base (L2N.CX P w) 3 (ad 18) (fd 18) ["slow", "fast", "final"] (spP Γ F_crossed_form)) : FnOk P w Γ.K mg base (L2N.CX P w) 4 (ad 19) (fd 19) ["one", "two", "least"] (spP Γ F_both_form) := by
  refine qDef fx.F_both_form S_both_form rfl rfl fun cdv A outer s H E C hG hfx hr tk hp => ?_
  obtain ⟨G, He, Hz, fx0, Hx⟩ := C
  dsimp only at hG hfx
  subst hG hfx
  have hu := L3.hu_of hr
  have hrH := L2H.roomH_of hr
  have hdep := L3.dep_of hr
  unfold s_both_form
  exact qCons (qSet (i := 3) fxo_none S_both_form.nd (qmSh (qSub (qMul (qFld (ok := ok_rise) rfl fx.FL_rise (qVar 0)) (qFld (ok := ok_step) rfl fx.FL_step (qVar 1))) (qMul (qFld (ok := ok_rise) rfl fx.FL_rise (qVar 1)) (qFld (ok := ok_step) rfl fx.FL_step (qVar 0)))))) (qCons (qIfS (tEq (m := true) rfl hu (qVar 3) (qInt)) (qCons (qSet (i := 4) fxo_none S_both_form.nd (qmSh (qLcm fx.GB_lcm (qaCons (qFld (ok := ok_step) rfl fx.FL_step (qVar 0)) (qaCons (qFld (ok := ok_step) rfl fx.FL_step (qVar 1)) qaNil))))) (qLast (qRt (qmSh (qTup (qaCons (qAdd rfl (qMax rfl rfl fx.gl_max (qaCons (qFld (ok := ok_start) rfl fx.FL_start (qVar 0)) (qaCons (qFld (ok := ok_start) rfl fx.FL_start (qVar 1)) qaNil))) (qVar 4)) (qaCons (qVar 4) (qaCons (qMul (qFld (ok := ok_rise) rfl fx.FL_rise (qVar 0)) (qFdiv (qVar 4) (qFld (ok := ok_step) rfl fx.FL_step (qVar 0)))) qaNil)))))))) (qNil)) (qCons (qSet (i := 5) fxo_none S_both_form.nd (qmSh (qIf (tGt (m := true)  (qVar 3) (qInt)) (qVar 1) (qVar 0)))) (qCons (qSet (i := 6) fxo_none S_both_form.nd (qmSh (qIf (tGt (m := true)  (qVar 3) (qInt)) (qVar 0) (qVar 1)))) (qLast (qRt (qmSh (qFz ((qCall k_crossed_form (hr.mono (by decide)) tk fx.G_crossed_form fx.F_crossed_form.kp fx.B0_crossed_form.2 fx.B0_crossed_form.1 (fun _ => Reps.nil) (qaCons (qVar 5) (qaCons (qVar 6) (qaCons (qIf (qtVal (m := true) (qVar 2)) (qVar 5) (qVar 6)) qaNil))))))))))))
theorem ok_Stair_later (fx : Fx P Γ mg ad fd dv cv cu fI) (k_Stair_init : FnOk P w Γ.K mg base (L2N.CX P w) 3 (ad 6) (fd 6) ["self", "heights", "step", "rise"] (spI Γ 4 F_Stair_init)) (k_Stair_at : FnOk P w Γ.K mg base (L2N.CX P w) 1 (ad 7) (fd 7) ["self", "amount"] (spP Γ F_Stair_at)) : FnOk P w Γ.K mg base (L2N.CX P w) 5 (ad 9) (fd 9) ["self", "ticks"] (spP Γ F_Stair_later) := by
  refine qDef fx.F_Stair_later S_Stair_later rfl rfl fun cdv A outer s H E C hG hfx hr tk hp => ?_
  obtain ⟨G, He, Hz, fx0, Hx⟩ := C
  dsimp only at hG hfx
  subst hG hfx
  have hu := L3.hu_of hr
  have hrH := L2H.roomH_of hr
  have hdep := L3.dep_of hr
  unfold s_Stair_later
  exact qCons (qIfS (tLt (m := true)  (qVar 1) (qInt)) (qLast (qRz (c := 1) rfl tk fx.SU_BadAmount fx.G_BadAmount fx.KP_BadAmount (fx.RS_BadAmount _ rfl) hdep (qVar 1))) (qNil)) (qCons (qSet (i := 2) fxo_none S_Stair_later.nd (qmSh (qAdd rfl (qMax rfl rfl fx.gl_max (qaCons (qSub (qFld (ok := ok_start) rfl fx.FL_start (qVar 0)) (qVar 1)) (qaCons (qInt) qaNil))) (qFld (ok := ok_step) rfl fx.FL_step (qVar 0))))) (qLast (qRt (qmFr ((qMake (c := 4) k_Stair_init fx.M_Stair (hr.mono (by decide)) tk fx.G_Stair fx.B0_Stair_init.2 fx.B0_Stair_init.1 (fun _ => Reps.nil) (qaCons (qFz ((qLc (T := .nm 3) rfl S_Stair_later.nd (qiRng1 fx.gl_range (qaCons (qVar 2) qaNil)) (own := [("amount", 3)]) (blkOk_by rfl) (by decide) fxs_none (lcName (i := 3) fxo_none S_Stair_later.nd rfl (fun _ _ => rfl)) (fun _ _ _ _ _ => qtsNil) (fun _ _ _ _ _ => qSh (qFz ((qMeth (c := 4) k_Stair_at fx.C_Stair fx.MT_Stair_at (hr.mono (by decide)) takes0 fx.B0_Stair_at.2 fx.B0_Stair_at.1 (fun _ => Reps.nil) (qVar 0) (qaCons (qAdd rfl (qVar 3) (qVar 1)) qaNil)))))))) (qaCons (qFld (ok := ok_step) rfl fx.FL_step (qVar 0)) (qaCons (qFld (ok := ok_rise) rfl fx.FL_rise (qVar 0)) qaNil)))))))))
theorem ok_Stair_lowered (fx : Fx P Γ mg ad fd dv cv cu fI) (k_Stair_init : FnOk P w Γ.K mg base (L2N.CX P w) 3 (ad 6) (fd 6) ["self", "heights", "step", "rise"] (spI Γ 4 F_Stair_init)) (k_Stair_at : FnOk P w Γ.K mg base (L2N.CX P w) 1 (ad 7) (fd 7) ["self", "amount"] (spP Γ F_Stair_at)) (k_Stair_first_above : FnOk P w Γ.K mg base (L2N.CX P w) 2 (ad 8) (fd 8) ["self", "number"] (spP Γ F_Stair_first_above)) : FnOk P w Γ.K mg base (L2N.CX P w) 5 (ad 10) (fd 10) ["self", "ticks"] (spP Γ F_Stair_lowered) := by
  refine qDef fx.F_Stair_lowered S_Stair_lowered rfl rfl fun cdv A outer s H E C hG hfx hr tk hp => ?_
  obtain ⟨G, He, Hz, fx0, Hx⟩ := C
  dsimp only at hG hfx
  subst hG hfx
  have hu := L3.hu_of hr
  have hrH := L2H.roomH_of hr
  have hdep := L3.dep_of hr
  unfold s_Stair_lowered
  exact qCons (qIfS (tLt (m := true)  (qVar 1) (qInt)) (qLast (qRz (c := 1) rfl tk fx.SU_BadAmount fx.G_BadAmount fx.KP_BadAmount (fx.RS_BadAmount _ rfl) hdep (qVar 1))) (qNil)) (qCons (qSet (i := 2) fxo_none S_Stair_lowered.nd (qmSh (qFld (ok := ok_start) rfl fx.FL_start (qVar 0)))) (qCons (qIfS (qt_w (qw_and (tNotN (m := true) (qFld (ok := ok_rise) rfl fx.FL_rise (qVar 0))) (qw_and1 (tGt (m := true)  (qFld (ok := ok_rise) rfl fx.FL_rise (qVar 0)) (qInt))))) (qLast (qSet (i := 2) fxo_none S_Stair_lowered.nd (qmSh (qMax rfl rfl fx.gl_max (qaCons (qVar 2) (qaCons (qFz ((qMeth (c := 4) k_Stair_first_above fx.C_Stair fx.MT_Stair_first_above (hr.mono (by decide)) tk fx.B0_Stair_first_above.2 fx.B0_Stair_first_above.1 (fun _ => Reps.nil) (qVar 0) (qaCons (qSub (qVar 1) (qInt)) qaNil)))) qaNil)))))) (qNil)) (qCons (qIfS (tGt (m := true)  (qAdd rfl (qVar 2) (qFld (ok := ok_step) rfl fx.FL_step (qVar 0))) (qGlob fx.G_MOST_HEIGHTS.1 fx.G_MOST_HEIGHTS.2 fx.R_MOST_HEIGHTS)) (qLast (qRz (c := 2) rfl tk fx.SU_TooMany fx.G_TooMany fx.KP_TooMany (fx.RS_TooMany _ rfl) hdep (qGlob fx.G_MOST_HEIGHTS.1 fx.G_MOST_HEIGHTS.2 fx.R_MOST_HEIGHTS))) (qNil)) (qCons (qSet (i := 3) fxo_none S_Stair_lowered.nd (qmFr (qLst qaNil))) (qCons (qFor (T := (.nm 4)) [4, 5] hp rfl (qiRng1 fx.gl_range (qaCons (qAdd rfl (qVar 2) (qFld (ok := ok_step) rfl fx.FL_step (qVar 0))) qaNil)) (fun _ => qgName (i := 4) fxo_none S_Stair_lowered.nd) (fun _ => qCons (qSet (i := 5) fxo_none S_Stair_lowered.nd (qmSh (qFz ((qMeth (c := 4) k_Stair_at fx.C_Stair fx.MT_Stair_at (hr.mono (by decide)) tk fx.B0_Stair_at.2 fx.B0_Stair_at.1 (fun _ => Reps.nil) (qVar 0) (qaCons (qVar 4) qaNil)))))) (qLast (qApp (qpVar 3) (qmSh (qIf (tIsN (m := true) (qVar 5)) (qNon) (qMax rfl rfl fx.gl_max (qaCons (qInt) (qaCons (qSub (qVar 5) (qVar 1)) qaNil))))))))) (qLast (qRt (qmFr ((qMake (c := 4) k_Stair_init fx.M_Stair (hr.mono (by decide)) tk fx.G_Stair fx.B0_Stair_init.2 fx.B0_Stair_init.1 (fun _ => Reps.nil) (qaCons (qOwn 3) (qaCons (qFld (ok := ok_step) rfl fx.FL_step (qVar 0)) (qaCons (qFld (ok := ok_rise) rfl fx.FL_rise (qVar 0)) qaNil)))))))))))))
theorem ok_Stair_add (fx : Fx P Γ mg ad fd dv cv cu fI) (k_Stair_init : FnOk P w Γ.K mg base (L2N.CX P w) 3 (ad 6) (fd 6) ["self", "heights", "step", "rise"] (spI Γ 4 F_Stair_init)) (k_added : FnOk P w Γ.K mg base (L2N.CX P w) 1 (ad 2) (fd 2) ["x", "number"] (spP Γ F_added)) (k_sum_at : FnOk P w Γ.K mg base (L2N.CX P w) 2 (ad 15) (fd 15) ["one", "two", "amount"] (spP Γ F_sum_at)) (k_sum_form : FnOk P w Γ.K mg base (L2N.CX P w) 2 (ad 22) (fd 22) ["one", "two"] (spP Γ F_sum_form)) : FnOk P w Γ.K mg base (L2N.CX P w) 5 (ad 13) (fd 13) ["self", "other"] (spP Γ F_Stair_add) := by
  refine qDef fx.F_Stair_add S_Stair_add rfl rfl fun cdv A outer s H E C hG hfx hr tk hp => ?_
  obtain ⟨G, He, Hz, fx0, Hx⟩ := C
  dsimp only at hG hfx
  subst hG hfx
  have hu := L3.hu_of hr
  have hrH := L2H.roomH_of hr
  have hdep := L3.dep_of hr
  unfold s_Stair_add
  exact qCons (qIfS (qtVal (m := true) (qIsiT (tb := tbT "int") (ib := ibc_int) rfl fx.gl_isinstance fx.gl_int bt_int tbT_ok fx.IBC_int (qVar 1))) (qLast (qRt (qmFr ((qMake (c := 4) k_Stair_init fx.M_Stair (hr.mono (by decide)) tk fx.G_Stair fx.B0_Stair_init.2 fx.B0_Stair_init.1 (fun _ => Reps.nil) (qaCons (qFz ((qLc (T := .nm 5) rfl S_Stair_add.nd (qiSeq rfl (qFld (ok := ok_heights) rfl fx.FL_heights (qVar 0))) (own := [("height", 5)]) (blkOk_by rfl) (by decide) fxs_none (lcName (i := 5) fxo_none S_Stair_add.nd rfl (fun _ _ => rfl)) (fun _ _ _ _ _ => qtsNil) (fun _ _ _ _ _ => qSh (qFz ((qCall k_added (hr.mono (by decide)) takes0 fx.G_added fx.F_added.kp fx.B0_added.2 fx.B0_added.1 (fun _ => Reps.nil) (qaCons (qVar 5) (qaCons (qVar 1) qaNil))))))))) (qaCons (qFld (ok := ok_step) rfl fx.FL_step (qVar 0)) (qaCons (qFld (ok := ok_rise) rfl fx.FL_rise (qVar 0)) qaNil)))))))) (qNil)) (qCons (qIfS (qt_not (qtVal (m := true) (qIsiC (tb := tb_Stair) (ib := ic_Stair) rfl fx.gl_isinstance fx.G_Stair fx.IT_Stair fx.IC_Stair (qVar 1)))) (qLast (qNo)) (qNil)) (qCons (qTg (qFz ((qCall k_sum_form (hr.mono (by decide)) tk fx.G_sum_form fx.F_sum_form.kp fx.B0_sum_form.2 fx.B0_sum_form.1 (fun _ => Reps.nil) (qaCons (qVar 0) (qaCons (qVar 1) qaNil))))) (qgTup rfl rfl (qgsCons (i := 2) fxo_none S_Stair_add.nd (qgsCons (i := 3) fxo_none S_Stair_add.nd (qgsCons (i := 4) fxo_none S_Stair_add.nd qgsNil))))) (qLast (qRt (qmFr ((qMake (c := 4) k_Stair_init fx.M_Stair (hr.mono (by decide)) tk fx.G_Stair fx.B0_Stair_init.2 fx.B0_Stair_init.1 (fun _ => Reps.nil) (qaCons (qFz ((qLc (T := .nm 6) rfl S_Stair_add.nd (qiRng1 fx.gl_range (qaCons (qVar 2) qaNil)) (own := [("amount", 6)]) (blkOk_by rfl) (by decide) fxs_none (lcName (i := 6) fxo_none S_Stair_add.nd rfl (fun _ _ => rfl)) (fun _ _ _ _ _ => qtsNil) (fun _ _ _ _ _ => qSh (qFz ((qCall k_sum_at (hr.mono (by decide)) takes0 fx.G_sum_at fx.F_sum_at.kp fx.B0_sum_at.2 fx.B0_sum_at.1 (fun _ => Reps.nil) (qaCons (qVar 0) (qaCons (qVar 1) (qaCons (qVar 6) qaNil)))))))))) (qaCons (qVar 3) (qaCons (qVar 4) qaNil))))))))))
theorem ok_lesser_form (fx : Fx P Γ mg ad fd dv cv cu fI) (k_both_form : FnOk P w Γ.K mg base (L2N.CX P w) 4 (ad 19) (fd 19) ["one", "two", "least"] (spP Γ F_both_form)) : FnOk P w Γ.K mg base (L2N.CX P w) 5 (ad 20) (fd 20) ["one", "two"] (spP Γ F_lesser_form) := by
  refine qDef fx.F_lesser_form S_lesser_form rfl rfl fun cdv A outer s H E C hG hfx hr tk hp => ?_
  obtain ⟨G, He, Hz, fx0, Hx⟩ := C
  dsimp only at hG hfx
  subst hG hfx
  have hu := L3.hu_of hr
  have hrH := L2H.roomH_of hr
  have hdep := L3.dep_of hr
  unfold s_lesser_form
  exact qCons (qIfS (qt_w (qw_and (tIsN (m := true) (qFld (ok := ok_rise) rfl fx.FL_rise (qVar 0))) (qw_and1 (tIsN (m := true) (qFld (ok := ok_rise) rfl fx.FL_rise (qVar 1)))))) (qLast (qRt (qmSh (qTup (qaCons (qAdd rfl (qMax rfl rfl fx.gl_max (qaCons (qFld (ok := ok_start) rfl fx.FL_start (qVar 0)) (qaCons (qFld (ok := ok_start) rfl fx.FL_start (qVar 1)) qaNil))) (qInt)) (qaCons (qInt) (qaCons (qNon) qaNil))))))) (qNil)) (qCons (qIfS (tIsN (m := true) (qFld (ok := ok_rise) rfl fx.FL_rise (qVar 0))) (qLast (qRt (qmSh (qTup (qaCons (qAdd rfl (qMax rfl rfl fx.gl_max (qaCons (qFld (ok := ok_start) rfl fx.FL_start (qVar 0)) (qaCons (qFld (ok := ok_start) rfl fx.FL_start (qVar 1)) qaNil))) (qFld (ok := ok_step) rfl fx.FL_step (qVar 1))) (qaCons (qFld (ok := ok_step) rfl fx.FL_step (qVar 1)) (qaCons (qFld (ok := ok_rise) rfl fx.FL_rise (qVar 1)) qaNil))))))) (qNil)) (qCons (qIfS (tIsN (m := true) (qFld (ok := ok_rise) rfl fx.FL_rise (qVar 1))) (qLast (qRt (qmSh (qTup (qaCons (qAdd rfl (qMax rfl rfl fx.gl_max (qaCons (qFld (ok := ok_start) rfl fx.FL_start (qVar 0)) (qaCons (qFld (ok := ok_start) rfl fx.FL_start (qVar 1)) qaNil))) (qFld (ok := ok_step) rfl fx.FL_step (qVar 0))) (qaCons (qFld (ok := ok_step) rfl fx.FL_step (qVar 0)) (qaCons (qFld (ok := ok_rise) rfl fx.FL_rise (qVar 0)) qaNil))))))) (qNil)) (qLast (qRt (qmSh (qFz ((qCall k_both_form (hr.mono (by decide)) tk fx.G_both_form fx.F_both_form.kp fx.B0_both_form.2 fx.B0_both_form.1 (fun _ => Reps.nil) (qaCons (qVar 0) (qaCons (qVar 1) (qaCons (qBl) qaNil)))))))))))
theorem ok_greater_form (fx : Fx P Γ mg ad fd dv cv cu fI) (k_both_form : FnOk P w Γ.K mg base (L2N.CX P w) 4 (ad 19) (fd 19) ["one", "two", "least"] (spP Γ F_both_form)) (k_first_none : FnOk P w Γ.K mg base (L2N.CX P w) 1 (ad 16) (fd 16) ["one", "two"] (spP Γ F_first_none)) : FnOk P w Γ.K mg base (L2N.CX P w) 5 (ad 21) (fd 21) ["one", "two"] (spP Γ F_greater_form) := by
  refine qDef fx.F_greater_form S_greater_form rfl rfl fun cdv A outer s H E C hG hfx hr tk hp => ?_
  obtain ⟨G, He, Hz, fx0, Hx⟩ := C
  dsimp only at hG hfx
  subst hG hfx
  have hu := L3.hu_of hr
  have hrH := L2H.roomH_of hr
  have hdep := L3.dep_of hr
  unfold s_greater_form
  exact qCons (qIfS (qt_w (qw_or (tIsN (m := true) (qFld (ok := ok_rise) rfl fx.FL_rise (qVar 0))) (qw_or1 (tIsN (m := true) (qFld (ok := ok_rise) rfl fx.FL_rise (qVar 1)))))) (qLast (qRt (qmSh (qTup (qaCons (qAdd rfl (qFz ((qCall k_first_none (hr.mono (by decide)) tk fx.G_first_none fx.F_first_none.kp fx.B0_first_none.2 fx.B0_first_none.1 (fun _ => Reps.nil) (qaCons (qVar 0) (qaCons (qVar 1) qaNil))))) (qInt)) (qaCons (qInt) (qaCons (qNon) qaNil))))))) (qNil)) (qLast (qRt (qmSh (qFz ((qCall k_both_form (hr.mono (by decide)) tk fx.G_both_form fx.F_both_form.kp fx.B0_both_form.2 fx.B0_both_form.1 (fun _ => Reps.nil) (qaCons (qVar 0) (qaCons (qVar 1) (qaCons (qBl) qaNil)))))))))
theorem ok_p_law_above (fx : Fx P Γ mg ad fd dv cv cu fI) (k_Stair_init : FnOk P w Γ.K mg base (L2N.CX P w) 3 (ad 6) (fd 6) ["self", "heights", "step", "rise"] (spI Γ 4 F_Stair_init)) (k_Stair_first_above : FnOk P w Γ.K mg base (L2N.CX P w) 2 (ad 8) (fd 8) ["self", "number"] (spP Γ F_Stair_first_above)) (k_p_law_value : FnOk P w Γ.K mg base (L2N.CX P w) 1 (ad 26) (fd 26) ["heights", "step", "rise", "x"] (spP Γ F_p_law_value)) : FnOk P w Γ.K mg base (L2N.CX P w) 5 (ad 35) (fd 35) ["f", "number"] (spP Γ F_p_law_above) := by
  refine qDef fx.F_p_law_above S_p_law_above rfl rfl fun cdv A outer s H E C hG hfx hr tk hp => ?_
  obtain ⟨G, He, Hz, fx0, Hx⟩ := C
  dsimp only at hG hfx
  subst hG hfx
  have hu := L3.hu_of hr
  have hrH := L2H.roomH_of hr
  have hdep := L3.dep_of hr
  unfold s_p_law_above
  exact qCons (qSet (i := 2) fxo_none S_p_law_above.nd (qmSh (qFz ((qMeth (c := 4) k_Stair_first_above fx.C_Stair fx.MT_Stair_first_above (hr.mono (by decide)) tk fx.B0_Stair_first_above.2 fx.B0_Stair_first_above.1 (fun _ => Reps.nil) (qFz ((qMake (c := 4) k_Stair_init fx.M_Stair (hr.mono (by decide)) tk fx.G_Stair fx.B0_Stair_init.2 fx.B0_Stair_init.1 (fun _ => Reps.nil) (qaCons (qIdx rfl (qVar 0) (qInt)) (qaCons (qIdx rfl (qVar 0) (qInt)) (qaCons (qIdx rfl (qVar 0) (qInt)) qaNil)))))) (qaCons (qVar 1) qaNil)))))) (qCons (qIfS (qt_w (qw_and (tEq (m := true) rfl hu (qIdx rfl (qVar 0) (qInt)) (qInt)) (qw_and1 (tLe (m := true)  (qIdx rfl (qIdx rfl (qVar 0) (qInt)) (qNeg (qInt))) (qVar 1))))) (qLast (qRt (qmSh (qIsN (qVar 2))))) (qNil)) (qCons (qIfS (qt_w (qw_or (qt_not (qtVal (m := true) (qIsiT (tb := tbT "int") (ib := ibc_int) rfl fx.gl_isinstance fx.gl_int bt_int tbT_ok fx.IBC_int (qVar 2)))) (qw_or (qtVal (m := true) (qIsiT (tb := tbT "bool") (ib := ibN) rfl fx.gl_isinstance fx.gl_bool bt_bool tbT_ok ibN_ok (qVar 2))) (qw_or1 (tLt (m := true)  (qVar 2) (qInt)))))) (qLast (qRt (qmSh (qBl)))) (qNil)) (qCons (qSet (i := 3) fxo_none S_p_law_above.nd (qmSh (qFz ((qCall k_p_law_value (hr.mono (by decide)) tk fx.G_p_law_value fx.F_p_law_value.kp fx.B0_p_law_value.2 fx.B0_p_law_value.1 (fun _ => Reps.nil) (qaCons (qIdx rfl (qVar 0) (qInt)) (qaCons (qIdx rfl (qVar 0) (qInt)) (qaCons (qIdx rfl (qVar 0) (qInt)) (qaCons (qVar 2) qaNil))))))))) (qCons (qIfS (qt_w (qw_and (tNotN (m := true) (qVar 3)) (qw_and1 (tLe (m := true)  (qVar 3) (qVar 1))))) (qLast (qRt (qmSh (qBl)))) (qNil)) (qCons (qIfS (tEq (m := true) rfl hu (qVar 2) (qInt)) (qLast (qRt (qmSh (qBl)))) (qNil)) (qCons (qSet (i := 4) fxo_none S_p_law_above.nd (qmSh (qFz ((qCall k_p_law_value (hr.mono (by decide)) tk fx.G_p_law_value fx.F_p_law_value.kp fx.B0_p_law_value.2 fx.B0_p_law_value.1 (fun _ => Reps.nil) (qaCons (qIdx rfl (qVar 0) (qInt)) (qaCons (qIdx rfl (qVar 0) (qInt)) (qaCons (qIdx rfl (qVar 0) (qInt)) (qaCons (qSub (qVar 2) (qInt)) qaNil))))))))) (qLast (qRt (qmSh (qAnd (qNotN (qVar 4)) (qOne (qLe  (qVar 4) (qVar 1)))))))))))))
theorem ok_Stair_and (fx : Fx P Γ mg ad fd dv cv cu fI) (k_Stair_init : FnOk P w Γ.K mg base (L2N.CX P w) 3 (ad 6) (fd 6) ["self", "heights", "step", "rise"] (spI Γ 4 F_Stair_init)) (k_Stair_at : FnOk P w Γ.K mg base (L2N.CX P w) 1 (ad 7) (fd 7) ["self", "amount"] (spP Γ F_Stair_at)) (k_lesser : FnOk P w Γ.K mg base (L2N.CX P w) 1 (ad 0) (fd 0) ["x", "y"] (spP Γ F_lesser)) (k_lesser_form : FnOk P w Γ.K mg base (L2N.CX P w) 5 (ad 20) (fd 20) ["one", "two"] (spP Γ F_lesser_form)) : FnOk P w Γ.K mg base (L2N.CX P w) 6 (ad 11) (fd 11) ["self", "other"] (spP Γ F_Stair_and) := by
  refine qDef fx.F_Stair_and S_Stair_and rfl rfl fun cdv A outer s H E C hG hfx hr tk hp => ?_
  obtain ⟨G, He, Hz, fx0, Hx⟩ := C
  dsimp only at hG hfx
  subst hG hfx
  have hu := L3.hu_of hr
  have hrH := L2H.roomH_of hr
  have hdep := L3.dep_of hr
  unfold s_Stair_and
  exact qCons (qIfS (qt_not (qtVal (m := true) (qIsiC (tb := tb_Stair) (ib := ic_Stair) rfl fx.gl_isinstance fx.G_Stair fx.IT_Stair fx.IC_Stair (qVar 1)))) (qLast (qNo)) (qNil)) (qCons (qTg (qFz ((qCall k_lesser_form (hr.mono (by decide)) tk fx.G_lesser_form fx.F_lesser_form.kp fx.B0_lesser_form.2 fx.B0_lesser_form.1 (fun _ => Reps.nil) (qaCons (qVar 0) (qaCons (qVar 1) qaNil))))) (qgTup rfl rfl (qgsCons (i := 2) fxo_none S_Stair_and.nd (qgsCons (i := 3) fxo_none S_Stair_and.nd (qgsCons (i := 4) fxo_none S_Stair_and.nd qgsNil))))) (qLast (qRt (qmFr ((qMake (c := 4) k_Stair_init fx.M_Stair (hr.mono (by decide)) tk fx.G_Stair fx.B0_Stair_init.2 fx.B0_Stair_init.1 (fun _ => Reps.nil) (qaCons (qFz ((qLc (T := .nm 5) rfl S_Stair_and.nd (qiRng1 fx.gl_range (qaCons (qVar 2) qaNil)) (own := [("amount", 5)]) (blkOk_by rfl) (by decide) fxs_none (lcName (i := 5) fxo_none S_Stair_and.nd rfl (fun _ _ => rfl)) (fun _ _ _ _ _ => qtsNil) (fun _ _ _ _ _ => qSh (qFz ((qCall k_lesser (hr.mono (by decide)) takes0 fx.G_lesser fx.F_lesser.kp fx.B0_lesser.2 fx.B0_lesser.1 (fun _ => Reps.nil) (qaCons (qFz ((qMeth (c := 4) k_Stair_at fx.C_Stair fx.MT_Stair_at (hr.mono (by decide)) takes0 fx.B0_Stair_at.2 fx.B0_Stair_at.1 (fun _ => Reps.nil) (qVar 0) (qaCons (qVar 5) qaNil)))) (qaCons (qFz ((qMeth (c := 4) k_Stair_at fx.C_Stair fx.MT_Stair_at (hr.mono (by decide)) takes0 fx.B0_Stair_at.2 fx.B0_Stair_at.1 (fun _ => Reps.nil) (qVar 1) (qaCons (qVar 5) qaNil)))) qaNil))))))))) (qaCons (qVar 3) (qaCons (qVar 4) qaNil)))))))))
theorem ok_Stair_or (fx : Fx P Γ mg ad fd dv cv cu fI) (k_Stair_init : FnOk P w Γ.K mg base (L2N.CX P w) 3 (ad 6) (fd 6) ["self", "heights", "step", "rise"] (spI Γ 4 F_Stair_init)) (k_Stair_at : FnOk P w Γ.K mg base (L2N.CX P w) 1 (ad 7) (fd 7) ["self", "amount"] (spP Γ F_Stair_at)) (k_greater : FnOk P w Γ.K mg base (L2N.CX P w) 1 (ad 1) (fd 1) ["x", "y"] (spP Γ F_greater)) (k_greater_form : FnOk P w Γ.K mg base (L2N.CX P w) 5 (ad 21) (fd 21) ["one", "two"] (spP Γ F_greater_form)) : FnOk P w Γ.K mg base (L2N.CX P w) 6 (ad 12) (fd 12) ["self", "other"] (spP Γ F_Stair_or) := by
  refine qDef fx.F_Stair_or S_Stair_or rfl rfl fun cdv A outer s H E C hG hfx hr tk hp => ?_
  obtain ⟨G, He, Hz, fx0, Hx⟩ := C
  dsimp only at hG hfx
  subst hG hfx
  have hu := L3.hu_of hr
  have hrH := L2H.roomH_of hr
  have hdep := L3.dep_of hr
  unfold s_Stair_or
  exact qCons (qIfS (qt_not (qtVal (m := true) (qIsiC (tb := tb_Stair) (ib := ic_Stair) rfl fx.gl_isinstance fx.G_Stair fx.IT_Stair fx.IC_Stair (qVar 1)))) (qLast (qNo)) (qNil)) (qCons (qTg (qFz ((qCall k_greater_form (hr.mono (by decide)) tk fx.G_greater_form fx.F_greater_form.kp fx.B0_greater_form.2 fx.B0_greater_form.1 (fun _ => Reps.nil) (qaCons (qVar 0) (qaCons (qVar 1) qaNil))))) (qgTup rfl rfl (qgsCons (i := 2) fxo_none S_Stair_or.nd (qgsCons (i := 3) fxo_none S_Stair_or.nd (qgsCons (i := 4) fxo_none S_Stair_or.nd qgsNil))))) (qLast (qRt (qmFr ((qMake (c := 4) k_Stair_init fx.M_Stair (hr.mono (by decide)) tk fx.G_Stair fx.B0_Stair_init.2 fx.B0_Stair_init.1 (fun _ => Reps.nil) (qaCons (qFz ((qLc (T := .nm 5) rfl S_Stair_or.nd (qiRng1 fx.gl_range (qaCons (qVar 2) qaNil)) (own := [("amount", 5)]) (blkOk_by rfl) (by decide) fxs_none (lcName (i := 5) fxo_none S_Stair_or.nd rfl (fun _ _ => rfl)) (fun _ _ _ _ _ => qtsNil) (fun _ _ _ _ _ => qSh (qFz ((qCall k_greater (hr.mono (by decide)) takes0 fx.G_greater fx.F_greater.kp fx.B0_greater.2 fx.B0_greater.1 (fun _ => Reps.nil) (qaCons (qFz ((qMeth (c := 4) k_Stair_at fx.C_Stair fx.MT_Stair_at (hr.mono (by decide)) takes0 fx.B0_Stair_at.2 fx.B0_Stair_at.1 (fun _ => Reps.nil) (qVar 0) (qaCons (qVar 5) qaNil)))) (qaCons (qFz ((qMeth (c := 4) k_Stair_at fx.C_Stair fx.MT_Stair_at (hr.mono (by decide)) takes0 fx.B0_Stair_at.2 fx.B0_Stair_at.1 (fun _ => Reps.nil) (qVar 1) (qaCons (qVar 5) qaNil)))) qaNil))))))))) (qaCons (qVar 3) (qaCons (qVar 4) qaNil)))))))))
theorem ok_p_law_equals (fx : Fx P Γ mg ad fd dv cv cu fI) (k_Stair_add : FnOk P w Γ.K mg base (L2N.CX P w) 5 (ad 13) (fd 13) ["self", "other"] (spP Γ F_Stair_add)) (k_Stair_eq : FnOk P w Γ.K mg base (L2N.CX P w) 1 (ad 14) (fd 14) ["self", "other"] (spP Γ F_Stair_eq)) (k_Stair_init : FnOk P w Γ.K mg base (L2N.CX P w) 3 (ad 6) (fd 6) ["self", "heights", "step", "rise"] (spI Γ 4 F_Stair_init)) (k_p_law_normal : FnOk P w Γ.K mg base (L2N.CX P w) 2 (ad 27) (fd 27) ["heights", "step", "rise"] (spP Γ F_p_law_normal)) : FnOk P w Γ.K mg base (L2N.CX P w) 6 (ad 36) (fd 36) ["f", "g"] (spP Γ F_p_law_equals) := by
  refine qDef fx.F_p_law_equals S_p_law_equals rfl rfl fun cdv A outer s H E C hG hfx hr tk hp => ?_
  obtain ⟨G, He, Hz, fx0, Hx⟩ := C
  dsimp only at hG hfx
  subst hG hfx
  have hu := L3.hu_of hr
  have hrH := L2H.roomH_of hr
  have hdep := L3.dep_of hr
  unfold s_p_law_equals
  exact qCons (qSet (i := 2) fxo_none S_p_law_equals.nd (qmSh (qFz ((qMake (c := 4) k_Stair_init fx.M_Stair (hr.mono (by decide)) tk fx.G_Stair fx.B0_Stair_init.2 fx.B0_Stair_init.1 (fun _ => Reps.nil) (qaCons (qIdx rfl (qVar 0) (qInt)) (qaCons (qIdx rfl (qVar 0) (qInt)) (qaCons (qIdx rfl (qVar 0) (qInt)) qaNil)))))))) (qCons (qIfS (qt_w (qw_or (qt_not (tEqO (m := true) rfl k_Stair_eq fx.EO_Stair (hr.mono (by decide)) fx.B0_Stair_eq.2 (qVar 2) (qFz ((qMake (c := 4) k_Stair_init fx.M_Stair (hr.mono (by decide)) tk fx.G_Stair fx.B0_Stair_init.2 fx.B0_Stair_init.1 (fun _ => Reps.nil) (qaCons (qIdx rfl (qVar 0) (qInt)) (qaCons (qIdx rfl (qVar 0) (qInt)) (qaCons (qIdx rfl (qVar 0) (qInt)) qaNil)))))))) (qw_or1 (tNeO (m := true) rfl k_Stair_eq fx.EO_Stair (hr.mono (by decide)) fx.B0_Stair_eq.2 (qVar 2) (qFz ((qMake (c := 4) k_Stair_init fx.M_Stair (hr.mono (by decide)) tk fx.G_Stair fx.B0_Stair_init.2 fx.B0_Stair_init.1 (fun _ => Reps.nil) (qaCons (qIdx rfl (qVar 0) (qInt)) (qaCons (qIdx rfl (qVar 0) (qInt)) (qaCons (qIdx rfl (qVar 0) (qInt)) qaNil)))))))))) (qLast (qRt (qmSh (qBl)))) (qNil)) (qCons (qIfS (tNe (m := true) rfl hu (qEqO rfl k_Stair_eq fx.EO_Stair (hr.mono (by decide)) fx.B0_Stair_eq.2 (qVar 2) (qFz ((qMake (c := 4) k_Stair_init fx.M_Stair (hr.mono (by decide)) tk fx.G_Stair fx.B0_Stair_init.2 fx.B0_Stair_init.1 (fun _ => Reps.nil) (qaCons (qIdx rfl (qVar 1) (qInt)) (qaCons (qIdx rfl (qVar 1) (qInt)) (qaCons (qIdx rfl (qVar 1) (qInt)) qaNil))))))) (qEq rfl hu (qFz ((qCall k_p_law_normal (hr.mono (by decide)) tk fx.G_p_law_normal fx.F_p_law_normal.kp fx.B0_p_law_normal.2 fx.B0_p_law_normal.1 (fun _ => Reps.nil) (qaCons (qIdx rfl (qVar 0) (qInt)) (qaCons (qIdx rfl (qVar 0) (qInt)) (qaCons (qIdx rfl (qVar 0) (qInt)) qaNil)))))) (qFz ((qCall k_p_law_normal (hr.mono (by decide)) tk fx.G_p_law_normal fx.F_p_law_normal.kp fx.B0_p_law_normal.2 fx.B0_p_law_normal.1 (fun _ => Reps.nil) (qaCons (qIdx rfl (qVar 1) (qInt)) (qaCons (qIdx rfl (qVar 1) (qInt)) (qaCons (qIdx rfl (qVar 1) (qInt)) qaNil)))))))) (qLast (qRt (qmSh (qBl)))) (qNil)) (qLast (qRt (qmSh (qEq rfl hu (qEqO rfl k_Stair_eq fx.EO_Stair (hr.mono (by decide)) fx.B0_Stair_eq.2 (qVar 2) (qFz (qBinO (c := 4) (m := true) rfl k_Stair_add fx.OO_Stair_add (hr.mono (by decide)) tk fx.B0_Stair_add.2 (qVar 2) (qInt)))) (qIsN (qIdx rfl (qIdx rfl (qVar 0) (qInt)) (qInt)))))))))
theorem ok_p_law_refusals (fx : Fx P Γ mg ad fd dv cv cu fI) (k_Stair_add : FnOk P w Γ.K mg base (L2N.CX P w) 5 (ad 13) (fd 13) ["self", "other"] (spP Γ F_Stair_add)) (k_Stair_init : FnOk P w Γ.K mg base (L2N.CX P w) 3 (ad 6) (fd 6) ["self", "heights", "step", "rise"] (spI Γ 4 F_Stair_init)) (k_Stair_at : FnOk P w Γ.K mg base (L2N.CX P w) 1 (ad 7) (fd 7) ["self", "amount"] (spP Γ F_Stair_at)) (k_Stair_later : FnOk P w Γ.K mg base (L2N.CX P w) 5 (ad 9) (fd 9) ["self", "ticks"] (spP Γ F_Stair_later)) (k_Stair_lowered : FnOk P w Γ.K mg base (L2N.CX P w) 5 (ad 10) (fd 10) ["self", "ticks"] (spP Γ F_Stair_lowered)) (h_p_law_is : L2H.FnH P w Γ.K mg base (L2N.CX P w) 1 (ad 25) (fd 25) ["actual", "expected"] (spP Γ F_p_law_is)) : FnOk P w Γ.K mg base (L2N.CX P w) 6 (ad 38) (fd 38) ["f", "ticks"] (spP Γ F_p_law_refusals) := by
  refine qDef fx.F_p_law_refusals S_p_law_refusals rfl rfl fun cdv A outer s H E C hG hfx hr tk hp => ?_
  obtain ⟨G, He, Hz, fx0, Hx⟩ := C
  dsimp only at hG hfx
  subst hG hfx
  have hu := L3.hu_of hr
  have hrH := L2H.roomH_of hr
  have hdep := L3.dep_of hr
  unfold s_p_law_refusals
  exact qCons (qSet (i := 2) fxo_none S_p_law_refusals.nd (qmSh (qFz ((qMake (c := 4) k_Stair_init fx.M_Stair (hr.mono (by decide)) tk fx.G_Stair fx.B0_Stair_init.2 fx.B0_Stair_init.1 (fun _ => Reps.nil) (qaCons (qIdx rfl (qVar 0) (qInt)) (qaCons (qIdx rfl (qVar 0) (qInt)) (qaCons (qIdx rfl (qVar 0) (qInt)) qaNil)))))))) (qCons (qSet (i := 3) fxo_none S_p_law_refusals.nd (qmSh (qInt))) (qCons (qTry rfl rfl rfl tk (fun W pl xe tk hp => qLast (qDoF ((qMeth (c := 4) k_Stair_later fx.C_Stair fx.MT_Stair_later (hr.mono (by decide)) tk fx.B0_Stair_later.2 fx.B0_Stair_later.1 (fun _ => Reps.nil) (qVar 2) (qaCons (qSub (qNeg (qInt)) (qVar 1)) qaNil))))) (.named (i := 4) (mt := mt_BadAmount) S_p_law_refusals.nd ⟨rfl, by decide, .inl fx.G_BadAmount⟩ fx.MTX_BadAmount (fun a ob cls d pl x Hx hz hf rx => qLast (qSet (i := 3) (fxo_some (by decide)) S_p_law_refusals.nd (qmSh (qAdd rfl (qVar 3) (qIntB fx.gl_int (qaCons (qAnd (qFz ((qCallH h_p_law_is (room_mark (L2H.RoomH.mono (j := 1) hrH (by decide))) (hotc hz hf) takes0 fx.G_p_law_is fx.F_p_law_is.kp fx.B0_p_law_is.2 (qaCons (qXf (ok := okx_amount) fx.XF_amount hz hf rx) (qaCons (qSub (qNeg (qInt)) (qVar 1)) qaNil))))) (qOne (qXi (ib := ib_Fault) fx.gl_isinstance fx.G_Fault fx.XI_Fault hz hf rx))) qaNil)))))) .nil)) (qCons (qTry rfl rfl rfl tk (fun W pl xe tk hp => qLast (qDoF ((qMeth (c := 4) k_Stair_lowered fx.C_Stair fx.MT_Stair_lowered (hr.mono (by decide)) tk fx.B0_Stair_lowered.2 fx.B0_Stair_lowered.1 (fun _ => Reps.nil) (qVar 2) (qaCons (qSub (qNeg (qInt)) (qVar 1)) qaNil))))) (.named (i := 4) (mt := mt_BadAmount) S_p_law_refusals.nd ⟨rfl, by decide, .inl fx.G_BadAmount⟩ fx.MTX_BadAmount (fun a ob cls d pl x Hx hz hf rx => qLast (qSet (i := 3) (fxo_some (by decide)) S_p_law_refusals.nd (qmSh (qAdd rfl (qVar 3) (qIntB fx.gl_int (qaCons (qAnd (qFz ((qCallH h_p_law_is (room_mark (L2H.RoomH.mono (j := 1) hrH (by decide))) (hotc hz hf) takes0 fx.G_p_law_is fx.F_p_law_is.kp fx.B0_p_law_is.2 (qaCons (qXf (ok := okx_amount) fx.XF_amount hz hf rx) (qaCons (qSub (qNeg (qInt)) (qVar 1)) qaNil))))) (qOne (qNot (qXi (ib := ib_BadStair) fx.gl_isinstance fx.G_BadStair fx.XI_BadStair hz hf rx)))) qaNil)))))) .nil)) (qCons (qIfS (tIsN (m := true) (qIdx rfl (qIdx rfl (qVar 0) (qInt)) (qInt))) (qLast (qRt (qmSh (qEq rfl hu (qVar 3) (qInt))))) (qNil)) (qCons (qTry rfl rfl rfl tk (fun W pl xe tk hp => qLast (qSet (i := 3) fxo_none S_p_law_refusals.nd (qmSh (qAdd rfl (qVar 3) (qMul (qInt) (qLen rfl fx.gl_len (qaCons (qFld (ok := ok_heights) rfl fx.FL_heights (qFz (qBinO (c := 4) (m := true) rfl k_Stair_add fx.OO_Stair_add (hr.mono (by decide)) tk fx.B0_Stair_add.2 (qVar 2) (qSub (qNeg (qInt)) (qIdx rfl (qIdx rfl (qVar 0) (qInt)) (qInt)))))) qaNil))))))) (.named (i := 4) (mt := mt_BadStair) S_p_law_refusals.nd ⟨rfl, by decide, .inl fx.G_BadStair⟩ fx.MTX_BadStair (fun a ob cls d pl x Hx hz hf rx => qLast (qSet (i := 3) (fxo_some (by decide)) S_p_law_refusals.nd (qmSh (qAdd rfl (qVar 3) (qIntB fx.gl_int (qaCons (qAnd (qXi (ib := ib_Fault) fx.gl_isinstance fx.G_Fault fx.XI_Fault hz hf rx) (qOne (qNot (qXi (ib := ib_BadAmount) fx.gl_isinstance fx.G_BadAmount fx.XI_BadAmount hz hf rx)))) qaNil)))))) .nil)) (qLast (qRt (qmSh (qAnd (qEq rfl hu (qVar 3) (qInt)) (qOne (qEq rfl hu (qFz ((qMeth (c := 4) k_Stair_at fx.C_Stair fx.MT_Stair_at (hr.mono (by decide)) tk fx.B0_Stair_at.2 fx.B0_Stair_at.1 (fun _ => Reps.nil) (qFz (qBinO (c := 4) (m := true) rfl k_Stair_add fx.OO_Stair_add (hr.mono (by decide)) tk fx.B0_Stair_add.2 (qVar 2) (qSub (qInt) (qIdx rfl (qIdx rfl (qVar 0) (qInt)) (qInt))))) (qaCons (qInt) qaNil)))) (qInt))))))))))))
theorem ok_p_law_made (fx : Fx P Γ mg ad fd dv cv cu fI) (k_Stair_add : FnOk P w Γ.K mg base (L2N.CX P w) 5 (ad 13) (fd 13) ["self", "other"] (spP Γ F_Stair_add)) (k_Stair_and : FnOk P w Γ.K mg base (L2N.CX P w) 6 (ad 11) (fd 11) ["self", "other"] (spP Γ F_Stair_and)) (k_Stair_or : FnOk P w Γ.K mg base (L2N.CX P w) 6 (ad 12) (fd 12) ["self", "other"] (spP Γ F_Stair_or)) (k_Stair_later : FnOk P w Γ.K mg base (L2N.CX P w) 5 (ad 9) (fd 9) ["self", "ticks"] (spP Γ F_Stair_later)) (k_Stair_lowered : FnOk P w Γ.K mg base (L2N.CX P w) 5 (ad 10) (fd 10) ["self", "ticks"] (spP Γ F_Stair_lowered)) : FnOk P w Γ.K mg base (L2N.CX P w) 7 (ad 33) (fd 33) ["deed", "one", "two", "ticks"] (spP Γ F_p_law_made) := by
  refine qDef fx.F_p_law_made S_p_law_made rfl rfl fun cdv A outer s H E C hG hfx hr tk hp => ?_
  obtain ⟨G, He, Hz, fx0, Hx⟩ := C
  dsimp only at hG hfx
  subst hG hfx
  have hu := L3.hu_of hr
  have hrH := L2H.roomH_of hr
  have hdep := L3.dep_of hr
  unfold s_p_law_made
  exact qCons (qIfS (tEq (m := true) rfl hu (qVar 0) (qInt)) (qLast (qRt (qmFr (qBinO (c := 4) (m := true) rfl k_Stair_and fx.OO_Stair_and (hr.mono (by decide)) tk fx.B0_Stair_and.2 (qVar 1) (qVar 2))))) (qNil)) (qCons (qIfS (tEq (m := true) rfl hu (qVar 0) (qInt)) (qLast (qRt (qmFr (qBinO (c := 4) (m := true) rfl k_Stair_or fx.OO_Stair_or (hr.mono (by decide)) tk fx.B0_Stair_or.2 (qVar 1) (qVar 2))))) (qNil)) (qCons (qIfS (tEq (m := true) rfl hu (qVar 0) (qInt)) (qLast (qRt (qmFr (qBinO (c := 4) (m := true) rfl k_Stair_add fx.OO_Stair_add (hr.mono (by decide)) tk fx.B0_Stair_add.2 (qVar 1) (qVar 2))))) (qNil)) (qCons (qIfS (tEq (m := true) rfl hu (qVar 0) (qInt)) (qLast (qRt (qmFr (qBinO (c := 4) (m := true) rfl k_Stair_add fx.OO_Stair_add (hr.mono (by decide)) tk fx.B0_Stair_add.2 (qVar 1) (qVar 3))))) (qNil)) (qCons (qIfS (tEq (m := true) rfl hu (qVar 0) (qInt)) (qLast (qRt (qmSh (qFz ((qMeth (c := 4) k_Stair_lowered fx.C_Stair fx.MT_Stair_lowered (hr.mono (by decide)) tk fx.B0_Stair_lowered.2 fx.B0_Stair_lowered.1 (fun _ => Reps.nil) (qVar 1) (qaCons (qVar 3) qaNil))))))) (qNil)) (qLast (qRt (qmSh (qFz ((qMeth (c := 4) k_Stair_later fx.C_Stair fx.MT_Stair_later (hr.mono (by decide)) tk fx.B0_Stair_later.2 fx.B0_Stair_later.1 (fun _ => Reps.nil) (qVar 1) (qaCons (qVar 3) qaNil)))))))))))
theorem ok_p_law_long (fx : Fx P Γ mg ad fd dv cv cu fI) (k_Stair_and : FnOk P w Γ.K mg base (L2N.CX P w) 6 (ad 11) (fd 11) ["self", "other"] (spP Γ F_Stair_and)) (k_Stair_init : FnOk P w Γ.K mg base (L2N.CX P w) 3 (ad 6) (fd 6) ["self", "heights", "step", "rise"] (spI Γ 4 F_Stair_init)) (k_Stair_or : FnOk P w Γ.K mg base (L2N.CX P w) 6 (ad 12) (fd 12) ["self", "other"] (spP Γ F_Stair_or)) (k_Stair_at : FnOk P w Γ.K mg base (L2N.CX P w) 1 (ad 7) (fd 7) ["self", "amount"] (spP Γ F_Stair_at)) (k_Stair_lowered : FnOk P w Γ.K mg base (L2N.CX P w) 5 (ad 10) (fd 10) ["self", "ticks"] (spP Γ F_Stair_lowered)) (k_p_law_is : FnOk P w Γ.K mg base (L2N.CX P w) 1 (ad 25) (fd 25) ["actual", "expected"] (spP Γ F_p_law_is)) (h_p_law_is : L2H.FnH P w Γ.K mg base (L2N.CX P w) 1 (ad 25) (fd 25) ["actual", "expected"] (spP Γ F_p_law_is)) : FnOk P w Γ.K mg base (L2N.CX P w) 7 (ad 37) (fd 37) ["deed", "size"] (spP Γ F_p_law_long) := by
  refine qDef fx.F_p_law_long S_p_law_long rfl rfl fun cdv A outer s H E C hG hfx hr tk hp => ?_
  obtain ⟨G, He, Hz, fx0, Hx⟩ := C
  dsimp only at hG hfx
  subst hG hfx
  have hu := L3.hu_of hr
  have hrH := L2H.roomH_of hr
  have hdep := L3.dep_of hr
  unfold s_p_law_long
  exact qCons (qSet (i := 2) fxo_none S_p_law_long.nd (qmSh (qFz ((qMake (c := 4) k_Stair_init fx.M_Stair (hr.mono (by decide)) tk fx.G_Stair fx.B0_Stair_init.2 fx.B0_Stair_init.1 (fun _ => Reps.nil) (qaCons (qFz (qLst (qaCons (qVar 1) qaNil))) (qaCons (qInt) (qaCons (qInt) qaNil)))))))) (qCons (qSet (i := 3) fxo_none S_p_law_long.nd (qmSh (qFz ((qMake (c := 4) k_Stair_init fx.M_Stair (hr.mono (by decide)) tk fx.G_Stair fx.B0_Stair_init.2 fx.B0_Stair_init.1 (fun _ => Reps.nil) (qaCons (qFz (qLst (qaCons (qInt) qaNil))) (qaCons (qInt) (qaCons (qInt) qaNil)))))))) (qCons (qTry rfl rfl rfl tk (fun W pl xe tk hp => qLast (qIfS (tEq (m := true) rfl hu (qVar 0) (qInt)) (qLast (qSet (i := 4) fxo_none S_p_law_long.nd (qmSh (qFz (qBinO (c := 4) (m := true) rfl k_Stair_and fx.OO_Stair_and (hr.mono (by decide)) tk fx.B0_Stair_and.2 (qVar 2) (qVar 3)))))) (qLast (qIfS (tEq (m := true) rfl hu (qVar 0) (qInt)) (qLast (qSet (i := 4) fxo_none S_p_law_long.nd (qmSh (qFz (qBinO (c := 4) (m := true) rfl k_Stair_or fx.OO_Stair_or (hr.mono (by decide)) tk fx.B0_Stair_or.2 (qVar 3) (qVar 2)))))) (qLast (qSet (i := 4) fxo_none S_p_law_long.nd (qmSh (qFz ((qMeth (c := 4) k_Stair_lowered fx.C_Stair fx.MT_Stair_lowered (hr.mono (by decide)) tk fx.B0_Stair_lowered.2 fx.B0_Stair_lowered.1 (fun _ => Reps.nil) (qVar 3) (qaCons (qVar 1) qaNil))))))))))) (.named (i := 5) (mt := mt_TooMany) S_p_law_long.nd ⟨rfl, by decide, .inl fx.G_TooMany⟩ fx.MTX_TooMany (fun a ob cls d pl x Hx hz hf rx => qLast (qRt (qmSh (qAnd (qEq rfl hu (qVar 1) (qInt)) (qAnd (qFz ((qCallH h_p_law_is (room_mark (L2H.RoomH.mono (j := 1) hrH (by decide))) (hotc hz hf) takes0 fx.G_p_law_is fx.F_p_law_is.kp fx.B0_p_law_is.2 (qaCons (qXf (ok := okx_limit) fx.XF_limit hz hf rx) (qaCons (qInt) qaNil))))) (qAnd (qXi (ib := ib_Fault) fx.gl_isinstance fx.G_Fault fx.XI_Fault hz hf rx) (qOne (qNot (qXi (ib := ib_BadStair) fx.gl_isinstance fx.G_BadStair fx.XI_BadStair hz hf rx))))))))) .nil)) (qLast (qRt (qmSh (qAnd (qEq rfl hu (qVar 1) (qInt)) (qAnd (qEq rfl hu (qLen rfl fx.gl_len (qaCons (qFld (ok := ok_heights) rfl fx.FL_heights (qVar 4)) qaNil)) (qInt)) (qOne (qFz ((qCall k_p_law_is (hr.mono (by decide)) tk fx.G_p_law_is fx.F_p_law_is.kp fx.B0_p_law_is.2 fx.B0_p_law_is.1 (fun _ => Reps.nil) (qaCons (qFz ((qMeth (c := 4) k_Stair_at fx.C_Stair fx.MT_Stair_at (hr.mono (by decide)) tk fx.B0_Stair_at.2 fx.B0_Stair_at.1 (fun _ => Reps.nil) (qVar 4) (qaCons (qPow (qInt) (qInt)) qaNil)))) (qaCons (qIdx rfl (qFz (qLst (qaCons (qInt) (qaCons (qPow (qInt) (qInt)) (qaCons (qSub (qPow (qInt) (qInt)) (qInt)) qaNil))))) (qVar 0)) qaNil)))))))))))))
theorem ok_p_law_right (fx : Fx P Γ mg ad fd dv cv cu fI) (k_Stair_init : FnOk P w Γ.K mg base (L2N.CX P w) 3 (ad 6) (fd 6) ["self", "heights", "step", "rise"] (spI Γ 4 F_Stair_init)) (k_Stair_at : FnOk P w Γ.K mg base (L2N.CX P w) 1 (ad 7) (fd 7) ["self", "amount"] (spP Γ F_Stair_at)) (k_p_law_due : FnOk P w Γ.K mg base (L2N.CX P w) 2 (ad 32) (fd 32) ["deed", "x", "y", "ticks"] (spP Γ F_p_law_due)) (k_p_law_is : FnOk P w Γ.K mg base (L2N.CX P w) 1 (ad 25) (fd 25) ["actual", "expected"] (spP Γ F_p_law_is)) (k_p_law_made : FnOk P w Γ.K mg base (L2N.CX P w) 7 (ad 33) (fd 33) ["deed", "one", "two", "ticks"] (spP Γ F_p_law_made)) (k_p_law_normal : FnOk P w Γ.K mg base (L2N.CX P w) 2 (ad 27) (fd 27) ["heights", "step", "rise"] (spP Γ F_p_law_normal)) (k_p_law_same : FnOk P w Γ.K mg base (L2N.CX P w) 2 (ad 28) (fd 28) ["stair", "due"] (spP Γ F_p_law_same)) (k_p_law_value : FnOk P w Γ.K mg base (L2N.CX P w) 1 (ad 26) (fd 26) ["heights", "step", "rise", "x"] (spP Γ F_p_law_value)) : FnOk P w Γ.K mg base (L2N.CX P w) 8 (ad 34) (fd 34) ["deed", "f", "g", "ticks", "places"] (spP Γ F_p_law_right) := by
  refine qDef fx.F_p_law_right S_p_law_right rfl rfl fun cdv A outer s H E C hG hfx hr tk hp => ?_
  obtain ⟨G, He, Hz, fx0, Hx⟩ := C
  dsimp only at hG hfx
  subst hG hfx
  have hu := L3.hu_of hr
  have hrH := L2H.roomH_of hr
  have hdep := L3.dep_of hr
  unfold s_p_law_right
  exact qCons (qSet (i := 5) fxo_none S_p_law_right.nd (qmSh (qFz ((qMake (c := 4) k_Stair_init fx.M_Stair (hr.mono (by decide)) tk fx.G_Stair fx.B0_Stair_init.2 fx.B0_Stair_init.1 (fun _ => Reps.nil) (qaCons (qIdx rfl (qVar 1) (qInt)) (qaCons (qIdx rfl (qVar 1) (qInt)) (qaCons (qIdx rfl (qVar 1) (qInt)) qaNil)))))))) (qCons (qSet (i := 6) fxo_none S_p_law_right.nd (qmSh (qFz ((qMake (c := 4) k_Stair_init fx.M_Stair (hr.mono (by decide)) tk fx.G_Stair fx.B0_Stair_init.2 fx.B0_Stair_init.1 (fun _ => Reps.nil) (qaCons (qIdx rfl (qVar 2) (qInt)) (qaCons (qIdx rfl (qVar 2) (qInt)) (qaCons (qIdx rfl (qVar 2) (qInt)) qaNil)))))))) (qCons (qSet (i := 7) fxo_none S_p_law_right.nd (qmSh (qFz ((qCall k_p_law_made (hr.mono (by decide)) tk fx.G_p_law_made fx.F_p_law_made.kp fx.B0_p_law_made.2 fx.B0_p_law_made.1 (fun _ => Reps.nil) (qaCons (qVar 0) (qaCons (qVar 5) (qaCons (qVar 6) (qaCons (qVar 3) qaNil))))))))) (qCons (qFor (T := (.nm 8)) [8, 9, 10] hp rfl (qiSeq rfl (qVar 4)) (fun _ => qgName (i := 8) fxo_none S_p_law_right.nd) (fun _ => qCons (qSet (i := 9) fxo_none S_p_law_right.nd (qmSh (qVar 8))) (qCons (qIfS (tEq (m := true) rfl hu (qVar 0) (qInt)) (qLast (qSet (i := 9) fxo_none S_p_law_right.nd (qmSh (qAdd rfl (qVar 8) (qVar 3))))) (qNil)) (qCons (qSet (i := 10) fxo_none S_p_law_right.nd (qmSh (qFz ((qCall k_p_law_value (hr.mono (by decide)) tk fx.G_p_law_value fx.F_p_law_value.kp fx.B0_p_law_value.2 fx.B0_p_law_value.1 (fun _ => Reps.nil) (qaCons (qIdx rfl (qVar 1) (qInt)) (qaCons (qIdx rfl (qVar 1) (qInt)) (qaCons (qIdx rfl (qVar 1) (qInt)) (qaCons (qVar 9) qaNil))))))))) (qCons (qIfS (tLt (m := true)  (qVar 0) (qInt)) (qLast (qSet (i := 10) fxo_none S_p_law_right.nd (qmSh (qFz ((qCall k_p_law_due (hr.mono (by decide)) tk fx.G_p_law_due fx.F_p_law_due.kp fx.B0_p_law_due.2 fx.B0_p_law_due.1 (fun _ => Reps.nil) (qaCons (qVar 0) (qaCons (qVar 10) (qaCons (qFz ((qCall k_p_law_value (hr.mono (by decide)) tk fx.G_p_law_value fx.F_p_law_value.kp fx.B0_p_law_value.2 fx.B0_p_law_value.1 (fun _ => Reps.nil) (qaCons (qIdx rfl (qVar 2) (qInt)) (qaCons (qIdx rfl (qVar 2) (qInt)) (qaCons (qIdx rfl (qVar 2) (qInt)) (qaCons (qVar 8) qaNil))))))) (qaCons (qVar 3) qaNil)))))))))) (qNil)) (qLast (qIfS (qt_not (qtVal (m := true) (qFz ((qCall k_p_law_is (hr.mono (by decide)) tk fx.G_p_law_is fx.F_p_law_is.kp fx.B0_p_law_is.2 fx.B0_p_law_is.1 (fun _ => Reps.nil) (qaCons (qFz ((qMeth (c := 4) k_Stair_at fx.C_Stair fx.MT_Stair_at (hr.mono (by decide)) tk fx.B0_Stair_at.2 fx.B0_Stair_at.1 (fun _ => Reps.nil) (qVar 7) (qaCons (qVar 8) qaNil)))) (qaCons (qVar 10) qaNil))))))) (qLast (qRt (qmSh (qBl)))) (qNil)))))))) (qCons (qIfS (qt_not (qtVal (m := true) (qFz ((qCall k_p_law_same (hr.mono (by decide)) tk fx.G_p_law_same fx.F_p_law_same.kp fx.B0_p_law_same.2 fx.B0_p_law_same.1 (fun _ => Reps.nil) (qaCons (qVar 7) (qaCons (qFz ((qCall k_p_law_normal (hr.mono (by decide)) tk fx.G_p_law_normal fx.F_p_law_normal.kp fx.B0_p_law_normal.2 fx.B0_p_law_normal.1 (fun _ => Reps.nil) (qaCons (qFz (qList rfl fx.gl_list (qaCons (qFld (ok := ok_heights) rfl fx.FL_heights (qVar 7)) qaNil))) (qaCons (qFld (ok := ok_step) rfl fx.FL_step (qVar 7)) (qaCons (qFld (ok := ok_rise) rfl fx.FL_rise (qVar 7)) qaNil)))))) qaNil))))))) (qLast (qRt (qmSh (qBl)))) (qNil)) (qCons (qIfS (qt_not (qtVal (m := true) (qFz ((qCall k_p_law_same (hr.mono (by decide)) tk fx.G_p_law_same fx.F_p_law_same.kp fx.B0_p_law_same.2 fx.B0_p_law_same.1 (fun _ => Reps.nil) (qaCons (qVar 5) (qaCons (qFz ((qCall k_p_law_normal (hr.mono (by decide)) tk fx.G_p_law_normal fx.F_p_law_normal.kp fx.B0_p_law_normal.2 fx.B0_p_law_normal.1 (fun _ => Reps.nil) (qaCons (qIdx rfl (qVar 1) (qInt)) (qaCons (qIdx rfl (qVar 1) (qInt)) (qaCons (qIdx rfl (qVar 1) (qInt)) qaNil)))))) qaNil))))))) (qLast (qRt (qmSh (qBl)))) (qNil)) (qLast (qRt (qmSh (qFz ((qCall k_p_law_same (hr.mono (by decide)) tk fx.G_p_law_same fx.F_p_law_same.kp fx.B0_p_law_same.2 fx.B0_p_law_same.1 (fun _ => Reps.nil) (qaCons (qVar 6) (qaCons (qFz ((qCall k_p_law_normal (hr.mono (by decide)) tk fx.G_p_law_normal fx.F_p_law_normal.kp fx.B0_p_law_normal.2 fx.B0_p_law_normal.1 (fun _ => Reps.nil) (qaCons (qIdx rfl (qVar 2) (qInt)) (qaCons (qIdx rfl (qVar 2) (qInt)) (qaCons (qIdx rfl (qVar 2) (qInt)) qaNil)))))) qaNil)))))))))))))
theorem ok_law (fx : Fx P Γ mg ad fd dv cv cu fI) (k_p_law_above : FnOk P w Γ.K mg base (L2N.CX P w) 5 (ad 35) (fd 35) ["f", "number"] (spP Γ F_p_law_above)) (k_p_law_cell : FnOk P w Γ.K mg base (L2N.CX P w) 1 (ad 23) (fd 23) ["script", "k"] (spP Γ F_p_law_cell)) (k_p_law_equals : FnOk P w Γ.K mg base (L2N.CX P w) 6 (ad 36) (fd 36) ["f", "g"] (spP Γ F_p_law_equals)) (k_p_law_long : FnOk P w Γ.K mg base (L2N.CX P w) 7 (ad 37) (fd 37) ["deed", "size"] (spP Γ F_p_law_long)) (k_p_law_numbers : FnOk P w Γ.K mg base (L2N.CX P w) 1 (ad 24) (fd 24) ["cell", "salt", "count", "many"] (spP Γ F_p_law_numbers)) (k_p_law_refusals : FnOk P w Γ.K mg base (L2N.CX P w) 6 (ad 38) (fd 38) ["f", "ticks"] (spP Γ F_p_law_refusals)) (k_p_law_right : FnOk P w Γ.K mg base (L2N.CX P w) 8 (ad 34) (fd 34) ["deed", "f", "g", "ticks", "places"] (spP Γ F_p_law_right)) (k_p_law_told : FnOk P w Γ.K mg base (L2N.CX P w) 2 (ad 29) (fd 29) ["script", "salt"] (spP Γ F_p_law_told)) : FnOk P w Γ.K mg base (L2N.CX P w) 9 (ad 39) (fd 39) ["script"] (spP Γ F_law) := by
  refine qDef fx.F_law S_law rfl rfl fun cdv A outer s H E C hG hfx hr tk hp => ?_
  obtain ⟨G, He, Hz, fx0, Hx⟩ := C
  dsimp only at hG hfx
  subst hG hfx
  have hu := L3.hu_of hr
  have hrH := L2H.roomH_of hr
  have hdep := L3.dep_of hr
  unfold s_law
  exact qCons (qSet (i := 1) fxo_none S_law.nd (qmSh (qFz ((qCall k_p_law_told (hr.mono (by decide)) tk fx.G_p_law_told fx.F_p_law_told.kp fx.B0_p_law_told.2 fx.B0_p_law_told.1 (fun _ => Reps.nil) (qaCons (qVar 0) (qaCons (qInt) qaNil))))))) (qCons (qSet (i := 2) fxo_none S_law.nd (qmSh (qFz ((qCall k_p_law_told (hr.mono (by decide)) tk fx.G_p_law_told fx.F_p_law_told.kp fx.B0_p_law_told.2 fx.B0_p_law_told.1 (fun _ => Reps.nil) (qaCons (qVar 0) (qaCons (qInt) qaNil))))))) (qCons (qSet (i := 3) fxo_none S_law.nd (qmSh (qFz ((qCall k_p_law_numbers (hr.mono (by decide)) tk fx.G_p_law_numbers fx.F_p_law_numbers.kp fx.B0_p_law_numbers.2 fx.B0_p_law_numbers.1 (fun _ => Reps.nil) (qaCons (qFz ((qCall k_p_law_cell (hr.mono (by decide)) tk fx.G_p_law_cell fx.F_p_law_cell.kp fx.B0_p_law_cell.2 fx.B0_p_law_cell.1 (fun _ => Reps.nil) (qaCons (qVar 0) (qaCons (qInt) qaNil))))) (qaCons (qInt) (qaCons (qInt) (qaCons (qInt) qaNil))))))))) (qCons (qSet (i := 4) fxo_none S_law.nd (qmSh (qFz (qLst (qaCons (qPow (qInt) (qInt)) (qaCons (qMod (qIntB fx.gl_int (qaCons (qAbs fx.gl_abs (qaCons (qFz ((qCall k_p_law_cell (hr.mono (by decide)) tk fx.G_p_law_cell fx.F_p_law_cell.kp fx.B0_p_law_cell.2 fx.B0_p_law_cell.1 (fun _ => Reps.nil) (qaCons (qVar 0) (qaCons (qInt) qaNil))))) qaNil)) qaNil)) (qPow (qInt) (qInt))) (qaCons (qMod (qIntB fx.gl_int (qaCons (qAbs fx.gl_abs (qaCons (qFz ((qCall k_p_law_cell (hr.mono (by decide)) tk fx.G_p_law_cell fx.F_p_law_cell.kp fx.B0_p_law_cell.2 fx.B0_p_law_cell.1 (fun _ => Reps.nil) (qaCons (qVar 0) (qaCons (qInt) qaNil))))) qaNil)) qaNil)) (qPow (qInt) (qInt))) qaNil))))))) (qCons (qSet (i := 5) fxo_none S_law.nd (qmSh (qMod (qIdx rfl (qVar 3) (qInt)) (qInt)))) (qCons (qFor (T := (.nm 6)) [6] hp rfl (qiRng1 fx.gl_range (qaCons (qInt) qaNil)) (fun _ => qgName (i := 6) fxo_none S_law.nd) (fun _ => qLast (qIfS (qt_not (qtVal (m := true) (qFz ((qCall k_p_law_right (hr.mono (by decide)) tk fx.G_p_law_right fx.F_p_law_right.kp fx.B0_p_law_right.2 fx.B0_p_law_right.1 (fun _ => Reps.nil) (qaCons (qVar 6) (qaCons (qVar 1) (qaCons (qVar 2) (qaCons (qInt) (qaCons (qAdd rfl (qFz (qListR rfl fx.gl_list fx.gl_range (qInt))) (qVar 4)) qaNil)))))))))) (qLast (qRt (qmSh (qBl)))) (qNil)))) (qCons (qFor (T := (.nm 6)) [6] hp rfl (qiRng2 fx.gl_range (qaCons (qInt) (qaCons (qInt) qaNil))) (fun _ => qgName (i := 6) fxo_none S_law.nd) (fun _ => qLast (qIfS (qt_not (qtVal (m := true) (qFz ((qCall k_p_law_right (hr.mono (by decide)) tk fx.G_p_law_right fx.F_p_law_right.kp fx.B0_p_law_right.2 fx.B0_p_law_right.1 (fun _ => Reps.nil) (qaCons (qVar 6) (qaCons (qVar 1) (qaCons (qVar 2) (qaCons (qVar 5) (qaCons (qAdd rfl (qFz (qListR rfl fx.gl_list fx.gl_range (qInt))) (qVar 4)) qaNil)))))))))) (qLast (qRt (qmSh (qBl)))) (qNil)))) (qCons (qIfS (qt_not (qtVal (m := true) (qFz ((qCall k_p_law_right (hr.mono (by decide)) tk fx.G_p_law_right fx.F_p_law_right.kp fx.B0_p_law_right.2 fx.B0_p_law_right.1 (fun _ => Reps.nil) (qaCons (qInt) (qaCons (qVar 1) (qaCons (qVar 2) (qaCons (qMod (qIntB fx.gl_int (qaCons (qAbs fx.gl_abs (qaCons (qFz ((qCall k_p_law_cell (hr.mono (by decide)) tk fx.G_p_law_cell fx.F_p_law_cell.kp fx.B0_p_law_cell.2 fx.B0_p_law_cell.1 (fun _ => Reps.nil) (qaCons (qVar 0) (qaCons (qInt) qaNil))))) qaNil)) qaNil)) (qPow (qInt) (qInt))) (qaCons (qAdd rfl (qFz (qListR rfl fx.gl_list fx.gl_range (qInt))) (qVar 4)) qaNil)))))))))) (qLast (qRt (qmSh (qBl)))) (qNil)) (qCons (qFor (T := (.nm 7)) [7] hp rfl (qiSeq rfl (qFz (qLst (qaCons (qSub (qMod (qIdx rfl (qVar 3) (qInt)) (qInt)) (qInt)) (qaCons (qMod (qIntB fx.gl_int (qaCons (qAbs fx.gl_abs (qaCons (qFz ((qCall k_p_law_cell (hr.mono (by decide)) tk fx.G_p_law_cell fx.F_p_law_cell.kp fx.B0_p_law_cell.2 fx.B0_p_law_cell.1 (fun _ => Reps.nil) (qaCons (qVar 0) (qaCons (qInt) qaNil))))) qaNil)) qaNil)) (qPow (qInt) (qInt))) qaNil))))) (fun _ => qgName (i := 7) fxo_none S_law.nd) (fun _ => qLast (qIfS (qt_w (qw_or (qt_not (qtVal (m := true) (qFz ((qCall k_p_law_above (hr.mono (by decide)) tk fx.G_p_law_above fx.F_p_law_above.kp fx.B0_p_law_above.2 fx.B0_p_law_above.1 (fun _ => Reps.nil) (qaCons (qVar 1) (qaCons (qVar 7) qaNil))))))) (qw_or1 (qt_not (qtVal (m := true) (qFz ((qCall k_p_law_above (hr.mono (by decide)) tk fx.G_p_law_above fx.F_p_law_above.kp fx.B0_p_law_above.2 fx.B0_p_law_above.1 (fun _ => Reps.nil) (qaCons (qVar 2) (qaCons (qVar 7) qaNil)))))))))) (qLast (qRt (qmSh (qBl)))) (qNil)))) (qCons (qIfS (qt_w (qw_or (qt_not (qtVal (m := true) (qFz ((qCall k_p_law_equals (hr.mono (by decide)) tk fx.G_p_law_equals fx.F_p_law_equals.kp fx.B0_p_law_equals.2 fx.B0_p_law_equals.1 (fun _ => Reps.nil) (qaCons (qVar 1) (qaCons (qVar 2) qaNil))))))) (qw_or1 (qt_not (qtVal (m := true) (qFz ((qCall k_p_law_refusals (hr.mono (by decide)) tk fx.G_p_law_refusals fx.F_p_law_refusals.kp fx.B0_p_law_refusals.2 fx.B0_p_law_refusals.1 (fun _ => Reps.nil) (qaCons (qVar 1) (qaCons (qVar 5) qaNil)))))))))) (qLast (qRt (qmSh (qBl)))) (qNil)) (qLast (qRt (qmSh (qAnd (qFz ((qCall k_p_law_long (hr.mono (by decide)) tk fx.G_p_law_long fx.F_p_law_long.kp fx.B0_p_law_long.2 fx.B0_p_law_long.1 (fun _ => Reps.nil) (qaCons (qMod (qIdx rfl (qVar 3) (qInt)) (qInt)) (qaCons (qInt) qaNil))))) (qOne (qFz ((qCall k_p_law_long (hr.mono (by decide)) tk fx.G_p_law_long fx.F_p_law_long.kp fx.B0_p_law_long.2 fx.B0_p_law_long.1 (fun _ => Reps.nil) (qaCons (qMod (qIdx rfl (qVar 3) (qInt)) (qInt)) (qaCons (qInt) qaNil)))))))))))))))))))
end
end K02

end
section

/-! The head, as gen.py prints it. -/
namespace K02
open PySem PySem.Spec PyProof.Rows L2 L3 He X4
def d_lesser : DefD := ⟨("lesser", none), "lesser", "lesser", defArgs (top 8), defBody (top 8), defScope (top 8), [], []⟩
def d_greater : DefD := ⟨("greater", none), "greater", "greater", defArgs (top 9), defBody (top 9), defScope (top 9), [], []⟩
def d_added : DefD := ⟨("added", none), "added", "added", defArgs (top 10), defBody (top 10), defScope (top 10), [], []⟩
def d_check_heights : DefD := ⟨("check_heights", none), "check_heights", "check_heights", defArgs (top 13), defBody (top 13), defScope (top 13), [], []⟩
def d_least_step : DefD := ⟨("least_step", none), "least_step", "least_step", defArgs (top 14), defBody (top 14), defScope (top 14), [], []⟩
def d_normal_form : DefD := ⟨("normal_form", none), "normal_form", "normal_form", defArgs (top 15), defBody (top 15), defScope (top 15), [], []⟩
def d_Stair_init : DefD := ⟨("Stair", some "__init__"), "__init__", "Stair.__init__", defArgs (mth 16 0), defBody (mth 16 0), defScope (mth 16 0), [], []⟩
def d_Stair_at : DefD := ⟨("Stair", some "at"), "at", "Stair.at", defArgs (mth 16 1), defBody (mth 16 1), defScope (mth 16 1), [], []⟩
def d_Stair_first_above : DefD := ⟨("Stair", some "first_above"), "first_above", "Stair.first_above", defArgs (mth 16 3), defBody (mth 16 3), defScope (mth 16 3), [], []⟩
def d_Stair_later : DefD := ⟨("Stair", some "later"), "later", "Stair.later", defArgs (mth 16 4), defBody (mth 16 4), defScope (mth 16 4), [], []⟩
def d_Stair_lowered : DefD := ⟨("Stair", some "lowered"), "lowered", "Stair.lowered", defArgs (mth 16 5), defBody (mth 16 5), defScope (mth 16 5), [], []⟩
def d_Stair_and : DefD := ⟨("Stair", some "__and__"), "__and__", "Stair.__and__", defArgs (mth 16 6), defBody (mth 16 6), defScope (mth 16 6), [], []⟩
def d_Stair_or : DefD := ⟨("Stair", some "__or__"), "__or__", "Stair.__or__", defArgs (mth 16 7), defBody (mth 16 7), defScope (mth 16 7), [], []⟩
def d_Stair_add : DefD := ⟨("Stair", some "__add__"), "__add__", "Stair.__add__", defArgs (mth 16 8), defBody (mth 16 8), defScope (mth 16 8), [], []⟩
def d_Stair_eq : DefD := ⟨("Stair", some "__eq__"), "__eq__", "Stair.__eq__", defArgs (mth 16 9), defBody (mth 16 9), defScope (mth 16 9), [], []⟩
def d_sum_at : DefD := ⟨("sum_at", none), "sum_at", "sum_at", defArgs (top 17), defBody (top 17), defScope (top 17), [], []⟩
def d_first_none : DefD := ⟨("first_none", none), "first_none", "first_none", defArgs (top 18), defBody (top 18), defScope (top 18), [], []⟩
def d_last_crossing : DefD := ⟨("last_crossing", none), "last_crossing", "last_crossing", defArgs (top 19), defBody (top 19), defScope (top 19), [], []⟩
def d_crossed_form : DefD := ⟨("crossed_form", none), "crossed_form", "crossed_form", defArgs (top 20), defBody (top 20), defScope (top 20), [], []⟩
def d_both_form : DefD := ⟨("both_form", none), "both_form", "both_form", defArgs (top 21), defBody (top 21), defScope (top 21), [], []⟩
def d_lesser_form : DefD := ⟨("lesser_form", none), "lesser_form", "lesser_form", defArgs (top 22), defBody (top 22), defScope (top 22), [], []⟩
def d_greater_form : DefD := ⟨("greater_form", none), "greater_form", "greater_form", defArgs (top 23), defBody (top 23), defScope (top 23), [], []⟩
def d_sum_form : DefD := ⟨("sum_form", none), "sum_form", "sum_form", defArgs (top 24), defBody (top 24), defScope (top 24), [], []⟩
def d_p_law_cell : DefD := ⟨("_law_cell", none), "_law_cell", "_law_cell", defArgs (top 26), defBody (top 26), defScope (top 26), [], []⟩
def d_p_law_numbers : DefD := ⟨("_law_numbers", none), "_law_numbers", "_law_numbers", defArgs (top 27), defBody (top 27), defScope (top 27), [], []⟩
def d_p_law_is : DefD := ⟨("_law_is", none), "_law_is", "_law_is", defArgs (top 28), defBody (top 28), defScope (top 28), [], []⟩
def d_p_law_value : DefD := ⟨("_law_value", none), "_law_value", "_law_value", defArgs (top 29), defBody (top 29), defScope (top 29), [], []⟩
def d_p_law_normal : DefD := ⟨("_law_normal", none), "_law_normal", "_law_normal", defArgs (top 30), defBody (top 30), defScope (top 30), [], []⟩
def d_p_law_same : DefD := ⟨("_law_same", none), "_law_same", "_law_same", defArgs (top 31), defBody (top 31), defScope (top 31), [], []⟩
def d_p_law_told : DefD := ⟨("_law_told", none), "_law_told", "_law_told", defArgs (top 32), defBody (top 32), defScope (top 32), [], []⟩
def d_p_law_least : DefD := ⟨("_law_least", none), "_law_least", "_law_least", defArgs (top 33), defBody (top 33), defScope (top 33), [], []⟩
def d_p_law_greatest : DefD := ⟨("_law_greatest", none), "_law_greatest", "_law_greatest", defArgs (top 34), defBody (top 34), defScope (top 34), [], []⟩
def d_p_law_due : DefD := ⟨("_law_due", none), "_law_due", "_law_due", defArgs (top 35), defBody (top 35), defScope (top 35), [], []⟩
def d_p_law_made : DefD := ⟨("_law_made", none), "_law_made", "_law_made", defArgs (top 36), defBody (top 36), defScope (top 36), [], []⟩
def d_p_law_right : DefD := ⟨("_law_right", none), "_law_right", "_law_right", defArgs (top 37), defBody (top 37), defScope (top 37), [], []⟩
def d_p_law_above : DefD := ⟨("_law_above", none), "_law_above", "_law_above", defArgs (top 38), defBody (top 38), defScope (top 38), [], []⟩
def d_p_law_equals : DefD := ⟨("_law_equals", none), "_law_equals", "_law_equals", defArgs (top 39), defBody (top 39), defScope (top 39), [], []⟩
def d_p_law_long : DefD := ⟨("_law_long", none), "_law_long", "_law_long", defArgs (top 40), defBody (top 40), defScope (top 40), [], []⟩
def d_p_law_refusals : DefD := ⟨("_law_refusals", none), "_law_refusals", "_law_refusals", defArgs (top 41), defBody (top 41), defScope (top 41), [], []⟩
def d_law : DefD := ⟨("law", none), "law", "law", defArgs (top 42), defBody (top 42), defScope (top 42), [], []⟩
def fn0 : List DefD := [d_lesser, d_greater, d_added, d_check_heights, d_least_step, d_normal_form, d_Stair_init, d_Stair_at, d_Stair_first_above, d_Stair_later, d_Stair_lowered, d_Stair_and, d_Stair_or, d_Stair_add, d_Stair_eq, d_sum_at, d_first_none, d_last_crossing, d_crossed_form, d_both_form, d_lesser_form, d_greater_form, d_sum_form, d_p_law_cell, d_p_law_numbers, d_p_law_is, d_p_law_value, d_p_law_normal, d_p_law_same, d_p_law_told]
def fn1 : List DefD := [d_p_law_least, d_p_law_greatest, d_p_law_due, d_p_law_made, d_p_law_right, d_p_law_above, d_p_law_equals, d_p_law_long, d_p_law_refusals, d_law]
def fn : List DefD := fn0 ++ (fn1)
def x_BadAmount : SupD := ⟨"BadAmount", "amount", "BadAmount.__init__", defArgs (mth 4 0), defBody (mth 4 0), defScope (mth 4 0)⟩
def x_TooMany : SupD := ⟨"TooMany", "limit", "TooMany.__init__", defArgs (mth 5 0), defBody (mth 5 0), defScope (mth 5 0)⟩
def sx : List SupD := [x_BadAmount, x_TooMany]
def mfl : Str := "/claim/cut.py"
def isC (x : Str) : Ck := fun K => iscB K x
def fs0 : List Ck := [fa (.int "MOST_HEIGHTS" 600), fa (.free "len"), fa (.free "abs"), fa (.free "int"), fa (.free "max"), fa (.free "min"), fa (.free "sum"), fa (.free "all"), fa (.free "any"), fa (.free "tuple"), fa (.free "list"), fa (.free "range"), fa (.free "isinstance"), fa (.free "str"), fa (.free "bool"), fa (.free "sorted"), bfnB "lcm" "math.lcm", fa (.glo "lesser"), fa (.glo "greater"), fa (.glo "added"), fa (.glo "check_heights"), fa (.glo "least_step"), fa (.glo "normal_form"), fa (.meth "Stair" "at"), fa (.meth "Stair" "first_above"), fa (.meth "Stair" "later"), fa (.meth "Stair" "lowered"), ownB "Stair" "and" "__and__", ownB "Stair" "or" "__or__", ownB "Stair" "add" "__add__"]
def fs1 : List Ck := [fa (.meth "Stair" "__eq__"), fa (.glo "sum_at"), fa (.glo "first_none"), fa (.glo "last_crossing"), fa (.glo "crossed_form"), fa (.glo "both_form"), fa (.glo "lesser_form"), fa (.glo "greater_form"), fa (.glo "sum_form"), fa (.glo "_law_cell"), fa (.glo "_law_numbers"), fa (.glo "_law_is"), fa (.glo "_law_value"), fa (.glo "_law_normal"), fa (.glo "_law_same"), fa (.glo "_law_told"), fa (.glo "_law_least"), fa (.glo "_law_greatest"), fa (.glo "_law_due"), fa (.glo "_law_made"), fa (.glo "_law_right"), fa (.glo "_law_above"), fa (.glo "_law_equals"), fa (.glo "_law_long"), fa (.glo "_law_refusals"), fa (.glo "law"), fa (.glo "Fault"), fa (.glo "BadAmount"), supB mfl x_BadAmount, fa (.keep "BadAmount")]
def fs2 : List Ck := [raisB "BadAmount", fa (.glo "TooMany"), supB mfl x_TooMany, fa (.keep "TooMany"), raisB "TooMany", fa (.glo "BadStair"), fa (.exc "BadStair"), fa (.keep "BadStair"), raisB "BadStair", fa (.glo "Stair"), fa (.cls "Stair"), fa (.mkr "Stair"), eqcB "Stair", fa (.noat "Stair" "heights"), fa (.noat "Stair" "rise"), fa (.noat "Stair" "start"), fa (.noat "Stair" "step"), xfCk "BadAmount", fa (.noat "BadAmount" "amount"), xfCk "TooMany", fa (.noat "TooMany" "limit"), exmB "Fault" "BadAmount" false, exmB "BadAmount" "BadAmount" true, exmB "TooMany" "BadAmount" false, exmB "BadStair" "BadAmount" false, exmB "Fault" "BadStair" false, exmB "BadAmount" "BadStair" false, exmB "TooMany" "BadStair" false, exmB "BadStair" "BadStair" true, exmB "Fault" "TooMany" false]
def fs3 : List Ck := [exmB "BadAmount" "TooMany" false, exmB "TooMany" "TooMany" true, exmB "BadStair" "TooMany" false, exiC "Fault", kitRR "Fault" "BadAmount" false, exiC "BadAmount", kitRR "BadAmount" "BadAmount" true, exiC "TooMany", kitRR "TooMany" "BadAmount" false, exiC "BadStair", kitRR "BadStair" "BadAmount" false, kitRR "Fault" "BadStair" false, kitRR "BadAmount" "BadStair" false, kitRR "TooMany" "BadStair" false, kitRR "BadStair" "BadStair" true, kitRR "Fault" "Fault" true, kitRR "BadAmount" "Fault" true, kitRR "TooMany" "Fault" true, kitRR "BadStair" "Fault" true, isC "Stair", kitRT "Stair" "int" false, kitRR "Stair" "Stair" true, kitTR "tuple" "Stair" false, kitTR "int" "Stair" false, kitTR "list" "Stair" false, kitTR "str" "Stair" false, kitTR "NoneType" "Stair" false, kitTR "bool" "Stair" false]
def fs : List Ck := fs0 ++ (fs1 ++ (fs2 ++ (fs3)))
abbrev Rw : PySem.W.OpenRow := PySem.W.OpenLaw.row PySem.Challenge.rw_flagfalls_k02_stairs_joined
abbrev hk : PySem.W.Hook := hookX 5 fs fn sx
def ob (s : PySem.W.SharedT) : AlX := obsXG 5 fs fn sx (HandSHeadRun.getT s)
theorem ob_eq (s : PySem.W.SharedT) : ob s = hk.obs s.abs := obsXG_eq (HandSHeadRun.getT_eq s)
def names : List PySem.Str := (PySem.Challenge.pw_flagfalls_k02_stairs_joined.main.scope.names.map (·.1)).filter (fun x => !(x == "law") && !(x == "__name__") && !(x == "lcm"))
theorem run (w : World) : HandSHeadRun.RunEqI Rw (PySem.W.view Rw.prog [0, 42]) hk ob 20000 names w := by
  unfold HandSHeadRun.RunEqI
  kernel_rfl
set_option maxHeartbeats 0 in
theorem facts {P : Program} {K : PySem.W.Frag} {h : Heap} {mg : Str → Option Value} {f : Addr} (hmf : P.main.file = mfl) (htop : (P.main.scope.names.lookup ("super" : Str)).isSome = false) (X : K.In h) (G : h.Ns mainGlobals mg) (hfa : mg ("law" : Str) = some (.ref f)) (c : SaysX fs fn sx K) :
    ∃ (Γ : Gc) (ad : Nat → Addr) (fd : Nat → FuncData) (dv : Nat → List V) (cv : Nat → V) (cu : Nat → Value) (fI : Nat → Addr), Γ.K = K ∧ ad 39 = f ∧ (∀ (s : Shared) (u : Value), BindsTo s (fd 39) ⟨[u], []⟩ [(("script" : Str), u)]) ∧ Fx P Γ mg ad fd dv cv cu fI := by
  obtain ⟨fd, hfd⟩ := c.defs (by decide)
  obtain ⟨t0, g0⟩ := int_ok X G (c.fact 0 (f := fa (.int "MOST_HEIGHTS" 600)))
  refine ⟨⟨K, fun i => match i with | 0 => ga K "Fault" | 1 => ga K "BadAmount" | 2 => ga K "TooMany" | 3 => ga K "BadStair" | 4 => ga K "Stair" | _ => 0⟩, fun i => match i with | 0 => fAd K d_lesser.at_ | 1 => fAd K d_greater.at_ | 2 => fAd K d_added.at_ | 3 => fAd K d_check_heights.at_ | 4 => fAd K d_least_step.at_ | 5 => fAd K d_normal_form.at_ | 6 => fAd K d_Stair_init.at_ | 7 => fAd K d_Stair_at.at_ | 8 => fAd K d_Stair_first_above.at_ | 9 => fAd K d_Stair_later.at_ | 10 => fAd K d_Stair_lowered.at_ | 11 => fAd K d_Stair_and.at_ | 12 => fAd K d_Stair_or.at_ | 13 => fAd K d_Stair_add.at_ | 14 => fAd K d_Stair_eq.at_ | 15 => fAd K d_sum_at.at_ | 16 => fAd K d_first_none.at_ | 17 => fAd K d_last_crossing.at_ | 18 => fAd K d_crossed_form.at_ | 19 => fAd K d_both_form.at_ | 20 => fAd K d_lesser_form.at_ | 21 => fAd K d_greater_form.at_ | 22 => fAd K d_sum_form.at_ | 23 => fAd K d_p_law_cell.at_ | 24 => fAd K d_p_law_numbers.at_ | 25 => fAd K d_p_law_is.at_ | 26 => fAd K d_p_law_value.at_ | 27 => fAd K d_p_law_normal.at_ | 28 => fAd K d_p_law_same.at_ | 29 => fAd K d_p_law_told.at_ | 30 => fAd K d_p_law_least.at_ | 31 => fAd K d_p_law_greatest.at_ | 32 => fAd K d_p_law_due.at_ | 33 => fAd K d_p_law_made.at_ | 34 => fAd K d_p_law_right.at_ | 35 => fAd K d_p_law_above.at_ | 36 => fAd K d_p_law_equals.at_ | 37 => fAd K d_p_law_long.at_ | 38 => fAd K d_p_law_refusals.at_ | 39 => fAd K d_law.at_ | _ => 0, fd, fun i => match i with | 0 => d_lesser.dvs K | 1 => d_greater.dvs K | 2 => d_added.dvs K | 3 => d_check_heights.dvs K | 4 => d_least_step.dvs K | 5 => d_normal_form.dvs K | 6 => d_Stair_init.dvs K | 7 => d_Stair_at.dvs K | 8 => d_Stair_first_above.dvs K | 9 => d_Stair_later.dvs K | 10 => d_Stair_lowered.dvs K | 11 => d_Stair_and.dvs K | 12 => d_Stair_or.dvs K | 13 => d_Stair_add.dvs K | 14 => d_Stair_eq.dvs K | 15 => d_sum_at.dvs K | 16 => d_first_none.dvs K | 17 => d_last_crossing.dvs K | 18 => d_crossed_form.dvs K | 19 => d_both_form.dvs K | 20 => d_lesser_form.dvs K | 21 => d_greater_form.dvs K | 22 => d_sum_form.dvs K | 23 => d_p_law_cell.dvs K | 24 => d_p_law_numbers.dvs K | 25 => d_p_law_is.dvs K | 26 => d_p_law_value.dvs K | 27 => d_p_law_normal.dvs K | 28 => d_p_law_same.dvs K | 29 => d_p_law_told.dvs K | 30 => d_p_law_least.dvs K | 31 => d_p_law_greatest.dvs K | 32 => d_p_law_due.dvs K | 33 => d_p_law_made.dvs K | 34 => d_p_law_right.dvs K | 35 => d_p_law_above.dvs K | 36 => d_p_law_equals.dvs K | 37 => d_p_law_long.dvs K | 38 => d_p_law_refusals.dvs K | 39 => d_law.dvs K | _ => [], fun i => match i with | 0 => .int 600 | _ => .non, fun i => match i with | 0 => .int 600 t0 | _ => .none, fun i => match i with | 1 => ma K (ga K "BadAmount") "__init__" | 2 => ma K (ga K "TooMany") "__init__" | _ => 0, rfl, ?_, fun s u => FunD.bindsA (ps := ["script"]) (hfd 39 d_law rfl) (fun _ _ _ _ _ _ us hl => match us, hl with | [_], _ => rfl) s [u] rfl, ?_⟩
  · have e := hfa.symm.trans (glo_ok X G (c.fact 55 (f := fa (.glo "law"))))
    cases e
    rfl
  constructor
  case gl_len =>
    exact free_ok X G (c.fact 1 (f := fa (.free "len")))
  case gl_abs =>
    exact free_ok X G (c.fact 2 (f := fa (.free "abs")))
  case gl_int =>
    exact free_ok X G (c.fact 3 (f := fa (.free "int")))
  case gl_max =>
    exact free_ok X G (c.fact 4 (f := fa (.free "max")))
  case gl_min =>
    exact free_ok X G (c.fact 5 (f := fa (.free "min")))
  case gl_sum =>
    exact free_ok X G (c.fact 6 (f := fa (.free "sum")))
  case gl_all =>
    exact free_ok X G (c.fact 7 (f := fa (.free "all")))
  case gl_any =>
    exact free_ok X G (c.fact 8 (f := fa (.free "any")))
  case gl_tuple =>
    exact free_ok X G (c.fact 9 (f := fa (.free "tuple")))
  case gl_list =>
    exact free_ok X G (c.fact 10 (f := fa (.free "list")))
  case gl_range =>
    exact free_ok X G (c.fact 11 (f := fa (.free "range")))
  case gl_isinstance =>
    exact free_ok X G (c.fact 12 (f := fa (.free "isinstance")))
  case gl_str =>
    exact free_ok X G (c.fact 13 (f := fa (.free "str")))
  case gl_bool =>
    exact free_ok X G (c.fact 14 (f := fa (.free "bool")))
  case gl_sorted =>
    exact free_ok X G (c.fact 15 (f := fa (.free "sorted")))
  case GB_lcm =>
    exact bfn_ok X G (c.fact 16 (f := bfnB "lcm" "math.lcm"))
  case F_lesser =>
    exact hfd 0 d_lesser rfl
  case B0_lesser =>
    exact ⟨.nil, FunD.bindsN (hfd 0 d_lesser rfl) fun _ _ _ _ _ _ us hl => match us, hl with | [_, _], _ => rfl⟩
  case G_lesser =>
    exact (glo_ok X G (c.fact 17 (f := fa (.glo "lesser"))))
  case F_greater =>
    exact hfd 1 d_greater rfl
  case B0_greater =>
    exact ⟨.nil, FunD.bindsN (hfd 1 d_greater rfl) fun _ _ _ _ _ _ us hl => match us, hl with | [_, _], _ => rfl⟩
  case G_greater =>
    exact (glo_ok X G (c.fact 18 (f := fa (.glo "greater"))))
  case F_added =>
    exact hfd 2 d_added rfl
  case B0_added =>
    exact ⟨.nil, FunD.bindsN (hfd 2 d_added rfl) fun _ _ _ _ _ _ us hl => match us, hl with | [_, _], _ => rfl⟩
  case G_added =>
    exact (glo_ok X G (c.fact 19 (f := fa (.glo "added"))))
  case F_check_heights =>
    exact hfd 3 d_check_heights rfl
  case B0_check_heights =>
    exact ⟨.nil, FunD.bindsN (hfd 3 d_check_heights rfl) fun _ _ _ _ _ _ us hl => match us, hl with | [_, _, _], _ => rfl⟩
  case G_check_heights =>
    exact (glo_ok X G (c.fact 20 (f := fa (.glo "check_heights"))))
  case F_least_step =>
    exact hfd 4 d_least_step rfl
  case B0_least_step =>
    exact ⟨.nil, FunD.bindsN (hfd 4 d_least_step rfl) fun _ _ _ _ _ _ us hl => match us, hl with | [_, _, _], _ => rfl⟩
  case G_least_step =>
    exact (glo_ok X G (c.fact 21 (f := fa (.glo "least_step"))))
  case F_normal_form =>
    exact hfd 5 d_normal_form rfl
  case B0_normal_form =>
    exact ⟨.nil, FunD.bindsN (hfd 5 d_normal_form rfl) fun _ _ _ _ _ _ us hl => match us, hl with | [_, _, _], _ => rfl⟩
  case G_normal_form =>
    exact (glo_ok X G (c.fact 22 (f := fa (.glo "normal_form"))))
  case F_Stair_init =>
    exact hfd 6 d_Stair_init rfl
  case B0_Stair_init =>
    exact ⟨.nil, FunD.bindsN (hfd 6 d_Stair_init rfl) fun _ _ _ _ _ _ us hl => match us, hl with | [_, _, _, _], _ => rfl⟩
  case F_Stair_at =>
    exact hfd 7 d_Stair_at rfl
  case B0_Stair_at =>
    exact ⟨.nil, FunD.bindsN (hfd 7 d_Stair_at rfl) fun _ _ _ _ _ _ us hl => match us, hl with | [_, _], _ => rfl⟩
  case MT_Stair_at =>
    exact meth_ok (c.fact 23 (f := fa (.meth "Stair" "at")))
  case F_Stair_first_above =>
    exact hfd 8 d_Stair_first_above rfl
  case B0_Stair_first_above =>
    exact ⟨.nil, FunD.bindsN (hfd 8 d_Stair_first_above rfl) fun _ _ _ _ _ _ us hl => match us, hl with | [_, _], _ => rfl⟩
  case MT_Stair_first_above =>
    exact meth_ok (c.fact 24 (f := fa (.meth "Stair" "first_above")))
  case F_Stair_later =>
    exact hfd 9 d_Stair_later rfl
  case B0_Stair_later =>
    exact ⟨.nil, FunD.bindsN (hfd 9 d_Stair_later rfl) fun _ _ _ _ _ _ us hl => match us, hl with | [_, _], _ => rfl⟩
  case MT_Stair_later =>
    exact meth_ok (c.fact 25 (f := fa (.meth "Stair" "later")))
  case F_Stair_lowered =>
    exact hfd 10 d_Stair_lowered rfl
  case B0_Stair_lowered =>
    exact ⟨.nil, FunD.bindsN (hfd 10 d_Stair_lowered rfl) fun _ _ _ _ _ _ us hl => match us, hl with | [_, _], _ => rfl⟩
  case MT_Stair_lowered =>
    exact meth_ok (c.fact 26 (f := fa (.meth "Stair" "lowered")))
  case F_Stair_and =>
    exact hfd 11 d_Stair_and rfl
  case B0_Stair_and =>
    exact ⟨.nil, FunD.bindsN (hfd 11 d_Stair_and rfl) fun _ _ _ _ _ _ us hl => match us, hl with | [_, _], _ => rfl⟩
  case OO_Stair_and =>
    exact own_ok (c.fact 27 (f := ownB "Stair" "and" "__and__"))
  case F_Stair_or =>
    exact hfd 12 d_Stair_or rfl
  case B0_Stair_or =>
    exact ⟨.nil, FunD.bindsN (hfd 12 d_Stair_or rfl) fun _ _ _ _ _ _ us hl => match us, hl with | [_, _], _ => rfl⟩
  case OO_Stair_or =>
    exact own_ok (c.fact 28 (f := ownB "Stair" "or" "__or__"))
  case F_Stair_add =>
    exact hfd 13 d_Stair_add rfl
  case B0_Stair_add =>
    exact ⟨.nil, FunD.bindsN (hfd 13 d_Stair_add rfl) fun _ _ _ _ _ _ us hl => match us, hl with | [_, _], _ => rfl⟩
  case OO_Stair_add =>
    exact own_ok (c.fact 29 (f := ownB "Stair" "add" "__add__"))
  case F_Stair_eq =>
    exact hfd 14 d_Stair_eq rfl
  case B0_Stair_eq =>
    exact ⟨.nil, FunD.bindsN (hfd 14 d_Stair_eq rfl) fun _ _ _ _ _ _ us hl => match us, hl with | [_, _], _ => rfl⟩
  case MT_Stair_eq =>
    exact meth_ok (c.fact 30 (f := fa (.meth "Stair" "__eq__")))
  case F_sum_at =>
    exact hfd 15 d_sum_at rfl
  case B0_sum_at =>
    exact ⟨.nil, FunD.bindsN (hfd 15 d_sum_at rfl) fun _ _ _ _ _ _ us hl => match us, hl with | [_, _, _], _ => rfl⟩
  case G_sum_at =>
    exact (glo_ok X G (c.fact 31 (f := fa (.glo "sum_at"))))
  case F_first_none =>
    exact hfd 16 d_first_none rfl
  case B0_first_none =>
    exact ⟨.nil, FunD.bindsN (hfd 16 d_first_none rfl) fun _ _ _ _ _ _ us hl => match us, hl with | [_, _], _ => rfl⟩
  case G_first_none =>
    exact (glo_ok X G (c.fact 32 (f := fa (.glo "first_none"))))
  case F_last_crossing =>
    exact hfd 17 d_last_crossing rfl
  case B0_last_crossing =>
    exact ⟨.nil, FunD.bindsN (hfd 17 d_last_crossing rfl) fun _ _ _ _ _ _ us hl => match us, hl with | [_, _], _ => rfl⟩
  case G_last_crossing =>
    exact (glo_ok X G (c.fact 33 (f := fa (.glo "last_crossing"))))
  case F_crossed_form =>
    exact hfd 18 d_crossed_form rfl
  case B0_crossed_form =>
    exact ⟨.nil, FunD.bindsN (hfd 18 d_crossed_form rfl) fun _ _ _ _ _ _ us hl => match us, hl with | [_, _, _], _ => rfl⟩
  case G_crossed_form =>
    exact (glo_ok X G (c.fact 34 (f := fa (.glo "crossed_form"))))
  case F_both_form =>
    exact hfd 19 d_both_form rfl
  case B0_both_form =>
    exact ⟨.nil, FunD.bindsN (hfd 19 d_both_form rfl) fun _ _ _ _ _ _ us hl => match us, hl with | [_, _, _], _ => rfl⟩
  case G_both_form =>
    exact (glo_ok X G (c.fact 35 (f := fa (.glo "both_form"))))
  case F_lesser_form =>
    exact hfd 20 d_lesser_form rfl
  case B0_lesser_form =>
    exact ⟨.nil, FunD.bindsN (hfd 20 d_lesser_form rfl) fun _ _ _ _ _ _ us hl => match us, hl with | [_, _], _ => rfl⟩
  case G_lesser_form =>
    exact (glo_ok X G (c.fact 36 (f := fa (.glo "lesser_form"))))
  case F_greater_form =>
    exact hfd 21 d_greater_form rfl
  case B0_greater_form =>
    exact ⟨.nil, FunD.bindsN (hfd 21 d_greater_form rfl) fun _ _ _ _ _ _ us hl => match us, hl with | [_, _], _ => rfl⟩
  case G_greater_form =>
    exact (glo_ok X G (c.fact 37 (f := fa (.glo "greater_form"))))
  case F_sum_form =>
    exact hfd 22 d_sum_form rfl
  case B0_sum_form =>
    exact ⟨.nil, FunD.bindsN (hfd 22 d_sum_form rfl) fun _ _ _ _ _ _ us hl => match us, hl with | [_, _], _ => rfl⟩
  case G_sum_form =>
    exact (glo_ok X G (c.fact 38 (f := fa (.glo "sum_form"))))
  case F_p_law_cell =>
    exact hfd 23 d_p_law_cell rfl
  case B0_p_law_cell =>
    exact ⟨.nil, FunD.bindsN (hfd 23 d_p_law_cell rfl) fun _ _ _ _ _ _ us hl => match us, hl with | [_, _], _ => rfl⟩
  case G_p_law_cell =>
    exact (glo_ok X G (c.fact 39 (f := fa (.glo "_law_cell"))))
  case F_p_law_numbers =>
    exact hfd 24 d_p_law_numbers rfl
  case B0_p_law_numbers =>
    exact ⟨.nil, FunD.bindsN (hfd 24 d_p_law_numbers rfl) fun _ _ _ _ _ _ us hl => match us, hl with | [_, _, _, _], _ => rfl⟩
  case G_p_law_numbers =>
    exact (glo_ok X G (c.fact 40 (f := fa (.glo "_law_numbers"))))
  case F_p_law_is =>
    exact hfd 25 d_p_law_is rfl
  case B0_p_law_is =>
    exact ⟨.nil, FunD.bindsN (hfd 25 d_p_law_is rfl) fun _ _ _ _ _ _ us hl => match us, hl with | [_, _], _ => rfl⟩
  case G_p_law_is =>
    exact (glo_ok X G (c.fact 41 (f := fa (.glo "_law_is"))))
  case F_p_law_value =>
    exact hfd 26 d_p_law_value rfl
  case B0_p_law_value =>
    exact ⟨.nil, FunD.bindsN (hfd 26 d_p_law_value rfl) fun _ _ _ _ _ _ us hl => match us, hl with | [_, _, _, _], _ => rfl⟩
  case G_p_law_value =>
    exact (glo_ok X G (c.fact 42 (f := fa (.glo "_law_value"))))
  case F_p_law_normal =>
    exact hfd 27 d_p_law_normal rfl
  case B0_p_law_normal =>
    exact ⟨.nil, FunD.bindsN (hfd 27 d_p_law_normal rfl) fun _ _ _ _ _ _ us hl => match us, hl with | [_, _, _], _ => rfl⟩
  case G_p_law_normal =>
    exact (glo_ok X G (c.fact 43 (f := fa (.glo "_law_normal"))))
  case F_p_law_same =>
    exact hfd 28 d_p_law_same rfl
  case B0_p_law_same =>
    exact ⟨.nil, FunD.bindsN (hfd 28 d_p_law_same rfl) fun _ _ _ _ _ _ us hl => match us, hl with | [_, _], _ => rfl⟩
  case G_p_law_same =>
    exact (glo_ok X G (c.fact 44 (f := fa (.glo "_law_same"))))
  case F_p_law_told =>
    exact hfd 29 d_p_law_told rfl
  case B0_p_law_told =>
    exact ⟨.nil, FunD.bindsN (hfd 29 d_p_law_told rfl) fun _ _ _ _ _ _ us hl => match us, hl with | [_, _], _ => rfl⟩
  case G_p_law_told =>
    exact (glo_ok X G (c.fact 45 (f := fa (.glo "_law_told"))))
  case F_p_law_least =>
    exact hfd 30 d_p_law_least rfl
  case B0_p_law_least =>
    exact ⟨.nil, FunD.bindsN (hfd 30 d_p_law_least rfl) fun _ _ _ _ _ _ us hl => match us, hl with | [_, _], _ => rfl⟩
  case G_p_law_least =>
    exact (glo_ok X G (c.fact 46 (f := fa (.glo "_law_least"))))
  case F_p_law_greatest =>
    exact hfd 31 d_p_law_greatest rfl
  case B0_p_law_greatest =>
    exact ⟨.nil, FunD.bindsN (hfd 31 d_p_law_greatest rfl) fun _ _ _ _ _ _ us hl => match us, hl with | [_, _], _ => rfl⟩
  case G_p_law_greatest =>
    exact (glo_ok X G (c.fact 47 (f := fa (.glo "_law_greatest"))))
  case F_p_law_due =>
    exact hfd 32 d_p_law_due rfl
  case B0_p_law_due =>
    exact ⟨.nil, FunD.bindsN (hfd 32 d_p_law_due rfl) fun _ _ _ _ _ _ us hl => match us, hl with | [_, _, _, _], _ => rfl⟩
  case G_p_law_due =>
    exact (glo_ok X G (c.fact 48 (f := fa (.glo "_law_due"))))
  case F_p_law_made =>
    exact hfd 33 d_p_law_made rfl
  case B0_p_law_made =>
    exact ⟨.nil, FunD.bindsN (hfd 33 d_p_law_made rfl) fun _ _ _ _ _ _ us hl => match us, hl with | [_, _, _, _], _ => rfl⟩
  case G_p_law_made =>
    exact (glo_ok X G (c.fact 49 (f := fa (.glo "_law_made"))))
  case F_p_law_right =>
    exact hfd 34 d_p_law_right rfl
  case B0_p_law_right =>
    exact ⟨.nil, FunD.bindsN (hfd 34 d_p_law_right rfl) fun _ _ _ _ _ _ us hl => match us, hl with | [_, _, _, _, _], _ => rfl⟩
  case G_p_law_right =>
    exact (glo_ok X G (c.fact 50 (f := fa (.glo "_law_right"))))
  case F_p_law_above =>
    exact hfd 35 d_p_law_above rfl
  case B0_p_law_above =>
    exact ⟨.nil, FunD.bindsN (hfd 35 d_p_law_above rfl) fun _ _ _ _ _ _ us hl => match us, hl with | [_, _], _ => rfl⟩
  case G_p_law_above =>
    exact (glo_ok X G (c.fact 51 (f := fa (.glo "_law_above"))))
  case F_p_law_equals =>
    exact hfd 36 d_p_law_equals rfl
  case B0_p_law_equals =>
    exact ⟨.nil, FunD.bindsN (hfd 36 d_p_law_equals rfl) fun _ _ _ _ _ _ us hl => match us, hl with | [_, _], _ => rfl⟩
  case G_p_law_equals =>
    exact (glo_ok X G (c.fact 52 (f := fa (.glo "_law_equals"))))
  case F_p_law_long =>
    exact hfd 37 d_p_law_long rfl
  case B0_p_law_long =>
    exact ⟨.nil, FunD.bindsN (hfd 37 d_p_law_long rfl) fun _ _ _ _ _ _ us hl => match us, hl with | [_, _], _ => rfl⟩
  case G_p_law_long =>
    exact (glo_ok X G (c.fact 53 (f := fa (.glo "_law_long"))))
  case F_p_law_refusals =>
    exact hfd 38 d_p_law_refusals rfl
  case B0_p_law_refusals =>
    exact ⟨.nil, FunD.bindsN (hfd 38 d_p_law_refusals rfl) fun _ _ _ _ _ _ us hl => match us, hl with | [_, _], _ => rfl⟩
  case G_p_law_refusals =>
    exact (glo_ok X G (c.fact 54 (f := fa (.glo "_law_refusals"))))
  case F_law =>
    exact hfd 39 d_law rfl
  case B0_law =>
    exact ⟨.nil, FunD.bindsN (hfd 39 d_law rfl) fun _ _ _ _ _ _ us hl => match us, hl with | [_], _ => rfl⟩
  case G_law =>
    exact (glo_ok X G (c.fact 55 (f := fa (.glo "law"))))
  case G_Fault =>
    exact (glo_ok X G (c.fact 56 (f := fa (.glo "Fault"))))
  case G_BadAmount =>
    exact (glo_ok X G (c.fact 57 (f := fa (.glo "BadAmount"))))
  case SU_BadAmount =>
    exact sup_ok (d := x_BadAmount) (c.sup 0 (d := x_BadAmount)) (c.fact 58 (f := supB mfl x_BadAmount)) rfl rfl rfl hmf htop ⟨by decide, by decide, by decide, by decide⟩ (fun _ _ _ _ _ _ _ _ _ _ _ _ => rfl) (fun _ => ⟨_, rfl⟩)
  case KP_BadAmount =>
    exact keep_ok (c.fact 59 (f := fa (.keep "BadAmount")))
  case RS_BadAmount =>
    exact fun Y e => by
      subst e
      exact rais_ok (c.fact 60 (f := raisB "BadAmount"))
  case G_TooMany =>
    exact (glo_ok X G (c.fact 61 (f := fa (.glo "TooMany"))))
  case SU_TooMany =>
    exact sup_ok (d := x_TooMany) (c.sup 1 (d := x_TooMany)) (c.fact 62 (f := supB mfl x_TooMany)) rfl rfl rfl hmf htop ⟨by decide, by decide, by decide, by decide⟩ (fun _ _ _ _ _ _ _ _ _ _ _ _ => rfl) (fun _ => ⟨_, rfl⟩)
  case KP_TooMany =>
    exact keep_ok (c.fact 63 (f := fa (.keep "TooMany")))
  case RS_TooMany =>
    exact fun Y e => by
      subst e
      exact rais_ok (c.fact 64 (f := raisB "TooMany"))
  case G_BadStair =>
    exact (glo_ok X G (c.fact 65 (f := fa (.glo "BadStair"))))
  case EX_BadStair =>
    exact (exc_ok (c.fact 66 (f := fa (.exc "BadStair")))).1
  case KP_BadStair =>
    exact keep_ok (c.fact 67 (f := fa (.keep "BadStair")))
  case RS_BadStair =>
    exact fun Y e => by
      subst e
      exact rais_ok (c.fact 68 (f := raisB "BadStair"))
  case G_Stair =>
    exact (glo_ok X G (c.fact 69 (f := fa (.glo "Stair"))))
  case C_Stair =>
    exact cls_ok (c.fact 70 (f := fa (.cls "Stair")))
  case M_Stair =>
    exact mkr_ok (c.fact 71 (f := fa (.mkr "Stair")))
  case EO_Stair =>
    exact eqc_ok (c.fact 72 (f := eqcB "Stair"))
  case FL_heights =>
    exact by
      intro c h
      simp only [ok_heights, Bool.or_eq_true, beq_iff_eq] at h
      have e := h
      · subst e; exact ⟨cls_ok (c.fact 70 (f := fa (.cls "Stair"))), noat_ok (c.fact 73 (f := fa (.noat "Stair" "heights")))⟩
  case FL_rise =>
    exact by
      intro c h
      simp only [ok_rise, Bool.or_eq_true, beq_iff_eq] at h
      have e := h
      · subst e; exact ⟨cls_ok (c.fact 70 (f := fa (.cls "Stair"))), noat_ok (c.fact 74 (f := fa (.noat "Stair" "rise")))⟩
  case FL_start =>
    exact by
      intro c h
      simp only [ok_start, Bool.or_eq_true, beq_iff_eq] at h
      have e := h
      · subst e; exact ⟨cls_ok (c.fact 70 (f := fa (.cls "Stair"))), noat_ok (c.fact 75 (f := fa (.noat "Stair" "start")))⟩
  case FL_step =>
    exact by
      intro c h
      simp only [ok_step, Bool.or_eq_true, beq_iff_eq] at h
      have e := h
      · subst e; exact ⟨cls_ok (c.fact 70 (f := fa (.cls "Stair"))), noat_ok (c.fact 76 (f := fa (.noat "Stair" "step")))⟩
  case XF_amount =>
    exact by
      intro c h
      simp only [okx_amount, Bool.or_eq_true, beq_iff_eq] at h
      have e := h
      · subst e; exact ⟨xfc_ok (c.fact 77 (f := xfCk "BadAmount")), noat_ok (c.fact 78 (f := fa (.noat "BadAmount" "amount")))⟩
  case XF_limit =>
    exact by
      intro c h
      simp only [okx_limit, Bool.or_eq_true, beq_iff_eq] at h
      have e := h
      · subst e; exact ⟨xfc_ok (c.fact 79 (f := xfCk "TooMany")), noat_ok (c.fact 80 (f := fa (.noat "TooMany" "limit")))⟩
  case MTX_BadAmount =>
    exact by
      intro c b h
      unfold mt_BadAmount at h
      by_cases e : c = 0
      · subst e; cases h; exact exmB_ok (c.fact 81 (f := exmB "Fault" "BadAmount" false))
      rw [if_neg e] at h; clear e
      by_cases e : c = 1
      · subst e; cases h; exact exmB_ok (c.fact 82 (f := exmB "BadAmount" "BadAmount" true))
      rw [if_neg e] at h; clear e
      by_cases e : c = 2
      · subst e; cases h; exact exmB_ok (c.fact 83 (f := exmB "TooMany" "BadAmount" false))
      rw [if_neg e] at h; clear e
      by_cases e : c = 3
      · subst e; cases h; exact exmB_ok (c.fact 84 (f := exmB "BadStair" "BadAmount" false))
      rw [if_neg e] at h; clear e
      cases h
  case MTX_BadStair =>
    exact by
      intro c b h
      unfold mt_BadStair at h
      by_cases e : c = 0
      · subst e; cases h; exact exmB_ok (c.fact 85 (f := exmB "Fault" "BadStair" false))
      rw [if_neg e] at h; clear e
      by_cases e : c = 1
      · subst e; cases h; exact exmB_ok (c.fact 86 (f := exmB "BadAmount" "BadStair" false))
      rw [if_neg e] at h; clear e
      by_cases e : c = 2
      · subst e; cases h; exact exmB_ok (c.fact 87 (f := exmB "TooMany" "BadStair" false))
      rw [if_neg e] at h; clear e
      by_cases e : c = 3
      · subst e; cases h; exact exmB_ok (c.fact 88 (f := exmB "BadStair" "BadStair" true))
      rw [if_neg e] at h; clear e
      cases h
  case MTX_TooMany =>
    exact by
      intro c b h
      unfold mt_TooMany at h
      by_cases e : c = 0
      · subst e; cases h; exact exmB_ok (c.fact 89 (f := exmB "Fault" "TooMany" false))
      rw [if_neg e] at h; clear e
      by_cases e : c = 1
      · subst e; cases h; exact exmB_ok (c.fact 90 (f := exmB "BadAmount" "TooMany" false))
      rw [if_neg e] at h; clear e
      by_cases e : c = 2
      · subst e; cases h; exact exmB_ok (c.fact 91 (f := exmB "TooMany" "TooMany" true))
      rw [if_neg e] at h; clear e
      by_cases e : c = 3
      · subst e; cases h; exact exmB_ok (c.fact 92 (f := exmB "BadStair" "TooMany" false))
      rw [if_neg e] at h; clear e
      cases h
  case XI_BadAmount =>
    exact by
      intro c b h
      unfold ib_BadAmount at h
      by_cases e : c = 0
      · subst e; cases h; exact ⟨exi_ok (c.fact 93 (f := exiC "Fault")), kitRR_ok (c.fact 94 (f := kitRR "Fault" "BadAmount" false))⟩
      rw [if_neg e] at h; clear e
      by_cases e : c = 1
      · subst e; cases h; exact ⟨exi_ok (c.fact 95 (f := exiC "BadAmount")), kitRR_ok (c.fact 96 (f := kitRR "BadAmount" "BadAmount" true))⟩
      rw [if_neg e] at h; clear e
      by_cases e : c = 2
      · subst e; cases h; exact ⟨exi_ok (c.fact 97 (f := exiC "TooMany")), kitRR_ok (c.fact 98 (f := kitRR "TooMany" "BadAmount" false))⟩
      rw [if_neg e] at h; clear e
      by_cases e : c = 3
      · subst e; cases h; exact ⟨exi_ok (c.fact 99 (f := exiC "BadStair")), kitRR_ok (c.fact 100 (f := kitRR "BadStair" "BadAmount" false))⟩
      rw [if_neg e] at h; clear e
      cases h
  case XI_BadStair =>
    exact by
      intro c b h
      unfold ib_BadStair at h
      by_cases e : c = 0
      · subst e; cases h; exact ⟨exi_ok (c.fact 93 (f := exiC "Fault")), kitRR_ok (c.fact 101 (f := kitRR "Fault" "BadStair" false))⟩
      rw [if_neg e] at h; clear e
      by_cases e : c = 1
      · subst e; cases h; exact ⟨exi_ok (c.fact 95 (f := exiC "BadAmount")), kitRR_ok (c.fact 102 (f := kitRR "BadAmount" "BadStair" false))⟩
      rw [if_neg e] at h; clear e
      by_cases e : c = 2
      · subst e; cases h; exact ⟨exi_ok (c.fact 97 (f := exiC "TooMany")), kitRR_ok (c.fact 103 (f := kitRR "TooMany" "BadStair" false))⟩
      rw [if_neg e] at h; clear e
      by_cases e : c = 3
      · subst e; cases h; exact ⟨exi_ok (c.fact 99 (f := exiC "BadStair")), kitRR_ok (c.fact 104 (f := kitRR "BadStair" "BadStair" true))⟩
      rw [if_neg e] at h; clear e
      cases h
  case XI_Fault =>
    exact by
      intro c b h
      unfold ib_Fault at h
      by_cases e : c = 0
      · subst e; cases h; exact ⟨exi_ok (c.fact 93 (f := exiC "Fault")), kitRR_ok (c.fact 105 (f := kitRR "Fault" "Fault" true))⟩
      rw [if_neg e] at h; clear e
      by_cases e : c = 1
      · subst e; cases h; exact ⟨exi_ok (c.fact 95 (f := exiC "BadAmount")), kitRR_ok (c.fact 106 (f := kitRR "BadAmount" "Fault" true))⟩
      rw [if_neg e] at h; clear e
      by_cases e : c = 2
      · subst e; cases h; exact ⟨exi_ok (c.fact 97 (f := exiC "TooMany")), kitRR_ok (c.fact 107 (f := kitRR "TooMany" "Fault" true))⟩
      rw [if_neg e] at h; clear e
      by_cases e : c = 3
      · subst e; cases h; exact ⟨exi_ok (c.fact 99 (f := exiC "BadStair")), kitRR_ok (c.fact 108 (f := kitRR "BadStair" "Fault" true))⟩
      rw [if_neg e] at h; clear e
      cases h
  case IBC_int =>
    exact by
      intro c b h
      unfold ibc_int at h
      by_cases e : c = 4
      · subst e; cases h; exact ⟨isc_ok (c.fact 109 (f := isC "Stair")), kitRT_ok (c.fact 110 (f := kitRT "Stair" "int" false))⟩
      rw [if_neg e] at h; clear e
      cases h
  case IC_Stair =>
    exact by
      intro c b h
      unfold ic_Stair at h
      by_cases e : c = 4
      · subst e; cases h; exact ⟨isc_ok (c.fact 109 (f := isC "Stair")), kitRR_ok (c.fact 111 (f := kitRR "Stair" "Stair" true))⟩
      rw [if_neg e] at h; clear e
      cases h
  case IT_Stair =>
    exact by
      intro s b h
      unfold tb_Stair at h
      split at h
      · rename_i e; cases h
        rcases e with rfl | rfl | rfl | rfl | rfl | rfl
        · exact kitTR_ok (c.fact 112 (f := kitTR "tuple" "Stair" false))
        · exact kitTR_ok (c.fact 113 (f := kitTR "int" "Stair" false))
        · exact kitTR_ok (c.fact 114 (f := kitTR "list" "Stair" false))
        · exact kitTR_ok (c.fact 115 (f := kitTR "str" "Stair" false))
        · exact kitTR_ok (c.fact 116 (f := kitTR "NoneType" "Stair" false))
        · exact kitTR_ok (c.fact 117 (f := kitTR "bool" "Stair" false))
      · cases h
  case G_MOST_HEIGHTS =>
    exact ⟨g0, _, rfl⟩
  case R_MOST_HEIGHTS =>
    exact fun H => by simp only [Rep]
section
variable {P : Program} {w : World} {Γ : Gc} {mg : Str → Option Value} {base : Heap} {ad : Nat → Addr} {fd : Nat → FuncData} {dv : Nat → List V} {cv : Nat → V} {cu : Nat → Value} {fI : Nat → Addr}
theorem ok_all (fx : Fx P Γ mg ad fd dv cv cu fI) : FnOk P w Γ.K mg base (L2N.CX P w) 9 (ad 39) (fd 39) ["script"] (spP Γ F_law) := by
  have k_lesser := ok_lesser (w := w) (base := base) fx 
  have k_greater := ok_greater (w := w) (base := base) fx 
  have k_added := ok_added (w := w) (base := base) fx 
  have k_check_heights := ok_check_heights (w := w) (base := base) fx 
  have k_least_step := ok_least_step (w := w) (base := base) fx 
  have k_Stair_at := ok_Stair_at (w := w) (base := base) fx 
  have k_Stair_eq := ok_Stair_eq (w := w) (base := base) fx 
  have k_first_none := ok_first_none (w := w) (base := base) fx 
  have k_p_law_cell := ok_p_law_cell (w := w) (base := base) fx 
  have k_p_law_numbers := ok_p_law_numbers (w := w) (base := base) fx 
  have k_p_law_is := ok_p_law_is (w := w) (base := base) fx 
  have h_p_law_is := okH_p_law_is (w := w) (base := base) fx 
  have k_p_law_value := ok_p_law_value (w := w) (base := base) fx 
  have k_p_law_least := ok_p_law_least (w := w) (base := base) fx 
  have k_p_law_greatest := ok_p_law_greatest (w := w) (base := base) fx 
  have k_normal_form := ok_normal_form (w := w) (base := base) fx k_least_step
  have k_Stair_first_above := ok_Stair_first_above (w := w) (base := base) fx k_lesser
  have k_sum_at := ok_sum_at (w := w) (base := base) fx k_Stair_at k_added
  have k_last_crossing := ok_last_crossing (w := w) (base := base) fx k_Stair_at
  have k_sum_form := ok_sum_form (w := w) (base := base) fx k_first_none
  have k_p_law_normal := ok_p_law_normal (w := w) (base := base) fx k_p_law_value
  have k_p_law_same := ok_p_law_same (w := w) (base := base) fx k_p_law_is
  have k_p_law_told := ok_p_law_told (w := w) (base := base) fx k_p_law_cell k_p_law_numbers k_p_law_value
  have k_p_law_due := ok_p_law_due (w := w) (base := base) fx k_p_law_greatest k_p_law_least
  have k_Stair_init := ok_Stair_init (w := w) (base := base) fx k_check_heights k_normal_form
  have k_crossed_form := ok_crossed_form (w := w) (base := base) fx k_last_crossing
  have k_both_form := ok_both_form (w := w) (base := base) fx k_crossed_form
  have k_Stair_later := ok_Stair_later (w := w) (base := base) fx k_Stair_init k_Stair_at
  have k_Stair_lowered := ok_Stair_lowered (w := w) (base := base) fx k_Stair_init k_Stair_at k_Stair_first_above
  have k_Stair_add := ok_Stair_add (w := w) (base := base) fx k_Stair_init k_added k_sum_at k_sum_form
  have k_lesser_form := ok_lesser_form (w := w) (base := base) fx k_both_form
  have k_greater_form := ok_greater_form (w := w) (base := base) fx k_both_form k_first_none
  have k_p_law_above := ok_p_law_above (w := w) (base := base) fx k_Stair_init k_Stair_first_above k_p_law_value
  have k_Stair_and := ok_Stair_and (w := w) (base := base) fx k_Stair_init k_Stair_at k_lesser k_lesser_form
  have k_Stair_or := ok_Stair_or (w := w) (base := base) fx k_Stair_init k_Stair_at k_greater k_greater_form
  have k_p_law_equals := ok_p_law_equals (w := w) (base := base) fx k_Stair_add k_Stair_eq k_Stair_init k_p_law_normal
  have k_p_law_refusals := ok_p_law_refusals (w := w) (base := base) fx k_Stair_add k_Stair_init k_Stair_at k_Stair_later k_Stair_lowered h_p_law_is
  have k_p_law_made := ok_p_law_made (w := w) (base := base) fx k_Stair_add k_Stair_and k_Stair_or k_Stair_later k_Stair_lowered
  have k_p_law_long := ok_p_law_long (w := w) (base := base) fx k_Stair_and k_Stair_init k_Stair_or k_Stair_at k_Stair_lowered k_p_law_is h_p_law_is
  have k_p_law_right := ok_p_law_right (w := w) (base := base) fx k_Stair_init k_Stair_at k_p_law_due k_p_law_is k_p_law_made k_p_law_normal k_p_law_same k_p_law_value
  have k_law := ok_law (w := w) (base := base) fx k_p_law_above k_p_law_cell k_p_law_equals k_p_law_long k_p_law_numbers k_p_law_refusals k_p_law_right k_p_law_told
  exact k_law
end
end K02
open PySem PySem.W PySem.Calls PyProof.Rows
set_option maxHeartbeats 0 in
theorem K02.holds_of (hF : ∀ ns : List Int, ns.length ≤ 63 → (∀ z ∈ ns, Builtin.Int.intBits z ≤ 1048576) → K02.F_law [.scr (ns.map .int)] = .ok (.sh (.bl true))) : PySem.Challenge.rw_flagfalls_k02_stairs_joined.Holds := by
  w_on; o_law
  refine HandSHeadRun.head_imp (r := OpenLaw.row PySem.Challenge.rw_flagfalls_k02_stairs_joined) (q := view (OpenLaw.row PySem.Challenge.rw_flagfalls_k02_stairs_joined).prog [0, 42]) (H := K02.hk) (ob := K02.ob) (M := 20000) (loose := K02.names) (d := HandSHeadRun.topDef (OpenLaw.row PySem.Challenge.rw_flagfalls_k02_stairs_joined).prog 42) (kwd := []) K02.ob_eq
    K02.run (by kernel_rfl) (by kernel_rfl) (by kernel_rfl) (by rfl) (by first | assumption | decide +kernel) (by decide +kernel) ⟨rfl, rfl, rfl, rfl, rfl, by decide +kernel⟩ ?hw ?hc
  case hw => w_witness2
  case hc =>
    refine X4.walk_X (l := PySem.Challenge.rw_flagfalls_k02_stairs_joined) (n := 63) (k := 9) (x := "script") (Fn := K02.F_law) rfl (by decide) (by kernel_rfl) ⟨rfl, by decide, by decide⟩ ?F hF
    intro w mg fa h Y G hmg0
    obtain ⟨K, KX, c⟩ := Y
    have hmg : mg ("law" : PySem.Str) = some (.ref fa) := by
      have e : (HandSHeadRun.topDef (OpenLaw.row PySem.Challenge.rw_flagfalls_k02_stairs_joined).prog 42).name = ("law" : PySem.Str) := by kernel_rfl
      rw [← e]
      exact hmg0
    obtain ⟨Γ, ad, fd, dv, cv, cu, fI, eK, ea, hb, fx⟩ := K02.facts (P := (PySem.Challenge.rw_flagfalls_k02_stairs_joined).prog) (by kernel_rfl) (by kernel_rfl) KX G hmg c
    subst eK ea
    exact ⟨Γ, fd 39, KX, hb, fun base _ _ => K02.ok_all fx⟩

end
section
namespace K02
open PySem L2 L3
local macro_rules | `(tactic| walk_at "d") => `(tactic| first | assumption | omega | (simp only [szl, List.length_map, List.length_append, List.length_cons, List.length_nil, List.length_range, List.length_replicate, rngP_length]; omega) | exact Eq.refl _ | (simp; done))
def cell (ns : List Int) (k : Nat) : Int := ns.getD k 0
theorem cell_ok {ns : List Int} {k : Nat} : F_p_law_cell [.scr (ns.map .int), .int k] = .ok (.sh (.int (cell ns k))) := by
  rw [F_p_law_cell_at]
  unfold s_p_law_cell
  by_cases h : k < ns.length
  · simp [h, atI_natP, cell]
  · simp [h, cell]

def mixA (c s k : Int) : Int := ((if c < 0 then -c else c) + s * 7919 + k * 104729 + 17) % 2147483647
def mixB (c s k : Int) : Int := (mixA c s k * 48271 + 5) % 2147483647
def mixC (c s k : Int) : Int := (mixB c s k * mixB c s k + mixB c s k * 69621 + k * 31) % 2147483629
theorem mixB_rng {c s k : Int} : -(2 ^ 64) < mixB c s k ∧ mixB c s k < 2 ^ 64 := by unfold mixB; omega
def numAt (c s m k : Int) (g : Bool) (r : Int) : Int := if (g && decide (0 < r)) = true then r % m else (mixC c s k / 7) % m
def restAt (m : Int) (g : Bool) (r : Int) : Int := if (g && decide (0 < r)) = true then r / m else r
def nEnv (c s m n : Int) (b : List Int × Int) (g : Bool) : L3.Env := [some (.sh (.int c)), some (.sh (.int s)), some (.sh (.int n)), some (.sh (.int m)), some (.own (b.1.map fun i => .sh (.int i))), some (.sh (.int b.2)), some (.sh (.bl g)), none, none]
theorem numAt_rng {c s m k : Int} {g : Bool} {r : Int} (hm : 0 < m) : 0 ≤ numAt c s m k g r ∧ numAt c s m k g r < m := by
  unfold numAt
  split <;> exact ⟨Int.emod_nonneg _ (by omega), Int.emod_lt_of_pos _ hm⟩
theorem numbers_turn {c s m n : Int} {b : List Int × Int} {g : Bool} {k : Nat} (hm : 0 < m) (hm2 : m < 2 ^ 200) (hl : b.1.length < 1000000) :
    Turn (.nm 7) [7, 8] b_p_law_numbers_1 (.int (0 + (k : Int))) (nEnv c s m n b g) (nEnv c s m n (b.1 ++ [numAt c s m k g b.2], restAt m g b.2) g) := by
  unfold b_p_law_numbers_1 nEnv
  obtain ⟨l, r⟩ := b
  dsimp only at hl
  refine .of ?_
  have hB : -(2 ^ 64) < mixB c s k ∧ mixB c s k < 2 ^ 64 := mixB_rng
  cases h : (g && decide (0 < r)) with
  | true => simp (disch := walk_at "d") [h, numAt, restAt]
  | false =>
    unfold mixB mixA at hB
    simp (disch := walk_at "d") [h, numAt, restAt, mixC, mixB, mixA]
def numsF (c s m : Int) (b : List Int × Int) (k : Nat) : List Int × Int := (b.1 ++ [numAt c s m k (decide (1000000000000000000 ≤ (if c < 0 then -c else c))) b.2], restAt m (decide (1000000000000000000 ≤ (if c < 0 then -c else c))) b.2)
def nums (c s : Int) (n : Nat) (m : Int) : List Int := ((List.range n).foldl (numsF c s m) ([], if c < 0 then -c else c)).1
theorem nums_ok {c s m : Int} {n : Nat} (hm : 0 < m) (hm2 : m < 2 ^ 200) (hn : n < 1000000) : F_p_law_numbers [.int c, .int s, .int n, .int m] = .ok (.own ((nums c s n m).map fun i => .sh (.int i))) := by
  rw [F_p_law_numbers_at]
  unfold s_p_law_numbers
  simp (disch := walk_at "d")
  have key := (forGo_foldN (T := .nm 7) (fg := [7, 8]) (fb := b_p_law_numbers_1) (f := fun (k : Nat) => PV.int (0 + (k : Int))) (fun b => nEnv c s m n b (decide (1000000000000000000 ≤ (if c < 0 then -c else c)))) (numsF c s m) (fun k b => b.1.length = k ∧ k ≤ n) (List.range n) 0 ([], if c < 0 then -c else c) ⟨rfl, Nat.zero_le _⟩ fun j x b hx hb => by
    obtain ⟨hj, rfl⟩ := List.getElem?_eq_some_iff.mp hx
    rw [List.length_range] at hj
    refine ⟨⟨by simp [numsF]; omega, by omega⟩, ?_⟩
    exact numbers_turn hm hm2 (by omega)).1
  rw [← rngP_eq] at key
  simp only [nEnv, List.map_nil] at key
  rw [key]
  simp [nums]
theorem nums_fold (c s m : Int) (hm : 0 < m) : ∀ (l : List Nat) (b : List Int × Int), (∀ x ∈ b.1, 0 ≤ x ∧ x < m) → (∀ x ∈ (l.foldl (numsF c s m) b).1, 0 ≤ x ∧ x < m) ∧ (l.foldl (numsF c s m) b).1.length = b.1.length + l.length
  | [], b, h => ⟨h, rfl⟩
  | k :: l, b, h => by
    have := nums_fold c s m hm l (numsF c s m b k) (by
      intro x hx
      rcases List.mem_append.mp hx with hx | hx
      · exact h x hx
      · rw [List.mem_singleton.mp hx]; exact numAt_rng hm)
    refine ⟨this.1, ?_⟩
    rw [List.foldl_cons, this.2]
    simp [numsF]
    omega
theorem nums_len {c s m : Int} {n : Nat} (hm : 0 < m) : (nums c s n m).length = n := by
  have := (nums_fold c s m hm (List.range n) ([], if c < 0 then -c else c) (by simp)).2
  simpa [nums] using this
theorem nums_mem {c s m : Int} {n : Nat} (hm : 0 < m) : ∀ x ∈ nums c s n m, 0 ≤ x ∧ x < m := (nums_fold c s m hm (List.range n) ([], if c < 0 then -c else c) (by simp)).1
end K02

end
section
/-! the heights are looked at -/
namespace K02
open PySem L2 L3
local macro_rules | `(tactic| walk_at "d") => `(tactic| first | assumption | omega | (simp only [szl, repP_length, List.length_map, List.length_append, List.length_cons, List.length_nil, List.length_range, List.length_replicate, rngP_length]; omega) | exact Eq.refl _ | (simp; done) | decide)
abbrev Hs := List (Option Int)
def hP (l : Hs) : List PV := l.map o2p
theorem hP_len {l : Hs} : (hP l).length = l.length := by simp [hP]
/-- the last one, if none is wrong -/
def scan : Option Int → Hs → Option (Option Int)
  | last, [] => some last
  | none, some _ :: _ => none
  | none, none :: t => scan none t
  | some _, none :: t => scan none t
  | some a, some b :: t => if b < a then none else scan (some b) t
theorem scan_app {l r : Hs} : ∀ {x : Option Int}, scan x (l ++ r) = (scan x l).bind fun y => scan y r := by
  induction l with
  | nil => intro x; cases x <;> rfl
  | cons h t ih =>
    intro x
    cases x with
    | none => cases h with
      | none => exact ih
      | some b => rfl
    | some a => cases h with
      | none => exact ih
      | some b =>
        show (if b < a then none else scan (some b) (t ++ r)) = (if b < a then none else scan (some b) t).bind _
        split
        · rfl
        · exact ih
def lowR : Option Int → Option Int → Bool
  | none, _ => false
  | _, none => true
  | some l, some f => false
/-- what of the rise is wrong -/
def riseBad : Option Int → Option Int → Option Int → Bool
  | none, first, _ => first.isSome
  | some _, _, none => true
  | some _, none, some _ => true
  | some r, some f, some l => decide (f + r < l)
def nth (l : Hs) (i : Nat) : Option Int := l.getD i none
theorem nth_at {l : Hs} {i : Int} (h0 : 0 ≤ i) (h : i < l.length) : atI (hP l) i = some (o2p (nth l i.toNat)) := by
  unfold hP nth
  rw [atI_map, atI_getI (d := none) h0 h]
  rfl
theorem scan_some : ∀ {l : Hs} {x : Option Int} {y : Int}, scan x l = some (some y) → (∃ a, x = some a) ∧ ∀ i < l.length, ∃ v, nth l i = some v
  | [], x, y, h => by
    cases x with
    | none => cases h
    | some a => exact ⟨⟨a, rfl⟩, fun i hi => by simp at hi⟩
  | b :: l, x, y, h => by
    cases x with
    | none => cases b with
      | none => exact absurd (scan_some (l := l) (x := none) h).1 (by simp)
      | some b => cases h
    | some a => cases b with
      | none => exact absurd (scan_some (l := l) (x := none) h).1 (by simp)
      | some b =>
        rw [scan] at h
        split at h
        · cases h
        · have ih := (scan_some (l := l) h).2
          refine ⟨⟨a, rfl⟩, fun i hi => ?_⟩
          cases i with
          | zero => exact ⟨b, rfl⟩
          | succ i => exact ih i (by simpa using hi)
def badS : PX := ⟨3, []⟩
def cEnv (h s r : PV) (x : Option Int) : L3.Env := [some (.sh h), some (.sh s), some (.sh r), some (.sh (o2p x)), none, none]
theorem check_loop {h s r : PV} : ∀ (l : Hs) (x : Option Int), (∀ y, scan x l = some y → forGo (.nm 4) [4] b_check_heights_1 (hP l) (cEnv h s r x) = .nx (cEnv h s r y)) ∧ (scan x l = none → ∃ ρ, forGo (.nm 4) [4] b_check_heights_1 (hP l) (cEnv h s r x) = .er badS ρ)
  | [], x => ⟨fun y e => by cases x <;> (cases e; rfl), fun e => by cases x <;> cases e⟩
  | a :: l, x => by
    obtain ⟨ih1, ih2⟩ := check_loop (h := h) (s := s) (r := r) l a
    have go : ∀ (c : Turn (.nm 4) [4] b_check_heights_1 (o2p a) (cEnv h s r x) (cEnv h s r a)), forGo (.nm 4) [4] b_check_heights_1 (hP (a :: l)) (cEnv h s r x) = forGo (.nm 4) [4] b_check_heights_1 (hP l) (cEnv h s r a) := fun c => c.go
    have bad : ∀ ρ, b_check_heights_1 ((cEnv h s r x).set 4 (some (.sh (o2p a)))) = .er badS ρ → ∃ ρ, forGo (.nm 4) [4] b_check_heights_1 (hP (a :: l)) (cEnv h s r x) = .er badS ρ := fun ρ e => ⟨ρ, forGo_cons_er (ρ1 := (cEnv h s r x).set 4 (some (.sh (o2p a)))) rfl e⟩
    cases x with
    | none =>
      cases a with
      | none =>
        have t : Turn (.nm 4) [4] b_check_heights_1 (o2p none) (cEnv h s r none) (cEnv h s r none) := .of (by unfold b_check_heights_1 cEnv; simp)
        rw [go t]
        exact ⟨ih1, ih2⟩
      | some b =>
        refine ⟨(fun y e => by cases e), fun _ => ?_⟩
        refine bad ((cEnv h s r none).set 4 (some (.sh (o2p (some b))))) ?_
        unfold b_check_heights_1 cEnv badS
        simp
    | some c =>
      cases a with
      | none =>
        have t : Turn (.nm 4) [4] b_check_heights_1 (o2p none) (cEnv h s r (some c)) (cEnv h s r none) := .of (by unfold b_check_heights_1 cEnv; simp)
        rw [go t]
        exact ⟨ih1, ih2⟩
      | some b =>
        by_cases hb : b < c
        · have e0 : scan (some c) (some b :: l) = none := by unfold scan; rw [if_pos hb]
          refine ⟨(fun y e => by rw [e0] at e; cases e), fun _ => ?_⟩
          refine bad ((cEnv h s r (some c)).set 4 (some (.sh (o2p (some b))))) ?_
          unfold b_check_heights_1 cEnv badS
          simp [hb]
        · have e0 : scan (some c) (some b :: l) = scan (some b) l := by rw [scan, if_neg hb]
          have t : Turn (.nm 4) [4] b_check_heights_1 (o2p (some b)) (cEnv h s r (some c)) (cEnv h s r (some b)) := .of (by unfold b_check_heights_1 cEnv; simp [hb])
          rw [go t, e0]
          exact ⟨ih1, ih2⟩
theorem check_step {l : Hs} {s : Int} {r : PV} (h : s < 1 ∨ (l.length : Int) < s) : F_check_heights [.lst (hP l), .int s, r] = .er badS := by
  rw [F_check_heights_at]
  unfold s_check_heights badS
  have e : (decide (s < 1) || decide ((l.length : Int) < s)) = true := by simpa using h
  simp [hP_len, e]
theorem check_scan {l : Hs} {s : Int} {r : PV} (h : scan (some 0) l = none) : F_check_heights [.lst (hP l), .int s, r] = .er badS := by
  by_cases c : s < 1 ∨ (l.length : Int) < s
  · exact check_step c
  · have e : (decide (s < 1) || decide ((l.length : Int) < s)) = false := by
      rw [← Bool.not_eq_true]
      simpa using c
    obtain ⟨ρ, e2⟩ := (check_loop (h := .lst (hP l)) (s := .int s) (r := r) l (some 0)).2 h
    rw [F_check_heights_at]
    unfold s_check_heights
    simp only [cEnv, o2p_some] at e2
    simp [hP_len, e, e2]
theorem check_rise {l : Hs} {s : Int} {r y : Option Int} (h1 : 1 ≤ s) (h2 : s ≤ l.length) (h : scan (some 0) l = some y) (hb : riseBad r (nth l (l.length - s.toNat)) y = true) : F_check_heights [.lst (hP l), .int s, o2p r] = .er badS := by
  have e : (decide (s < 1) || decide ((l.length : Int) < s)) = false := by
    rw [← Bool.not_eq_true]
    simp
    omega
  have e2 := (check_loop (h := .lst (hP l)) (s := .int s) (r := o2p r) l (some 0)).1 y h
  have e3 := nth_at (l := l) (i := (l.length : Int) - s) (by omega) (by omega)
  have e4 : ((l.length : Int) - s).toNat = l.length - s.toNat := by omega
  rw [e4] at e3
  rw [F_check_heights_at]
  unfold s_check_heights badS
  simp only [cEnv, o2p_some] at e2
  have hsome : ∀ v, y = some v → ∃ f', nth l (l.length - s.toNat) = some f' := fun v hv => (scan_some (by rw [← hv]; exact h)).2 _ (by omega)
  generalize nth l (l.length - s.toNat) = f at e3 hb hsome
  cases r with
  | none =>
    cases f with
    | none => cases hb
    | some f =>
      simp only [o2p_none, o2p_some] at e2 e3 ⊢
      simp [hP_len, e, e2, e3]
  | some r =>
    cases y with
    | none =>
      simp only [o2p_none, o2p_some] at e2 ⊢
      cases f <;> simp [hP_len, e, e2, e3]
    | some y =>
      obtain ⟨f', hf⟩ := hsome y rfl
      subst hf
      have hb : f' + r < y := by simpa [riseBad] using hb
      simp only [o2p_none, o2p_some] at e2 e3 ⊢
      simp [hP_len, e, e2, e3, hb]
theorem check_ok {l : Hs} {s : Int} {r y : Option Int} (h1 : 1 ≤ s) (h2 : s ≤ l.length) (h : scan (some 0) l = some y) (hb : riseBad r (nth l (l.length - s.toNat)) y = false) : F_check_heights [.lst (hP l), .int s, o2p r] = .ok (.sh .non) := by
  have e : (decide (s < 1) || decide ((l.length : Int) < s)) = false := by
    rw [← Bool.not_eq_true]
    simp
    omega
  have e2 := (check_loop (h := .lst (hP l)) (s := .int s) (r := o2p r) l (some 0)).1 y h
  have e3 := nth_at (l := l) (i := (l.length : Int) - s) (by omega) (by omega)
  have e4 : ((l.length : Int) - s).toNat = l.length - s.toNat := by omega
  rw [e4] at e3
  rw [F_check_heights_at]
  unfold s_check_heights
  simp only [cEnv, o2p_some] at e2
  have hsome : ∀ v, y = some v → ∃ f', nth l (l.length - s.toNat) = some f' := fun v hv => (scan_some (by rw [← hv]; exact h)).2 _ (by omega)
  generalize nth l (l.length - s.toNat) = f at e3 hb hsome
  cases r with
  | none =>
    cases f with
    | none =>
      simp only [o2p_none, o2p_some] at e2 e3 ⊢
      simp [hP_len, e, e2, e3]
    | some f => cases hb
  | some r =>
    cases y with
    | none => cases f <;> cases hb
    | some y =>
      obtain ⟨f', hf⟩ := hsome y rfl
      subst hf
      have hb : ¬ f' + r < y := by simpa [riseBad] using hb
      simp only [o2p_none, o2p_some] at e2 e3 ⊢
      simp [hP_len, e, e2, e3, hb]
end K02

end
section
/-! stairs that go on: their least step -/
namespace K02
open PySem L2 L3
/-- a stair as it is given: its heights, its step; r its rise -/
structure Fin (hs : List Int) (s : Nat) (r : Int) : Prop where
  s1 : 1 ≤ s
  sl : s ≤ hs.length
def st0 (hs : List Int) (s : Nat) : Nat := hs.length - s
def fv (hs : List Int) (s : Nat) (r : Int) (x : Nat) : Int := if x < hs.length then el hs x else el hs (st0 hs s + (x - st0 hs s) % s) + ((x - st0 hs s) / s : Nat) * r
section
variable {hs : List Int} {s : Nat} {r : Int} (F : Fin hs s r)
include F in
theorem fv_tail (d : Nat) : fv hs s r (st0 hs s + d) = el hs (st0 hs s + d % s) + (d / s : Nat) * r := by
  unfold fv
  have h1 := F.s1
  have h2 := F.sl
  rw [Nat.add_sub_cancel_left]
  split
  · rename_i h
    have : d < s := by unfold st0 at h; omega
    rw [Nat.mod_eq_of_lt this, Nat.div_eq_of_lt this]
    simp
  · rfl
theorem fv_lt {x : Nat} (h : x < hs.length) : fv hs s r x = el hs x := if_pos h
include F in
theorem fv_step (d : Nat) : fv hs s r (st0 hs s + d + s) = fv hs s r (st0 hs s + d) + r := by
  rw [Nat.add_assoc, fv_tail F, fv_tail F, Nat.add_mod_right, Nat.add_div_right _ F.s1]
  have : ((d / s + 1 : Nat) : Int) * r = (d / s : Nat) * r + r := by
    rw [Int.natCast_add, Int.add_mul]
    simp
  rw [this]
  omega
include F in
theorem fv_steps (d : Nat) : ∀ b : Nat, fv hs s r (st0 hs s + d + s * b) = fv hs s r (st0 hs s + d) + b * r
  | 0 => by simp
  | b + 1 => by
    have : st0 hs s + d + s * (b + 1) = st0 hs s + (d + s * b) + s := by rw [Nat.mul_add]; omega
    rw [this, fv_step F, ← Nat.add_assoc, fv_steps d b]
    have : ((b + 1 : Nat) : Int) * r = b * r + r := by
      rw [Int.natCast_add, Int.add_mul]
      simp
    rw [this]
    omega
/-- p is a step too, with the rise u -/
structure Per (hs : List Int) (s : Nat) (r : Int) (p : Nat) (u : Int) : Prop where
  p1 : 1 ≤ p
  e : (s : Int) * u = r * p
  f : ∀ d, fv hs s r (st0 hs s + d + p) = fv hs s r (st0 hs s + d) + u
include F in
theorem Per.self : Per hs s r s r := ⟨F.s1, Int.mul_comm _ _, fun d => fv_step F d⟩
theorem Per.sub {a b : Nat} {u v : Int} (A : Per hs s r a u) (B : Per hs s r b v) (h : b < a) : Per hs s r (a - b) (u - v) := by
  refine ⟨by omega, ?_, fun d => ?_⟩
  · have h1 := A.e
    have h2 := B.e
    rw [Int.mul_sub, h1, h2, ← Int.mul_sub]
    congr 1
    omega
  · have h1 := A.f d
    have h2 := B.f (d + (a - b))
    have : st0 hs s + (d + (a - b)) + b = st0 hs s + d + a := by omega
    rw [this, h1, ← Nat.add_assoc] at h2
    omega
theorem Per.one {p : Nat} {u v : Int} (hs1 : 1 ≤ s) (A : Per hs s r p u) (B : Per hs s r p v) : u = v := by
  have h : (s : Int) * u = s * v := by rw [A.e, B.e]
  exact Int.eq_of_mul_eq_mul_left (by omega) h
/-- the least one -/
structure Least (hs : List Int) (s : Nat) (r : Int) (p : Nat) (u : Int) : Prop where
  per : Per hs s r p u
  le : p ≤ s
  no : ∀ q v, q < p → ¬ Per hs s r q v
  dv : p ∣ s
include F in
theorem least_ex : ∃ p u, Least hs s r p u := by
  have key : ∀ n u, Per hs s r n u → n ≤ s → ∃ p u, Per hs s r p u ∧ p ≤ s ∧ ∀ q v, q < p → ¬ Per hs s r q v := by
    intro n
    induction n using Nat.strongRecOn with
    | ind n ih =>
      intro u A hn
      by_cases c : ∃ q v, q < n ∧ Per hs s r q v
      · obtain ⟨q, v, h1, h2⟩ := c
        exact ih q h1 v h2 (by omega)
      · exact ⟨n, u, A, hn, fun q v h1 h2 => c ⟨q, v, h1, h2⟩⟩
  obtain ⟨p, u, A, hp, no⟩ := key s r (Per.self F) (Nat.le_refl _)
  refine ⟨p, u, A, hp, no, ?_⟩
  have dv : ∀ n v, Per hs s r n v → p ∣ n := by
    intro n
    induction n using Nat.strongRecOn with
    | ind n ih =>
      intro v B
      by_cases c1 : n < p
      · exact absurd B (no n v c1)
      · by_cases c2 : n = p
        · exact c2 ▸ Nat.dvd_refl _
        · have := ih (n - p) (by have := A.p1; omega) _ (B.sub A (by omega))
          have h := Nat.dvd_add this (Nat.dvd_refl p)
          rwa [Nat.sub_add_cancel (by omega)] at h
  exact dv s r (Per.self F)
include F in
/-- looked at in one step's heights -/
theorem per_of_full {q : Nat} {v : Int} (hq : 1 ≤ q) (e : (s : Int) * v = r * q) (h : ∀ d < s, fv hs s r (st0 hs s + d + q) = fv hs s r (st0 hs s + d) + v) : Per hs s r q v := by
  refine ⟨hq, e, fun d => ?_⟩
  have hm := Nat.mod_lt d F.s1
  have hd : d = d % s + s * (d / s) := (Nat.mod_add_div d s).symm
  have h1 := h (d % s) hm
  have h2 := fv_steps F (d % s) (d / s)
  have h3 := fv_steps F (d % s + q) (d / s)
  have e1 : st0 hs s + d = st0 hs s + d % s + s * (d / s) := by omega
  have e2 : st0 hs s + d + q = st0 hs s + (d % s + q) + s * (d / s) := by omega
  rw [e2, h3, e1, h2, ← Nat.add_assoc, h1]
  omega
include F in
theorem per_of_window {q : Nat} {v : Int} (hq : 1 ≤ q) (hd : q ∣ s) (e : (s : Int) * v = r * q) (h : ∀ d, d + q < s → el hs (st0 hs s + d + q) = el hs (st0 hs s + d) + v) : Per hs s r q v := by
  obtain ⟨m, hm⟩ := hd
  have hl := F.sl
  have low : ∀ d < s, fv hs s r (st0 hs s + d) = el hs (st0 hs s + d) := fun d hd => fv_lt (by unfold st0; omega)
  have hm0 : 1 ≤ m := by
    cases m with
    | zero => have := F.s1; simp at hm; omega
    | succ m => omega
  have hmv : (m : Int) * v = r := by
    have h1 : (q : Int) * (m * v) = q * r := by
      rw [← Int.mul_assoc, ← Int.natCast_mul, ← hm, e, Int.mul_comm]
    exact Int.eq_of_mul_eq_mul_left (by omega) h1
  refine per_of_full F hq e fun d hds => ?_
  by_cases c : d + q < s
  · rw [low d hds, Nat.add_assoc, low (d + q) c, ← Nat.add_assoc, h d c]
  · have ee : ∃ e0, d + q = e0 + s ∧ e0 < q := ⟨d + q - s, by omega, by omega⟩
    obtain ⟨e0, h1, h2⟩ := ee
    have chain : ∀ j : Nat, j < m → fv hs s r (st0 hs s + (e0 + j * q)) = fv hs s r (st0 hs s + e0) + j * v := by
      intro j
      induction j with
      | zero => intro _; simp
      | succ j ih =>
        intro hj
        have ih := ih (by omega)
        have lt : e0 + (j + 1) * q < s := by
          have : (j + 1) * q + q ≤ m * q := by rw [← Nat.succ_mul]; exact Nat.mul_le_mul_right _ (by omega)
          rw [hm, Nat.mul_comm q m]
          omega
        have lt2 : e0 + j * q + q < s := by rw [Nat.add_mul] at lt; omega
        rw [low _ (by omega)] at ih
        rw [low _ lt]
        have e3 : e0 + (j + 1) * q = e0 + j * q + q := by rw [Nat.add_mul]; omega
        rw [e3, ← Nat.add_assoc, h _ lt2, ih]
        have : ((j + 1 : Nat) : Int) * v = j * v + v := by
          rw [Int.natCast_add, Int.add_mul]
          simp
        rw [this]
        omega
    have hd2 : d = e0 + (m - 1) * q := by
      have : (m - 1) * q + q = m * q := by rw [← Nat.succ_mul]; congr 1; omega
      rw [hm, Nat.mul_comm q m] at h1
      omega
    have h3 := chain (m - 1) (by omega)
    rw [← hd2] at h3
    have h4 := fv_step F e0
    have e5 : st0 hs s + d + q = st0 hs s + e0 + s := by omega
    rw [e5, h4, h3]
    have : ((m - 1 : Nat) : Int) * v + v = r := by
      rw [← hmv]
      have : ((m - 1 : Nat) : Int) = (m : Int) - 1 := by omega
      rw [this, Int.sub_mul]
      omega
    omega
/-! the start -/
def down (g : Nat → Bool) : Nat → Nat
  | 0 => 0
  | n + 1 => if g n = true then down g n else n + 1
theorem down_le (g : Nat → Bool) : ∀ n, down g n ≤ n
  | 0 => Nat.le_refl _
  | n + 1 => by
    rw [down]
    split
    · have := down_le g n; omega
    · exact Nat.le_refl _
theorem down_all (g : Nat → Bool) : ∀ n y, down g n ≤ y → y < n → g y = true
  | 0, y, _, h => by omega
  | n + 1, y, h1, h2 => by
    rw [down] at h1
    split at h1
    · rename_i c
      by_cases e : y = n
      · rw [e]; exact c
      · exact down_all g n y h1 (by omega)
    · omega
theorem down_skip (g : Nat → Bool) {m : Nat} : ∀ n, m ≤ n → (∀ y, m ≤ y → y < n → g y = true) → down g n = down g m
  | n, h, k => by
    by_cases e : m = n
    · rw [e]
    · obtain ⟨j, rfl⟩ : ∃ j, n = j + 1 := ⟨n - 1, by omega⟩
      rw [down, if_pos (k j (by omega) (by omega))]
      exact down_skip g j (by omega) fun y h1 h2 => k y h1 (by omega)
theorem down_congr {g g' : Nat → Bool} : ∀ n, (∀ y < n, g y = g' y) → down g n = down g' n
  | 0, _ => rfl
  | n + 1, h => by rw [down, down, h n (Nat.lt_succ_self _), down_congr n fun y hy => h y (Nat.lt_succ_of_lt hy)]
/-- from the start on the least step goes on -/
theorem stp_at {p : Nat} {u : Int} (A : Per hs s r p u) (hp : p ≤ s) (F : Fin hs s r) {y : Nat} (h : down (fun y => decide (el hs y + u = el hs (y + p))) (st0 hs s) ≤ y) : fv hs s r (y + p) = fv hs s r y + u := by
  have hl := F.sl
  by_cases c : y < st0 hs s
  · have := down_all _ _ _ h c
    simp only [decide_eq_true_eq] at this
    have h1 : y + p < hs.length := by unfold st0 at c; omega
    rw [fv_lt h1, fv_lt (by omega), this]
  · have := A.f (y - st0 hs s)
    rw [show st0 hs s + (y - st0 hs s) = y by omega] at this
    exact this
theorem stps_at {p : Nat} {u : Int} (A : Per hs s r p u) (hp : p ≤ s) (F : Fin hs s r) {y : Nat} (h : down (fun y => decide (el hs y + u = el hs (y + p))) (st0 hs s) ≤ y) : ∀ t : Nat, fv hs s r (y + t * p) = fv hs s r y + t * u
  | 0 => by simp
  | t + 1 => by
    have ih := stps_at A hp F h t
    have : y + (t + 1) * p = (y + t * p) + p := by rw [Nat.add_mul]; omega
    rw [this, stp_at A hp F (Nat.le_trans h (Nat.le_add_right _ _)), ih]
    have : ((t + 1 : Nat) : Int) * u = t * u + u := by
      rw [Int.natCast_add, Int.add_mul]
      simp
    rw [this]
    omega
end
end K02

end
section
/-! the normal form -/
namespace K02
open PySem L2 L3
local macro_rules | `(tactic| walk_at "d") => `(tactic| first | assumption | omega | (simp only [szl, repP_length, List.length_map, List.length_append, List.length_cons, List.length_nil, List.length_range, List.length_replicate, rngP_length]; omega) | exact Eq.refl _ | (simp; done) | decide)
theorem hP_some {hs : List Int} : hP (hs.map some) = hs.map .int := by unfold hP; rw [List.map_map]; rfl
theorem rngP_add {lo : Int} {a b : Nat} : rngP lo (a + b) = rngP lo a ++ rngP (lo + a) b := by
  unfold rngP
  rw [List.range_add, List.map_append, List.map_map]
  congr 1
  refine List.map_congr_left fun x _ => ?_
  show PV.int _ = PV.int _
  congr 1
  rw [Int.natCast_add]
  omega
theorem rngP_succ {lo : Int} {b : Nat} : rngP lo (b + 1) = .int lo :: rngP (lo + 1) b := by
  rw [Nat.add_comm, rngP_add]
  simp [rngP]
theorem forGo_pre {T : Tg} {fg : List Nat} {fb : L3.Env → RS} {ρ : L3.Env} {rest : List PV} : ∀ l : List PV, (∀ p ∈ l, Turn T fg fb p ρ ρ) → forGo T fg fb (l ++ rest) ρ = forGo T fg fb rest ρ
  | [], _ => rfl
  | p :: l, h => by
    rw [List.cons_append, (h p List.mem_cons_self).go]
    exact forGo_pre l fun q hq => h q (List.mem_cons_of_mem _ hq)
theorem rngP_mem {lo : Int} {n : Nat} {p : PV} (h : p ∈ rngP lo n) : ∃ k : Nat, k < n ∧ p = .int (lo + k) := by
  unfold rngP at h
  obtain ⟨k, hk, rfl⟩ := List.mem_map.mp h
  exact ⟨k, by simpa using hk, rfl⟩
section
variable {hs : List Int} {s : Nat} {r : Int} (F : Fin hs s r) (hb : hs.length < 100000)
def lsEnv (hs : List Int) (s : Nat) (r : Int) : L3.Env := [some (.sh (.lst (hs.map .int))), some (.sh (.int s)), some (.sh (.int r)), some (.sh (.int (st0 hs s))), none, none, none]
def win (hs : List Int) (s q : Nat) (v : Int) : Bool := (List.range (s - q)).all fun d => decide (el hs (st0 hs s + d + q) = el hs (st0 hs s + d) + v)
include F hb in
theorem ls_win {q : Nat} {v : Int} (h1 : 1 ≤ q) (h2 : q < s) : (eTst (eB bAll (aCons (eFz (fLc (.nm 6) [6] (iRg rng2R (aCons (eVar 3) (aCons (eBin pySub (eBin pyAdd (eVar 3) (eVar 1)) (eVar 4)) aNil))) tYesB c_least_step_1)) aNil))) [some (.sh (.lst (hs.map .int))), some (.sh (.int s)), some (.sh (.int r)), some (.sh (.int (st0 hs s))), some (.sh (.int q)), some (.sh (.int v)), none] = .ok (win hs s q v) := by
  have hl := F.sl
  have hst : st0 hs s + s = hs.length := by unfold st0; omega
  have lc : fLc (.nm 6) [6] (iRg rng2R (aCons (eVar 3) (aCons (eBin pySub (eBin pyAdd (eVar 3) (eVar 1)) (eVar 4)) aNil))) tYesB c_least_step_1 [some (.sh (.lst (hs.map .int))), some (.sh (.int s)), some (.sh (.int r)), some (.sh (.int (st0 hs s))), some (.sh (.int q)), some (.sh (.int v)), none] = .ok (.own ((List.range (s - q)).map fun d => .sh (.bl (decide (el hs (st0 hs s + d + q) = el hs (st0 hs s + d) + v))))) := by
    refine fLc_at (ps := rngP (st0 hs s) (s - q)) ?_ (by simp [szl]; omega) ?_
    · have e : ((st0 hs s : Int) + s - q - st0 hs s).toNat = s - q := by omega
      simp (disch := walk_at "d") [e]
    · rw [rngP_eq]
      refine lcGo_map (f := fun (k : Nat) => PV.int ((st0 hs s : Int) + (k : Int))) _ fun d hd => ?_
      have hd : d < s - q := by simpa using hd
      have e1 := el_atI (l := hs) (i := (st0 hs s : Int) + d + q) (by omega) (by omega)
      have e2 := el_atI (l := hs) (i := (st0 hs s : Int) + d) (by omega) (by omega)
      rw [show ((st0 hs s : Int) + d + q).toNat = st0 hs s + d + q by omega] at e1
      rw [show ((st0 hs s : Int) + d).toNat = st0 hs s + d by omega] at e2
      unfold c_least_step_1
      simp [e1, e2]
  simp [lc, bAll, toBls_map, win, Function.comp_def]
include F hb in
theorem ls_turn {q : Nat} (h1 : 1 ≤ q) (h2 : q < s) (hno : ¬ ∃ v, q ∣ s ∧ Per hs s r q v) : Turn (.nm 4) [4, 5] b_least_step_1 (.int q) (lsEnv hs s r) (lsEnv hs s r) := by
  have hl := F.sl
  refine .of ?_
  unfold b_least_step_1 lsEnv
  by_cases c : (s : Int) % q = 0 ∧ r * q % s = 0
  · obtain ⟨c1, c2⟩ := c
    have w := ls_win F hb (q := q) (v := r * q / s) h1 h2
    have e : (s : Int) * (r * q / s) = r * q := Int.mul_ediv_cancel' (Int.dvd_of_emod_eq_zero c2)
    have dv : q ∣ s := by
      have := Int.dvd_of_emod_eq_zero c1
      exact Int.natCast_dvd_natCast.mp this
    have wf : win hs s q (r * q / s) = false := by
      rw [← Bool.not_eq_true]
      intro z
      refine hno ⟨r * q / s, dv, per_of_window F h1 dv e fun d hd => ?_⟩
      have := List.all_eq_true.mp z d (by simp; omega)
      simpa using this
    rw [wf] at w
    simp (disch := walk_at "d") [c1, c2, ↓w]
  · have c' : (decide ((s : Int) % q = 0) && decide (r * q % s = 0)) = false := by
      rw [← Bool.not_eq_true]
      simpa using c
    simp (disch := walk_at "d") [c']
include F hb in
theorem ls_hit {q : Nat} {v : Int} (h2 : q < s) (P : Per hs s r q v) (dv : q ∣ s) : ∃ ρ1, tgS (.nm 4) (.int q) (lsEnv hs s r) = .ok ρ1 ∧ b_least_step_1 ρ1 = .rt (.sh (.int q)) := by
  have hl := F.sl
  have h1 := P.p1
  refine ⟨_, rfl, ?_⟩
  have c1 : (s : Int) % q = 0 := Int.emod_eq_zero_of_dvd (Int.natCast_dvd_natCast.mpr dv)
  have c2 : r * q % s = 0 := by rw [← P.e]; exact Int.mul_emod_right _ _
  have c3 : r * q / s = v := by
    rw [← P.e]
    exact Int.mul_ediv_cancel_left _ (by omega)
  have w := ls_win F hb (q := q) (v := v) h1 h2
  have wt : win hs s q v = true := by
    refine List.all_eq_true.mpr fun d hd => ?_
    have hd : d < s - q := by simpa using hd
    have := P.f d
    rw [fv_lt (by unfold st0; omega), fv_lt (by unfold st0; omega)] at this
    simpa using this
  rw [wt] at w
  unfold b_least_step_1 lsEnv
  simp (disch := walk_at "d") [c1, c2, c3, ↓w]
include F hb in
theorem least_step_ok {p : Nat} {u : Int} (L : Least hs s r p u) : F_least_step [.lst (hs.map .int), .int s, .int r] = .ok (.sh (.int p)) := by
  have hl := F.sl
  have hs1 := F.s1
  have p1 := L.per.p1
  have loop : forGo (.nm 4) [4, 5] b_least_step_1 (rngP 1 (s - 1)) (lsEnv hs s r) = if p < s then .rt (.sh (.int p)) else .nx (lsEnv hs s r) := by
    by_cases c : p < s
    · rw [if_pos c]
      have e : s - 1 = (p - 1) + ((s - 1 - p) + 1) := by omega
      rw [e, rngP_add, rngP_succ]
      rw [forGo_pre]
      · have e2 : (1 : Int) + (p - 1 : Nat) = (p : Int) := by omega
        rw [e2]
        obtain ⟨ρ1, a, b⟩ := ls_hit F hb c L.per L.dv
        exact forGo_cons_rt a b
      · intro q hq
        obtain ⟨k, hk, rfl⟩ := rngP_mem hq
        have : (1 : Int) + k = ((k + 1 : Nat) : Int) := by omega
        rw [this]
        exact ls_turn F hb (by omega) (by omega) fun ⟨v, _, P⟩ => L.no _ v (by omega) P
    · rw [if_neg c]
      have hps : p = s := by have := L.le; omega
      have := forGo_pre (T := .nm 4) (fg := [4, 5]) (fb := b_least_step_1) (ρ := lsEnv hs s r) (rest := []) (rngP 1 (s - 1)) fun q hq => by
        obtain ⟨k, hk, rfl⟩ := rngP_mem hq
        have : (1 : Int) + k = ((k + 1 : Nat) : Int) := by omega
        rw [this]
        exact ls_turn F hb (by omega) (by omega) fun ⟨v, _, P⟩ => L.no _ v (by omega) P
      rw [List.append_nil] at this
      rw [this]
      rfl
  rw [F_least_step_at]
  unfold s_least_step
  have e0 : ((hs.length : Int) - s) = (st0 hs s : Int) := by unfold st0; omega
  have e1 : ((s : Int) - 1).toNat = s - 1 := by omega
  simp only [lsEnv] at loop
  by_cases c : p < s
  · rw [if_pos c] at loop
    simp (disch := walk_at "d") [e0, e1, loop]
  · rw [if_neg c] at loop
    have hps : p = s := by have := L.le; omega
    simp (disch := walk_at "d") [e0, e1, loop, hps]
def nfG (hs : List Int) (p : Nat) (u : Int) : Nat → Bool := fun y => decide (el hs y + u = el hs (y + p))
/-- the start in normal form -/
def stN (hs : List Int) (s p : Nat) (u : Int) : Nat := down (nfG hs p u) (st0 hs s)
theorem stN_le {p : Nat} {u : Int} : stN hs s p u ≤ st0 hs s := down_le _ _
include F hb in
theorem nf_while {p : Nat} {u : Int} (hp : p ≤ s) (p1 : 1 ≤ p) : ∀ (n k : Nat), n ≤ st0 hs s → n < k → whGo [] (bAnd (eTst (eBin pyGt (eVar 5) (eCst (.int 0)))) (eTst (eBin pyEq (eBin pyAdd (eIdx (eVar 0) (eBin pySub (eVar 5) (eCst (.int 1)))) (eVar 4)) (eIdx (eVar 0) (eBin pyAdd (eBin pySub (eVar 5) (eCst (.int 1))) (eVar 3)))))) b_normal_form_1 k
    [some (.sh (.lst (hs.map .int))), some (.sh (.int s)), some (.sh (.int r)), some (.sh (.int p)), some (.sh (.int u)), some (.sh (.int n))] = .nx [some (.sh (.lst (hs.map .int))), some (.sh (.int s)), some (.sh (.int r)), some (.sh (.int p)), some (.sh (.int u)), some (.sh (.int (down (nfG hs p u) n)))] := by
  intro n
  have hl := F.sl
  induction n with
  | zero =>
    intro k _ hk
    obtain ⟨k, rfl⟩ : ∃ j, k = j + 1 := ⟨k - 1, by omega⟩
    rw [whGo_false]
    · rfl
    · simp
  | succ n ih =>
    intro k h hk
    obtain ⟨k, rfl⟩ : ∃ j, k = j + 1 := ⟨k - 1, by omega⟩
    have hst : st0 hs s + s = hs.length := by unfold st0; omega
    have e1 := el_at (l := hs) (i := n) (by omega)
    have e2 := el_at (l := hs) (i := n + p) (by omega)
    have e3 : ((n + 1 : Nat) : Int) - 1 = (n : Int) := by omega
    have e4 : (n : Int) + (p : Int) = ((n + p : Nat) : Int) := by omega
    have e5 : (0 : Int) < ((n + 1 : Nat) : Int) := by omega
    rw [down]
    cases c : nfG hs p u n with
    | true =>
      have c' : el hs n + u = el hs (n + p) := by simpa [nfG] using c
      rw [whGo_true (ρ2 := [some (.sh (.lst (hs.map .int))), some (.sh (.int s)), some (.sh (.int r)), some (.sh (.int p)), some (.sh (.int u)), some (.sh (.int n))])]
      · exact ih k (by omega) (by omega)
      · simp only [bAnd_at, eTst_at, eBin_at, eVar_zero, eVar_succ, eCst_at, bin2_ok, gt_int, tst_bl, eIdx_at, sub_int, idx_lst, e3, atI_map, e1, Option.map_some, R.of_some, add_int, e4, e2, eq_int, andR_ok, e5, c', decide_true, Bool.and_self]
      · unfold b_normal_form_1
        simp only [sAugI_at, eVar_zero, eVar_succ, eCst_at, augG_ok, List.set_cons_zero, List.set_cons_succ, e3]
    | false =>
      have c' : ¬ el hs n + u = el hs (n + p) := by simpa [nfG] using c
      rw [whGo_false]
      · rfl
      · simp only [bAnd_at, eTst_at, eBin_at, eVar_zero, eVar_succ, eCst_at, bin2_ok, gt_int, tst_bl, eIdx_at, sub_int, idx_lst, e3, atI_map, e1, Option.map_some, R.of_some, add_int, e4, e2, eq_int, andR_ok, e5, c', decide_true, decide_false, Bool.and_false]
include F hb in
theorem normal_ok {p : Nat} {u : Int} (L : Least hs s r p u) (h2 : hs.length < 1900) : F_normal_form [.lst (hs.map .int), .int s, .int r] = .ok (.sh (.tup [.lst ((hs.take (stN hs s p u + p)).map .int), .int p, .int u])) := by
  have hl := F.sl
  have hs1 := F.s1
  have p1 := L.per.p1
  have pl := L.le
  have h1 := least_step_ok F hb L
  have c3 : r * p / s = u := by
    rw [← L.per.e]
    exact Int.mul_ediv_cancel_left _ (by omega)
  have e0 : ((hs.length : Int) - s) = (st0 hs s : Int) := by unfold st0; omega
  have w := nf_while F hb (u := u) pl p1 (st0 hs s) 2000 (Nat.le_refl _) (by unfold st0; omega)
  have e6 : ((stN hs s p u : Int) + p).toNat = stN hs s p u + p := by omega
  rw [F_normal_form_at]
  unfold s_normal_form
  have w' : down (nfG hs p u) (st0 hs s) = stN hs s p u := rfl
  rw [w'] at w
  simp (disch := walk_at "d") [h1, c3, e0, fuel_normal_form, w, e6]
end
theorem nf_none {hs : List Int} {t : Hs} {S : PV} : F_normal_form [.lst (hP (hs.map some ++ none :: t)), S, .non] = .ok (.sh (.tup [.lst (hP (hs.map some ++ [none])), .int 1, .non])) := by
  have flat : (hP (hs.map some ++ none :: t)).all flatP = true := by
    unfold hP
    rw [List.all_map]
    refine List.all_eq_true.mpr fun x _ => ?_
    cases x <;> rfl
  have idx : ixG (.lst (hP (hs.map some ++ none :: t))) [.non] = .ok (.int hs.length) := by
    show (if flatP .non = true ∧ (hP (hs.map some ++ none :: t)).all flatP = true then R.of ((((hP (hs.map some ++ none :: t)).map toV).findIdx? fun z => eqV z (toV .non)).map fun j => PV.int (j : Nat)) else R.no) = _
    rw [if_pos ⟨rfl, flat⟩]
    have : ((hP (hs.map some ++ none :: t)).map toV).findIdx? (fun z => eqV z (toV .non)) = some hs.length := by
      clear flat
      unfold hP
      induction hs with
      | nil => rfl
      | cons a hs ih =>
        rw [List.map_cons, List.cons_append, List.map_cons, List.map_cons, List.findIdx?_cons]
        have : eqV (toV (o2p (some a))) (toV .non) = false := rfl
        rw [this, ih]
        rfl
    rw [this]
    rfl
  have tk : (hP (hs.map some ++ none :: t)).take (hs.length + 1) = hP (hs.map some ++ [none]) := by
    unfold hP
    rw [← List.map_take]
    congr 1
    have : hs.map some ++ none :: t = (hs.map some ++ [none]) ++ t := by simp
    rw [this, List.take_append_of_le_length (by simp), List.take_of_length_le (by simp)]
  have e6 : ((hs.length : Int) + 1).toNat = hs.length + 1 := by omega
  rw [F_normal_form_at]
  unfold s_normal_form
  simp (disch := walk_at "d") [idx, e6, tk]
end K02

end
section
/-! a stair is made; its values -/
namespace K02
open PySem L2 L3
local macro_rules | `(tactic| walk_at "d") => `(tactic| first | assumption | omega | (simp only [szl, repP_length, List.length_map, List.length_append, List.length_cons, List.length_nil, List.length_range, List.length_replicate, rngP_length]; omega) | exact Eq.refl _ | (simp; done) | decide)
/-- a stair: its heights, start, step, rise -/
def stO (l : List PV) (b : Int) (p : Int) (u : Option Int) : List (Str × OV) := [("heights", .sh (.tup l)), ("start", .sh (.int b)), ("step", .sh (.int p)), ("rise", .sh (o2p u))]
def stF (l : List PV) (b : Int) (p : Int) (u : Option Int) : List (Str × PV) := [("heights", .tup l), ("start", .int b), ("step", .int p), ("rise", o2p u)]
def stP (l : List PV) (b : Int) (p : Int) (u : Option Int) : PV := .ins 4 (stF l b p u)
section
variable {l : List PV} {b p : Int} {u : Option Int}
theorem pvf_st : OV.pvf (stO l b p u) = stF l b p u := by simp [stO, stF]
@[simp] theorem lk_heights : List.lookup ("heights" : Str) (stF l b p u) = some (.tup l) := nr (by kernel_rfl)
@[simp] theorem lk_start : List.lookup ("start" : Str) (stF l b p u) = some (.int b) := nr (by kernel_rfl)
@[simp] theorem lk_step : List.lookup ("step" : Str) (stF l b p u) = some (.int p) := nr (by kernel_rfl)
@[simp] theorem lk_rise : List.lookup ("rise" : Str) (stF l b p u) = some (o2p u) := nr (by kernel_rfl)
@[simp] theorem lk_at : List.lookup ("at" : Str) (stF l b p u) = none := nr (by kernel_rfl)
@[simp] theorem lk_pace : List.lookup ("pace" : Str) (stF l b p u) = none := nr (by kernel_rfl)
@[simp] theorem f_heights : fldR "heights" ok_heights (.ok (stP l b p u)) = .ok (.tup l) := by unfold stP; simp
@[simp] theorem f_start : fldR "start" ok_start (.ok (stP l b p u)) = .ok (.int b) := by unfold stP; simp
@[simp] theorem f_step : fldR "step" ok_step (.ok (stP l b p u)) = .ok (.int p) := by unfold stP; simp
@[simp] theorem f_rise : fldR "rise" ok_rise (.ok (stP l b p u)) = .ok (o2p u) := by unfold stP; simp
def manyP : PX := ⟨2, [("limit", .int 600)]⟩
theorem o2p_n {x : PV} (h : x = .non ∨ ∃ i, x = .int i) : ∃ o, x = o2p o := by
  rcases h with rfl | ⟨i, rfl⟩
  · exact ⟨none, rfl⟩
  · exact ⟨some i, rfl⟩
theorem init_bad {l : Hs} {s r : PV} (h : F_check_heights [.lst (hP l), s, r] = .er badS) : F_Stair_init [.lst (hP l), s, r] = .er badS := by
  rw [F_Stair_init_at]
  unfold s_Stair_init badS
  simp only [badS] at h
  simp [h]
theorem init_go {l : Hs} {s r : PV} {t : List PV} (h : F_check_heights [.lst (hP l), s, r] = .ok (.sh .non)) (h2 : F_normal_form [.lst (hP l), s, r] = .ok (.sh (.tup [.lst t, .int p, o2p u]))) (ht : t.length ≤ 600) : F_Stair_init [.lst (hP l), s, r] = .ok (stO t (t.length - p) p u) := by
  have e : ¬ (600 : Int) < t.length := by omega
  rw [F_Stair_init_at]
  unfold s_Stair_init
  simp (disch := walk_at "d") [h, h2, e]
  rfl
theorem init_many {l : Hs} {s r : PV} {t : List PV} (h : F_check_heights [.lst (hP l), s, r] = .ok (.sh .non)) (h2 : F_normal_form [.lst (hP l), s, r] = .ok (.sh (.tup [.lst t, .int p, o2p u]))) (ht : 600 < t.length) : F_Stair_init [.lst (hP l), s, r] = .er manyP := by
  have e : (600 : Int) < t.length := by omega
  rw [F_Stair_init_at]
  unfold s_Stair_init manyP
  simp (disch := walk_at "d") [h, h2, e]
def badA (a : Int) : PX := ⟨1, [("amount", .int a)]⟩
theorem at_neg {a : Int} (h : a < 0) : F_Stair_at [stP l b p u, .int a] = .er (badA a) := by
  rw [F_Stair_at_at]
  unfold s_Stair_at badA
  simp [h]
theorem at_in {a : Int} {x : PV} (h0 : 0 ≤ a) (h1 : a < l.length) (hx : atI l a = some x) : F_Stair_at [stP l b p u, .int a] = .ok (.sh x) := by
  have e : ¬ a < 0 := by omega
  rw [F_Stair_at_at]
  unfold s_Stair_at
  simp [e, h1, hx]
theorem at_none {a : Int} (h0 : 0 ≤ a) (h1 : (l.length : Int) ≤ a) : F_Stair_at [stP l b p none, .int a] = .ok (.sh .non) := by
  have e : ¬ a < 0 := by omega
  have e1 : ¬ a < l.length := by omega
  rw [F_Stair_at_at]
  unfold s_Stair_at
  simp [e, e1]
theorem at_far {a v x : Int} (h0 : 0 ≤ a) (h1 : (l.length : Int) ≤ a) (hp : 0 < p) (hp2 : p < 1000000) (hb : ((a - b) / p).natAbs < 2 ^ 1000) (hv : v.natAbs < 2 ^ 1000) (hx : atI l (a - (a - b) / p * p) = some (.int x)) : F_Stair_at [stP l b p (some v), .int a] = .ok (.sh (.int (x + (a - b) / p * v))) := by
  have e : ¬ a < 0 := by omega
  have e1 : ¬ a < l.length := by omega
  have m := mul_big hb hv
  rw [F_Stair_at_at]
  unfold s_Stair_at
  simp (disch := walk_at "d") [e, e1, hx, m]
/-! the law's own values -/
theorem value_in {l : Hs} {s x : Int} {r : PV} (h0 : 0 ≤ x) (h : x < l.length) : F_p_law_value [.lst (hP l), .int s, r, .int x] = .ok (.sh (o2p (nth l x.toNat))) := by
  have e := nth_at (l := l) (i := x) h0 h
  rw [F_p_law_value_at]
  unfold s_p_law_value
  simp [hP_len, h, e]
theorem value_none {l : Hs} {s x : Int} (h : (l.length : Int) ≤ x) : F_p_law_value [.lst (hP l), .int s, .non, .int x] = .ok (.sh .non) := by
  have h' : ¬ x < l.length := by omega
  rw [F_p_law_value_at]
  unfold s_p_law_value
  simp [hP_len, h']
theorem value_ok {hs : List Int} {s : Nat} {r : Int} (F : Fin hs s r) {x : Nat} (hx : x < 2 ^ 900) (hl : hs.length < 100000) (hr : r.natAbs < 2 ^ 1000) : F_p_law_value [.lst (hs.map .int), .int s, .int r, .int x] = .ok (.sh (.int (fv hs s r x))) := by
  have hs1 := F.s1
  have hsl := F.sl
  by_cases h : x < hs.length
  · have := value_in (l := hs.map some) (s := s) (x := x) (r := .int r) (by omega) (by simp; omega)
    rw [hP_some] at this
    rw [this, fv_lt h]
    unfold nth el
    simp [List.getD_eq_getElem?_getD, h]
  · have hm := Nat.mod_lt (x - st0 hs s) hs1
    have hst : st0 hs s + s = hs.length := by unfold st0; omega
    have e := el_at (l := hs) (i := st0 hs s + (x - st0 hs s) % s) (by omega)
    have e0 : ((hs.length : Int) - s) = (st0 hs s : Int) := by omega
    have e1 : (x : Int) - (st0 hs s : Int) = ((x - st0 hs s : Nat) : Int) := by omega
    have e2 : (st0 hs s : Int) + ((x - st0 hs s : Nat) : Int) % (s : Int) = ((st0 hs s + (x - st0 hs s) % s : Nat) : Int) := by
      rw [Int.natCast_add, Int.natCast_emod]
    have e3 : ((x - st0 hs s : Nat) : Int) / (s : Int) = (((x - st0 hs s) / s : Nat) : Int) := by rw [Int.natCast_ediv]
    have h' : ¬ (x : Int) < hs.length := by omega
    have hq : (((x - st0 hs s) / s : Nat) : Int).natAbs < 2 ^ 1000 := by
      have : (x - st0 hs s) / s ≤ x := Nat.le_trans (Nat.div_le_self _ _) (Nat.sub_le _ _)
      have : (((x - st0 hs s) / s : Nat) : Int).natAbs = (x - st0 hs s) / s := Int.natAbs_natCast _
      omega
    have m := mul_big hq hr
    unfold fv
    rw [if_neg h, F_p_law_value_at]
    unfold s_p_law_value
    simp (disch := walk_at "d") only [sSeq_at, sIf_at, eTst_at, eBin_at, eVar_zero, eVar_succ, eB_at, aCons_at, aNil_at, cons2_ok, app1_ok, len_lst, List.length_map, bin2_ok, lt_int, tst_bl, h', decide_false, ifS_false, sNx_at, seqS_nx, eIsN_at, isN1_ok, isN_int, bne_self_eq_false, sSet_at, mSh_at, sub_int, e0, shM_ok, setS_ok, List.set_cons_zero, List.set_cons_succ, e1, fdiv_int, e3, int_int, mod_int, sRt_at, eIdx_at, add_int, e2, idx_lst, atI_map, e, Option.map_some, R.of_some, m, rtS_ok, outS_rt]
end
end K02

end
section
/-! the law's own normal form -/
namespace K02
open PySem L2 L3
local macro_rules | `(tactic| walk_at "d") => `(tactic| first | assumption | omega | (simp only [szl, repP_length, List.length_map, List.length_append, List.length_cons, List.length_nil, List.length_range, List.length_replicate, rngP_length]; omega) | exact Eq.refl _ | (simp; done) | decide)
theorem is_o2p {x y : Option Int} : F_p_law_is [o2p x, o2p y] = .ok (.sh (.bl (decide (x = y)))) := by
  rw [F_p_law_is_at]
  unfold s_p_law_is
  cases y with
  | none => cases x <;> simp
  | some y => cases x <;> simp
theorem is_int {x y : Int} : F_p_law_is [.int x, .int y] = .ok (.sh (.bl (decide (x = y)))) := by
  have := is_o2p (x := some x) (y := some y)
  simpa using this
section
variable {hs : List Int} {s : Nat} {r : Int} (F : Fin hs s r) (hb : hs.length < 100000) (hr : r.natAbs < 2 ^ 1000)
def gL (hs : List Int) (s : Nat) (r : Int) (q : Nat) (v : Int) : Nat → Bool := fun y => decide (fv hs s r (y + q) = el hs y + v)
def lStp (hs : List Int) (s : Nat) (r : Int) (q : Nat) (v : Int) (b : Nat × Option OV) (k : Nat) : Nat × Option OV := (if (decide (b.1 = hs.length - 1 - k + 1) && gL hs s r q v (hs.length - 1 - k)) = true then hs.length - 1 - k else b.1, some (.sh (.int (hs.length - 1 - k : Nat))))
def lEnv (hs : List Int) (s : Nat) (r : Int) (q : Nat) (v : Int) (b : Nat × Option OV) : L3.Env := [some (.sh (.lst (hs.map .int))), some (.sh (.int s)), some (.sh (.int r)), none, some (.sh (.int q)), some (.sh (.int v)), some (.sh (.int b.1)), b.2]
theorem l_fold {q : Nat} {v : Int} : ∀ (m : Nat) (n : Nat) (w : Option OV), m ≤ hs.length → m ≤ n → ((List.range' (hs.length - m) m).foldl (lStp hs s r q v) (n, w)).1 = if n = m then down (gL hs s r q v) m else n
  | 0, n, w, _, _ => by
    simp [down]
  | m + 1, n, w, h, hn => by
    have e : hs.length - (m + 1) + 1 = hs.length - m := by omega
    rw [List.range'_succ, List.foldl_cons, e]
    have ex : hs.length - 1 - (hs.length - (m + 1)) = m := by omega
    have es : lStp hs s r q v (n, w) (hs.length - (m + 1)) = (if (decide (n = m + 1) && gL hs s r q v m) = true then m else n, some (.sh (.int (m : Nat)))) := by
      unfold lStp
      rw [ex]
    rw [es]
    have ih := fun (n : Nat) (w : Option OV) => l_fold (q := q) (v := v) m n w (by omega)
    by_cases c : n = m + 1
    · subst c
      rw [if_pos rfl, down]
      cases hg : gL hs s r q v m with
      | true =>
        simp only [decide_true, Bool.and_self, if_true]
        rw [ih _ _ (Nat.le_refl _), if_pos rfl]
      | false =>
        simp only [Bool.and_false, Bool.false_eq_true, if_false]
        rw [ih _ _ (by omega), if_neg (by omega)]
    · rw [if_neg c]
      have : (decide (n = m + 1) && gL hs s r q v m) = false := by simp [c]
      rw [this]
      simp only [Bool.false_eq_true, if_false]
      rw [ih _ _ (by omega), if_neg (by omega)]
include F hb hr in
theorem l_turn {q : Nat} {v : Int} (hq : q < 100000) {b : Nat × Option OV} {k : Nat} (hk : k < hs.length) : Turn (.nm 3) [3] b_p_law_normal_2 (.int (0 + (k : Int))) (lEnv hs s r q v b) (lEnv hs s r q v (lStp hs s r q v b k)) := by
  obtain ⟨n, w⟩ := b
  have e1 : (hs.length : Int) - 1 - (k : Int) = ((hs.length - 1 - k : Nat) : Int) := by omega
  have e2 := el_at (l := hs) (i := hs.length - 1 - k) (by omega)
  have e3 := value_ok F (x := hs.length - 1 - k + q) (by omega) hb hr
  have e4 : ((hs.length - 1 - k : Nat) : Int) + (q : Int) = ((hs.length - 1 - k + q : Nat) : Int) := by omega
  have e5 : decide ((n : Int) = ((hs.length - 1 - k : Nat) : Int) + 1) = decide (n = hs.length - 1 - k + 1) := decide_eq_decide.mpr (by omega)
  generalize hs.length - 1 - k = x at e1 e2 e3 e4 e5
  refine .of ?_
  unfold b_p_law_normal_2 lEnv lStp
  have e6 : hs.length - 1 - k = x := by omega
  rw [e6]
  have base : b_p_law_normal_2 = b_p_law_normal_2 := rfl
  cases c : (decide (n = x + 1) && gL hs s r q v x) with
  | true =>
    have c' : (decide ((n : Int) = (x : Int) + 1) && decide (fv hs s r (x + q) = el hs x + v)) = true := by rw [e5]; exact c
    simp only [sSeq_at, sSet_at, mSh_at, eBin_at, eB_at, aCons_at, aNil_at, eVar_zero, eVar_succ, List.set_cons_zero, List.set_cons_succ, cons2_ok, app1_ok, len_lst, List.length_map, bin2_ok, eCst_at, sub_int, Int.zero_add, e1, shM_ok, setS_ok, seqS_nx, sIf_at, bAnd_at, eTst_at, add_int, eq_int, tst_bl, eFz_at, fCall_at, call1_ok, List.append_nil, List.cons_append, List.nil_append, e4, e3, capR_true, fz1_ok, pv_sh, eIdx_at, idx_lst, atI_map, e2, Option.map_some, R.of_some, andR_ok, c', ifS_true, endT_nx, wipeE_cons, wipeE_nil]
    simp
  | false =>
    have c' : (decide ((n : Int) = (x : Int) + 1) && decide (fv hs s r (x + q) = el hs x + v)) = false := by rw [e5]; exact c
    simp only [sSeq_at, sSet_at, mSh_at, eBin_at, eB_at, aCons_at, aNil_at, eVar_zero, eVar_succ, List.set_cons_zero, List.set_cons_succ, cons2_ok, app1_ok, len_lst, List.length_map, bin2_ok, eCst_at, sub_int, Int.zero_add, e1, shM_ok, setS_ok, seqS_nx, sIf_at, bAnd_at, eTst_at, add_int, eq_int, tst_bl, eFz_at, fCall_at, call1_ok, List.append_nil, List.cons_append, List.nil_append, e4, e3, capR_true, fz1_ok, pv_sh, eIdx_at, idx_lst, atI_map, e2, Option.map_some, R.of_some, andR_ok, c', ifS_false, sNx_at, endT_nx, wipeE_cons, wipeE_nil]
    simp
include F hb hr in
theorem l_loop {q : Nat} {v : Int} (hq : q < 100000) {w : Option OV} : ∃ w', forGo (.nm 3) [3] b_p_law_normal_2 (rngP 0 hs.length) (lEnv hs s r q v (hs.length, w)) = .nx (lEnv hs s r q v (down (gL hs s r q v) hs.length, w')) := by
  have key := (forGo_foldN (T := .nm 3) (fg := [3]) (fb := b_p_law_normal_2) (f := fun (k : Nat) => PV.int (0 + (k : Int))) (lEnv hs s r q v) (lStp hs s r q v) (fun k _ => k ≤ hs.length) (List.range hs.length) 0 (hs.length, w) (Nat.zero_le _) fun j x b hx hi => by
    obtain ⟨hj, rfl⟩ := List.getElem?_eq_some_iff.mp hx
    simp only [List.length_range] at hj
    exact ⟨by omega, l_turn F hb hr hq (by simpa using hj)⟩).1
  rw [← rngP_eq] at key
  have f := l_fold (hs := hs) (s := s) (r := r) (q := q) (v := v) hs.length hs.length w (Nat.le_refl _) (Nat.le_refl _)
  rw [if_pos rfl, Nat.sub_self, ← List.range_eq_range'] at f
  refine ⟨((List.range hs.length).foldl (lStp hs s r q v) (hs.length, w)).2, ?_⟩
  rw [key, ← f]
def nEnvL (hs : List Int) (s : Nat) (r : Int) (w : Option OV) : L3.Env := [some (.sh (.lst (hs.map .int))), some (.sh (.int s)), some (.sh (.int r)), none, none, none, none, w]
include F hb hr in
theorem n_turn {q : Nat} (h1 : 1 ≤ q) (hq : q < 100000) (hno : ¬ ∃ v, Per hs s r q v) {w : Option OV} : ∃ w', Turn (.nm 4) [3, 4, 5, 6] b_p_law_normal_3 (.int q) (nEnvL hs s r w) (nEnvL hs s r w') := by
  have hs1 := F.s1
  have hsl := F.sl
  by_cases c : r * q % s = 0
  · obtain ⟨w', e⟩ := l_loop F hb hr (v := r * q / s) hq (w := w)
    have ee : (s : Int) * (r * q / s) = r * q := Int.mul_ediv_cancel' (Int.dvd_of_emod_eq_zero c)
    have lt : ¬ ((down (gL hs s r q (r * q / s)) hs.length : Nat) : Int) ≤ (hs.length : Int) - s := by
      intro z
      refine hno ⟨r * q / s, per_of_full F h1 ee fun d hd => ?_⟩
      have hst : st0 hs s + s = hs.length := by unfold st0; omega
      have := down_all (gL hs s r q (r * q / s)) hs.length (st0 hs s + d) (by omega) (show st0 hs s + d < hs.length by omega)
      simp only [gL, decide_eq_true_eq] at this
      rw [this, fv_lt (by omega)]
    refine ⟨w', .of ?_⟩
    unfold b_p_law_normal_3 nEnvL
    simp only [lEnv] at e
    simp (disch := walk_at "d") [c, e, lt]
  · refine ⟨w, .of ?_⟩
    unfold b_p_law_normal_3 nEnvL
    simp (disch := walk_at "d") [c]
theorem take_fv {n : Nat} (hn : n ≤ hs.length) : (List.range n).map (fun x => fv hs s r x) = hs.take n := by
  apply List.ext_getElem
  · simp [hn]
  · intro i h1 h2
    have hi : i < n := by simpa using h1
    simp only [List.getElem_map, List.getElem_range, List.getElem_take]
    rw [fv_lt (by omega), el_of (by omega)]
include F hb hr in
theorem law_normal_ok {p : Nat} {u : Int} (L : Least hs s r p u) : F_p_law_normal [.lst (hs.map .int), .int s, .int r] = .ok (.sh (.lst [.lst ((hs.take (stN hs s p u + p)).map .int), .int p, .int u])) := by
  have hs1 := F.s1
  have hsl := F.sl
  have p1 := L.per.p1
  have pl := L.le
  have hst : st0 hs s + s = hs.length := by unfold st0; omega
  obtain ⟨ρ', pre, w, rfl⟩ := forGo_invA (T := .nm 4) (fg := [3, 4, 5, 6]) (fb := b_p_law_normal_3) (f := fun (k : Nat) => PV.int (1 + (k : Int))) (fun _ ρ => ∃ w, ρ = nEnvL hs s r w) (List.range (p - 1)) 0 (nEnvL hs s r none) ⟨none, rfl⟩ fun i x ρ hx ⟨w, e⟩ => by
    obtain ⟨hj, rfl⟩ := List.getElem?_eq_some_iff.mp hx
    simp only [List.length_range] at hj
    subst e
    simp only [List.getElem_range]
    have : (1 : Int) + i = ((i + 1 : Nat) : Int) := by omega
    rw [this]
    obtain ⟨w', t⟩ := n_turn F hb hr (q := i + 1) (by omega) (by omega) (fun ⟨v, P⟩ => L.no _ v (by omega) P) (w := w)
    exact ⟨_, t, w', rfl⟩
  rw [← rngP_eq] at pre
  obtain ⟨w', e⟩ := l_loop F hb hr (q := p) (v := u) (by omega) (w := w)
  have c3 : r * p / s = u := by
    rw [← L.per.e]
    exact Int.mul_ediv_cancel_left _ (by omega)
  have c2 : r * p % s = 0 := by rw [← L.per.e]; exact Int.mul_emod_right _ _
  have dn : down (gL hs s r p u) hs.length = stN hs s p u := by
    have h1 := down_skip (gL hs s r p u) (m := st0 hs s) hs.length (by omega) fun y h1 h2 => by
      have := L.per.f (y - st0 hs s)
      rw [show st0 hs s + (y - st0 hs s) = y by omega] at this
      simp only [gL, decide_eq_true_eq]
      rw [this, fv_lt h2]
    rw [h1]
    unfold stN
    refine down_congr _ fun y hy => ?_
    unfold gL nfG
    rw [fv_lt (by omega)]
    exact decide_eq_decide.mpr ⟨fun z => z.symm, fun z => z.symm⟩
  have sle := stN_le (hs := hs) (s := s) (p := p) (u := u)
  have hit : ∃ ρ1, tgS (.nm 4) (.int p) (nEnvL hs s r w) = .ok ρ1 ∧ b_p_law_normal_3 ρ1 = .rt (.sh (.lst [.lst ((hs.take (stN hs s p u + p)).map .int), .int p, .int u])) := by
    refine ⟨_, rfl, ?_⟩
    rw [dn] at e
    have le : ((stN hs s p u : Nat) : Int) ≤ (hs.length : Int) - s := by omega
    have lc : ∀ x3, fLc (.nm 7) [7] (iRg rng1R (aCons (eBin pyAdd (eVar 6) (eVar 4)) aNil)) tYesB c_p_law_normal_1 [some (.sh (.lst (hs.map .int))), some (.sh (.int s)), some (.sh (.int r)), x3, some (.sh (.int p)), some (.sh (.int u)), some (.sh (.int (stN hs s p u : Nat))), w'] = .ok (.own ((List.range (stN hs s p u + p)).map fun x => .sh (.int (fv hs s r x)))) := by
      intro x3
      refine fLc_at (ps := rngP 0 (stN hs s p u + p)) ?_ (by simp [szl]; omega) ?_
      · have : ((stN hs s p u : Nat) : Int) + (p : Int) = ((stN hs s p u + p : Nat) : Int) := by omega
        simp (disch := walk_at "d") only [iRg_at, aCons_at, aNil_at, eBin_at, eVar_zero, eVar_succ, bin2_ok, add_int, cons2_ok, app1_ok, this, rng1_int, Int.toNat_natCast]
      · rw [rngP_eq]
        refine lcGo_map (f := fun (k : Nat) => PV.int (0 + (k : Int))) _ fun x hx => ?_
        have hx : x < stN hs s p u + p := by simpa using hx
        have ev := value_ok F (x := x) (by omega) hb hr
        unfold c_p_law_normal_1
        simp [ev]
    have tk := take_fv (hs := hs) (s := s) (r := r) (n := stN hs s p u + p) (by omega)
    have tk2 : (List.range (stN hs s p u + p)).map (fun x => PV.int (fv hs s r x)) = (hs.take (stN hs s p u + p)).map .int := by rw [← tk, List.map_map]; rfl
    unfold b_p_law_normal_3 nEnvL
    simp only [lEnv] at e
    simp (disch := walk_at "d") only [sIf_at, eTst_at, eBin_at, eB_at, aCons_at, aNil_at, eVar_zero, eVar_succ, List.set_cons_zero, List.set_cons_succ, mul_int, bin2_ok, cons2_ok, app1_ok, int_int, mod_int, eCst_at, eq_int, tst_bl, c2, decide_true, ifS_true, sSeq_at, sSet_at, mSh_at, fdiv_int, c3, shM_ok, setS_ok, seqS_nx, len_lst, List.length_map, sFor_at, iRg_at, rng1_int, Int.toNat_natCast, forS_ok, wipeE_cons, wipeE_nil, e, le_int, sub_int, le, sRt_at, eFz_at, fLst_at, lc, fz1_ok, pv_own, pvs_map, pv_sh, tk2, mkLst_ok, pvs_cons, pvs_nil, List.map_cons, List.map_nil, rtS_ok]
  obtain ⟨ρ1, h1, h2⟩ := hit
  have loop : forGo (.nm 4) [3, 4, 5, 6] b_p_law_normal_3 (rngP 1 s) (nEnvL hs s r none) = .rt (.sh (.lst [.lst ((hs.take (stN hs s p u + p)).map .int), .int p, .int u])) := by
    have e : s = (p - 1) + ((s - p) + 1) := by omega
    have e2 : (1 : Int) + (p - 1 : Nat) = (p : Int) := by omega
    have e3 : rngP 1 s = rngP 1 (p - 1) ++ .int p :: rngP (p + 1) (s - p) := by
      have := rngP_add (lo := 1) (a := p - 1) (b := (s - p) + 1)
      rw [← e, rngP_succ, e2] at this
      exact this
    rw [e3, pre]
    exact forGo_cons_rt h1 h2
  have e1 : ((s : Int) + 1 - 1).toNat = s := by omega
  rw [F_p_law_normal_at]
  unfold s_p_law_normal
  simp only [nEnvL] at loop
  simp (disch := walk_at "d") [e1, loop]
end
/-! a stair that ends in None -/
theorem law_normal_none {hs : List Int} {t : Hs} {s : Int} (hb : (hs.map some ++ none :: t).length < 100000) : F_p_law_normal [.lst (hP (hs.map some ++ none :: t)), .int s, .non] = .ok (.sh (.lst [.lst (hP (hs.map some ++ [none])), .int 1, .non])) := by
  have hn : ∀ i < hs.length, nth (hs.map some ++ none :: t) i = some (el hs i) := fun i hi => by
    unfold nth
    rw [getD_of (by simp; omega), List.getElem_append_left (by simpa using hi), List.getElem_map, el_of hi]
  have hn2 : nth (hs.map some ++ none :: t) hs.length = none := by
    unfold nth
    rw [getD_of (by simp), List.getElem_append_right (by simp)]
    simp
  have tk : (hP (hs.map some ++ none :: t)).take (hs.length + 1) = hP (hs.map some ++ [none]) := by
    unfold hP
    rw [← List.map_take]
    congr 1
    have : hs.map some ++ none :: t = (hs.map some ++ [none]) ++ t := by simp
    rw [this, List.take_append_of_le_length (by simp), List.take_of_length_le (by simp)]
  have hl : (hs.map some ++ none :: t).length = hs.length + (t.length + 1) := by simp
  have loop : forGo (.nm 3) [3] b_p_law_normal_1 (rngP 0 (hs.map some ++ none :: t).length) [some (.sh (.lst (hP (hs.map some ++ none :: t)))), some (.sh (.int s)), some (.sh .non), none, none, none, none, none] = .rt (.sh (.lst [.lst (hP (hs.map some ++ [none])), .int 1, .non])) := by
    rw [hl, rngP_add, rngP_succ, forGo_pre]
    · refine forGo_cons_rt rfl ?_
      have e1 := nth_at (l := hs.map some ++ none :: t) (i := (0 : Int) + hs.length) (by omega) (by simp; omega)
      rw [show ((0 : Int) + hs.length).toNat = hs.length by omega, hn2] at e1
      have e2 : ((0 : Int) + (hs.length : Int) + 1).toNat = hs.length + 1 := by omega
      unfold b_p_law_normal_1
      simp only [List.set_cons_zero, List.set_cons_succ, sIf_at, eTst_at, eIsN_at, eIdx_at, eVar_zero, eVar_succ, bin2_ok, idx_lst, e1, o2p_none, R.of_some, isN1_ok, isN_non]
      simp (disch := walk_at "d") [tk]
    · intro q hq
      obtain ⟨k, hk, rfl⟩ := rngP_mem hq
      have e1 := nth_at (l := hs.map some ++ none :: t) (i := (0 : Int) + k) (by omega) (by simp; omega)
      rw [show ((0 : Int) + k).toNat = k by omega, hn k hk] at e1
      refine .of ?_
      unfold b_p_law_normal_1
      simp only [List.set_cons_zero, List.set_cons_succ, sIf_at, eTst_at, eIsN_at, eIdx_at, eVar_zero, eVar_succ, bin2_ok, idx_lst, e1, o2p_some, R.of_some, isN1_ok, isN_int]
      simp
  rw [F_p_law_normal_at]
  unfold s_p_law_normal
  rw [hl] at loop hb
  have e7 : ((hs.length : Int) + ((t.length : Int) + 1)).toNat = hs.length + (t.length + 1) := by omega
  simp (disch := walk_at "d") [hP_len, e7, loop]
/-- a stair that is as it is due -/
theorem same_ok {l : Hs} {p : Int} {u : Option Int} (hl : l.length < 100000) : F_p_law_same [stP (hP l) (l.length - p) p u, .lst [.lst (hP l), .int p, o2p u]] = .ok (.sh (.bl true)) := by
  have loop : forGo (.nm 3) [3] b_p_law_same_1 (rngP 0 l.length) [some (.sh (stP (hP l) (l.length - p) p u)), some (.sh (.lst [.lst (hP l), .int p, o2p u])), some (.sh (.tup (hP l))), none] = .nx [some (.sh (stP (hP l) (l.length - p) p u)), some (.sh (.lst [.lst (hP l), .int p, o2p u])), some (.sh (.tup (hP l))), none] := by
    rw [rngP_eq]
    refine forGo_same _ fun k hk => .of ?_
    have hk : k < l.length := by simpa using hk
    have e := nth_at (l := l) (i := k) (by omega) (by omega)
    have i1 := is_o2p (x := nth l k) (y := nth l k)
    unfold b_p_law_same_1
    simp only [List.set_cons_zero, List.set_cons_succ, Int.zero_add]
    simp [e, i1]
  have i2 := is_int (x := (l.length : Int) - p) (y := (l.length : Int) - p)
  have i3 := is_int (x := p) (y := p)
  have i4 := is_o2p (x := u) (y := u)
  rw [F_p_law_same_at]
  unfold s_p_law_same
  simp (disch := walk_at "d") [hP_len, loop, i2, i3, i4]
end K02

end
section
/-! what is handed in -/
namespace K02
open PySem L2 L3
local macro_rules | `(tactic| walk_at "d") => `(tactic| first | assumption | omega | (simp only [szl, repP_length, List.length_map, List.length_append, List.length_cons, List.length_nil, List.length_range, List.length_replicate, rngP_length]; omega) | exact Eq.refl _ | (simp; done) | decide)
theorem cellL {ns : List Int} (k : Nat) {K : Int} (h : K = k) : F_p_law_cell [.scr (ns.map .int), .int K] = .ok (.sh (.int (cell ns k))) := by
  subst h
  exact cell_ok
theorem nums_ok' {c s m N : Int} {n : Nat} (hN : N = n) (hm : 0 < m) (hm2 : m < 2 ^ 200) (hn : n < 1000000) : F_p_law_numbers [.int c, .int s, .int N, .int m] = .ok (.own ((nums c s n m).map fun i => .sh (.int i))) := by
  subst hN
  exact nums_ok hm hm2 hn
def ab (c : Int) : Int := if c < 0 then -c else c
theorem ab_nn {c : Int} : 0 ≤ ab c := by unfold ab; split <;> omega
theorem abs_ab {c : Int} : bAbs [.int c] = .ok (.int (ab c)) := rfl
/-! scanning heights that do not fall -/
def Mono (hs : List Int) : Prop := (∀ i, i < hs.length → 0 ≤ el hs i) ∧ ∀ i, i + 1 < hs.length → el hs i ≤ el hs (i + 1)
theorem el_cons {a : Int} {l : List Int} {i : Nat} : el (a :: l) (i + 1) = el l i := by simp [el]
theorem scan_mono : ∀ (hs : List Int) (a : Int), (∀ i, i + 1 < (a :: hs).length → el (a :: hs) i ≤ el (a :: hs) (i + 1)) → scan (some a) (hs.map some) = some (some (el (a :: hs) hs.length))
  | [], a, _ => rfl
  | b :: hs, a, h => by
    have h0 := h 0 (by simp)
    have e0 : el (a :: b :: hs) 0 = a := rfl
    have e1 : el (a :: b :: hs) 1 = b := rfl
    rw [e0, e1] at h0
    rw [List.map_cons, scan, if_neg (by omega)]
    have := scan_mono hs b fun i hi => by
      have := h (i + 1) (by simp at hi ⊢; omega)
      rwa [el_cons, el_cons] at this
    rw [this, List.length_cons, el_cons]
theorem scan_ok {hs : List Int} (h : Mono hs) (h1 : 1 ≤ hs.length) : scan (some 0) (hs.map some) = some (some (el hs (hs.length - 1))) := by
  have := scan_mono hs 0 fun i hi => by
    cases i with
    | zero =>
      have e0 : el (0 :: hs) 0 = 0 := rfl
      rw [e0, el_cons]
      exact h.1 0 (by omega)
    | succ i =>
      rw [el_cons, el_cons]
      exact h.2 i (by simp at hi; omega)
  rw [this]
  obtain ⟨n, hn⟩ : ∃ n, hs.length = n + 1 := ⟨hs.length - 1, by omega⟩
  rw [hn, el_cons, Nat.add_sub_cancel]
theorem scan_none_tail {x : Option Int} {n : Nat} : scan x (List.replicate (n + 1) none) = some none := by
  have key : ∀ n, scan none (List.replicate n none) = some none := by
    intro n
    induction n with
    | zero => rfl
    | succ n ih => rw [List.replicate_succ]; exact ih
  rw [List.replicate_succ]
  cases x <;> exact key n
/-- a stair of numbers as it may be handed in -/
structure Good (hs : List Int) (s : Nat) (r : Int) : Prop where
  F : Fin hs s r
  m : Mono hs
  r : el hs (hs.length - 1) ≤ el hs (st0 hs s) + r
theorem Good.check {hs : List Int} {s : Nat} {r : Int} (G : Good hs s r) : F_check_heights [.lst (hs.map .int), .int s, .int r] = .ok (.sh .non) := by
  have h1 := G.F.s1
  have h2 := G.F.sl
  have := check_ok (l := hs.map some) (s := s) (r := some r) (y := some (el hs (hs.length - 1))) (by omega) (by simp; omega) (scan_ok G.m (by omega)) (by
    have : nth (hs.map some) ((hs.map some).length - (s : Int).toNat) = some (el hs (st0 hs s)) := by
      unfold nth
      rw [List.length_map, show (s : Int).toNat = s by omega, getD_of (by simp; omega), List.getElem_map, el_of (by unfold st0; omega)]
      rfl
    rw [this]
    have := G.r
    simp only [riseBad, decide_eq_false_iff_not]
    omega)
  rw [hP_some] at this
  exact this
section
variable {hs : List Int} {s : Nat} {r : Int} (G : Good hs s r)
include G in
theorem fv_mono : ∀ x, fv hs s r x ≤ fv hs s r (x + 1) := by
  have F := G.F
  have h1 := F.s1
  have h2 := F.sl
  have hst : st0 hs s + s = hs.length := by unfold st0; omega
  intro x
  induction x using Nat.strongRecOn with
  | ind x ih =>
    by_cases c1 : x + 1 < hs.length
    · rw [fv_lt c1, fv_lt (by omega)]
      exact G.m.2 x c1
    · by_cases c2 : x + 1 = hs.length
      · have e : x + 1 = st0 hs s + 0 + s := by omega
        rw [e, fv_step F, fv_lt (by omega), fv_lt (by omega)]
        have := G.r
        rw [show hs.length - 1 = x by omega] at this
        exact this
      · have := ih (x - s) (by omega)
        have e1 : x = st0 hs s + (x - s - st0 hs s) + s := by omega
        have e2 : x + 1 = st0 hs s + (x + 1 - s - st0 hs s) + s := by omega
        have a1 := fv_step F (x - s - st0 hs s)
        have a2 := fv_step F (x + 1 - s - st0 hs s)
        rw [← e1] at a1
        rw [← e2] at a2
        rw [a1, a2]
        rw [show st0 hs s + (x - s - st0 hs s) = x - s by omega, show st0 hs s + (x + 1 - s - st0 hs s) = x - s + 1 by omega]
        omega
include G in
theorem fv_mono' {x y : Nat} (h : x ≤ y) : fv hs s r x ≤ fv hs s r y := by
  obtain ⟨d, rfl⟩ : ∃ d, y = x + d := ⟨y - x, by omega⟩
  clear h
  induction d with
  | zero => exact Int.le_refl _
  | succ d ih => exact Int.le_trans ih (fv_mono G (x + d))
/-- the same function, with a later start and a longer step -/
def wideL (hs : List Int) (s : Nat) (r : Int) (n : Nat) : List Int := (List.range n).map fun x => fv hs s r x
theorem wide_el {n i : Nat} (h : i < n) : el (wideL hs s r n) i = fv hs s r i := by
  unfold wideL
  rw [el_of (by simpa using h)]
  simp
include G in
theorem wide_good {e w : Nat} (hw : 1 ≤ w) : Good (wideL hs s r (st0 hs s + e + s * w)) (s * w) (r * w) := by
  have F := G.F
  have h1 := F.s1
  have h2 := F.sl
  have hlen : (wideL hs s r (st0 hs s + e + s * w)).length = st0 hs s + e + s * w := by simp [wideL]
  have sw : 1 ≤ s * w := Nat.mul_pos h1 hw
  have nn : ∀ x, 0 ≤ fv hs s r x := fun x => by
    have := fv_mono' G (Nat.zero_le x)
    have h0 : fv hs s r 0 = el hs 0 := fv_lt (by omega)
    have := G.m.1 0 (by omega)
    omega
  refine ⟨⟨sw, by omega⟩, ⟨fun i hi => ?_, fun i hi => ?_⟩, ?_⟩
  · rw [hlen] at hi
    rw [wide_el hi]
    exact nn i
  · rw [hlen] at hi
    rw [wide_el (by omega), wide_el hi]
    exact fv_mono G i
  · have st : st0 (wideL hs s r (st0 hs s + e + s * w)) (s * w) = st0 hs s + e := by
      show (wideL hs s r (st0 hs s + e + s * w)).length - s * w = _
      rw [hlen]
      omega
    rw [st, hlen, wide_el (by omega), wide_el (by omega)]
    have := fv_steps F e w
    have m := fv_mono' G (show st0 hs s + e + s * w - 1 ≤ st0 hs s + e + s * w by omega)
    rw [this] at m
    rw [Int.mul_comm r]
    exact m
end
theorem atI_last {l : List Int} (h : 1 ≤ l.length) : atI l (-1) = some (el l (l.length - 1)) := by
  unfold atI ixN
  rw [if_neg (by omega), if_pos (by omega)]
  have : ((-1 : Int) + (l.length : Int)).toNat = l.length - 1 := by omega
  rw [this]
  show l[l.length - 1]? = _
  rw [List.getElem?_eq_getElem (by omega), el_of (by omega)]
/-! the law's draw -/
end K02

end
section
/-! stairs, made -/
namespace K02
open PySem L2 L3
local macro_rules | `(tactic| walk_at "d") => `(tactic| first | assumption | omega | (simp only [szl, repP_length, List.length_map, List.length_append, List.length_cons, List.length_nil, List.length_range, List.length_replicate, rngP_length, List.length_set]; omega) | exact Eq.refl _ | (simp; done) | decide)
theorem scan_pls {P : List Int} (m : Mono P) : ∃ y, scan (some 0) (P.map some) = some (some y) := by
  by_cases c : 1 ≤ P.length
  · exact ⟨_, scan_ok m c⟩
  · have : P = [] := by cases P with
      | nil => rfl
      | cons a l => simp at c
    subst this
    exact ⟨0, rfl⟩
theorem nth_map {P : List Int} {t : Hs} {i : Nat} (h : i < P.length) : nth (P.map some ++ t) i = some (el P i) := by
  unfold nth
  rw [getD_of (by simp; omega), List.getElem_append_left (by simpa using h), List.getElem_map, el_of h]
theorem stair_num {hs : List Int} {s p : Nat} {r u : Int} (G : Good hs s r) (L : Least hs s r p u) (hb : hs.length < 1900) (hr : r.natAbs < 2 ^ 900) (h : stN hs s p u + p ≤ 600) : F_Stair_init [.lst (hs.map .int), .int s, .int r] = .ok (stO ((hs.take (stN hs s p u + p)).map .int) (((hs.take (stN hs s p u + p)).map PV.int).length - p) p (some u)) := by
  have h1 := G.check
  have h2 := normal_ok G.F (by omega) L hb
  rw [← hP_some] at h1 h2 ⊢
  exact init_go h1 h2 (by simp; omega)
theorem stair_many {hs : List Int} {s p : Nat} {r u : Int} (G : Good hs s r) (L : Least hs s r p u) (hb : hs.length < 1900) (hr : r.natAbs < 2 ^ 900) (h : 600 < stN hs s p u + p) (h3 : stN hs s p u + p ≤ hs.length) : F_Stair_init [.lst (hs.map .int), .int s, .int r] = .er manyP := by
  have h1 := G.check
  have h2 := normal_ok G.F (by omega) L hb
  rw [← hP_some] at h1 h2 ⊢
  exact init_many (u := some u) h1 h2 (by simp; omega)
theorem none_check {hs : List Int} {c : Nat} {s : Int} (m : Mono hs) (h1 : 1 ≤ s) (h2 : s ≤ c + 1) : F_check_heights [.lst (hP (hs.map some ++ none :: List.replicate c none)), .int s, .non] = .ok (.sh .non) := by
  obtain ⟨y, e⟩ := scan_pls m
  have sc : scan (some 0) (hs.map some ++ none :: List.replicate c none) = some none := by
    rw [scan_app, e]
    exact scan_none_tail (n := c)
  refine check_ok (r := none) (y := none) h1 (by simp; omega) sc ?_
  have : nth (hs.map some ++ none :: List.replicate c none) ((hs.map some ++ none :: List.replicate c none).length - s.toNat) = none := by
    have e : none :: List.replicate c (none : Option Int) = List.replicate (c + 1) none := by rw [List.replicate_succ]
    unfold nth
    simp only [e]
    rw [getD_of (by simp; omega), List.getElem_append_right (by simp; omega)]
    simp
  rw [this]
  rfl
theorem stair_none {hs : List Int} {c : Nat} {s : Int} (m : Mono hs) (h1 : 1 ≤ s) (h2 : s ≤ c + 1) (h : hs.length < 600) : F_Stair_init [.lst (hP (hs.map some ++ none :: List.replicate c none)), .int s, .non] = .ok (stO (hP (hs.map some ++ [none])) ((hP (hs.map some ++ [none])).length - 1) 1 none) :=
  init_go (none_check m h1 h2) nf_none (by simp [hP_len]; omega)
theorem flat_hP {l : Hs} : (hP l).all flatP = true := by
  unfold hP
  rw [List.all_map, List.all_eq_true]
  intro x _
  cases x <;> rfl
theorem flats_of {L : List PV} (h : L.all flatP = true) : PV.flats L = true := by
  induction L with
  | nil => rfl
  | cons p L ih =>
    rw [List.all_cons, Bool.and_eq_true] at h
    rw [PV.flats, ih h.2, Bool.and_true]
    cases p <;> first | rfl | simp [flatP] at h
theorem stO_flat {L : List PV} {b p : Int} {u : Option Int} (h : L.all flatP = true) : (OV.obj 4 (stO L b p u)).flat = true := by
  have : (o2p u).flat = true := by cases u <;> rfl
  simp [stO, OV.flat, OV.flatf, PV.flat, flats_of h, this]
theorem cln_hP {l : Hs} : cln 2 (.lst (hP l)) = true := by
  show (hP l).all (cln 1) = true
  unfold hP
  rw [List.all_map, List.all_eq_true]
  intro x _
  cases x <;> rfl
theorem abs_mul_le {s p : Nat} {u r : Int} (h : (s : Int) * u = r * p) (h1 : p ≤ s) (h0 : 1 ≤ s) : u.natAbs ≤ r.natAbs := by
  have e : s * u.natAbs = r.natAbs * p := by
    have := congrArg Int.natAbs h
    rwa [Int.natAbs_mul, Int.natAbs_mul, Int.natAbs_natCast, Int.natAbs_natCast] at this
  have : r.natAbs * p ≤ r.natAbs * s := Nat.mul_le_mul_left _ h1
  rw [← e, Nat.mul_comm r.natAbs] at this
  exact Nat.le_of_mul_le_mul_left this h0
end K02

end
section
/-! normal forms -/
namespace K02
open PySem L2 L3
local macro_rules | `(tactic| walk_at "d") => `(tactic| first | assumption | omega | (simp only [szl, repP_length, List.length_map, List.length_append, List.length_cons, List.length_nil, List.length_range, List.length_replicate, rngP_length, List.length_set]; omega) | exact Eq.refl _ | (simp; done) | decide)
/-- a stair in normal form -/
inductive Nf where
  | num (H : List Int) (p : Nat) (u : Int)
  | non (H : List Int)
def Nf.hs : Nf → Hs
  | .num H _ _ => H.map some
  | .non H => H.map some ++ [none]
def Nf.st : Nf → Nat
  | .num H p _ => H.length - p
  | .non H => H.length
def Nf.stp : Nf → Nat
  | .num _ p _ => p
  | .non _ => 1
def Nf.ri : Nf → Option Int
  | .num _ _ u => some u
  | .non _ => none
def Nf.val : Nf → Nat → Option Int
  | .num H p u => fun x => some (fv H p u x)
  | .non H => fun x => if x < H.length then some (el H x) else none
def Nf.O (a : Nf) : List (Str × OV) := stO (hP a.hs) a.st a.stp a.ri
def Nf.P (a : Nf) : PV := stP (hP a.hs) a.st a.stp a.ri
structure NumOk (H : List Int) (p : Nat) (u : Int) : Prop where
  g : Good H p u
  l : Least H p u p u
  n : stN H p p u = st0 H p
  len : H.length ≤ 600
  ub : u.natAbs < 2 ^ 900
def Nf.ok : Nf → Prop
  | .num H p u => NumOk H p u
  | .non H => Mono H ∧ H.length < 600
theorem Good.u0 {hs : List Int} {s : Nat} {r : Int} (g : Good hs s r) : 0 ≤ r := by
  have F := g.F
  have h1 := F.s1
  have h2 := F.sl
  have hst : st0 hs s + s = hs.length := by unfold st0; omega
  have a := fv_mono' g (show st0 hs s ≤ hs.length - 1 by omega)
  rw [fv_lt (by omega), fv_lt (by omega)] at a
  have b := fv_step F 0
  have c := fv_mono' g (show st0 hs s ≤ st0 hs s + s by omega)
  rw [show st0 hs s + 0 + s = st0 hs s + s by omega, Nat.add_zero] at b
  omega
theorem Good.nn {hs : List Int} {s : Nat} {r : Int} (g : Good hs s r) (x : Nat) : 0 ≤ fv hs s r x := by
  have := fv_mono' g (Nat.zero_le x)
  have h1 := g.F.s1
  have h2 := g.F.sl
  have h0 : fv hs s r 0 = el hs 0 := fv_lt (by omega)
  have := g.m.1 0 (by omega)
  omega
theorem el_take {l : List Int} {n i : Nat} (h : i < n) : el (l.take n) i = el l i := by
  unfold el
  simp [List.getD_eq_getElem?_getD, List.getElem?_take, h]
/-- the normal form of what may be handed in -/
theorem num_nf {hs : List Int} {s : Nat} {r : Int} (g : Good hs s r) (hb : r.natAbs < 2 ^ 900) {p : Nat} {u : Int} (lt : Least hs s r p u) (hl : stN hs s p u + p ≤ 600) : NumOk (hs.take (stN hs s p u + p)) p u ∧ (∀ x, fv (hs.take (stN hs s p u + p)) p u x = fv hs s r x) ∧ (hs.take (stN hs s p u + p)).length = stN hs s p u + p := by
  have F := g.F
  have h1 := F.s1
  have h2 := F.sl
  have P := lt.per
  have p1 := P.p1
  have ps := lt.le
  have pe := P.e
  have hst : st0 hs s + s = hs.length := by unfold st0; omega
  have sle := stN_le (hs := hs) (s := s) (p := p) (u := u)
  have ua := abs_mul_le pe ps h1
  have stp := fun y (h : stN hs s p u ≤ y) => stps_at P ps F (y := y) h
  have stop : ∀ n, stN hs s p u = n + 1 → el hs n + u ≠ el hs (n + p) := by
    intro n hn e
    have key : ∀ m, m ≤ st0 hs s → down (nfG hs p u) m = n + 1 → nfG hs p u n = false := by
      intro m
      induction m with
      | zero => intro _ h; simp [down] at h
      | succ m ih =>
        intro hm h
        rw [down] at h
        split at h
        · exact ih (by omega) h
        · rename_i c
          have : m = n := by omega
          subst this
          simpa using c
    have := key _ (Nat.le_refl _) hn
    unfold nfG at this
    rw [decide_eq_false_iff_not] at this
    exact this e
  generalize hn : stN hs s p u = n at *
  have tl : (hs.take (n + p)).length = n + p := by simp; omega
  have s0 : st0 (hs.take (n + p)) p = n := by unfold st0; omega
  have fe : ∀ x, fv (hs.take (n + p)) p u x = fv hs s r x := by
    intro x
    by_cases c : x < n + p
    · rw [fv_lt (by omega), el_take c, fv_lt (by omega)]
    · have Fp : Fin (hs.take (n + p)) p u := ⟨p1, by omega⟩
      have e := fv_tail Fp (x - n)
      rw [s0, show n + (x - n) = x by omega] at e
      have ml := Nat.mod_lt (x - n) (show 0 < p by omega)
      have dm := Nat.div_add_mod (x - n) p
      rw [e, el_take (by omega)]
      have s := stp (n + (x - n) % p) (by omega) ((x - n) / p)
      rw [fv_lt (x := n + (x - n) % p) (by omega), show n + (x - n) % p + (x - n) / p * p = x by rw [Nat.mul_comm]; omega] at s
      exact s.symm
  have Fp : Fin (hs.take (n + p)) p u := ⟨p1, by omega⟩
  have gp : Good (hs.take (n + p)) p u := by
    refine ⟨Fp, ⟨fun i hi => ?_, fun i hi => ?_⟩, ?_⟩
    · rw [tl] at hi
      rw [el_take hi]
      exact g.m.1 i (by omega)
    · rw [tl] at hi
      rw [el_take (by omega), el_take hi]
      exact g.m.2 i (by omega)
    · rw [tl, s0, el_take (by omega), el_take (by omega)]
      have a := fv_mono' g (show n + p - 1 ≤ n + 1 * p by omega)
      rw [stp n (Nat.le_refl _) 1, fv_lt (by omega), fv_lt (by omega)] at a
      omega
  refine ⟨⟨gp, ⟨Per.self Fp, Nat.le_refl _, fun q v hq B => ?_, Nat.dvd_refl _⟩, ?_, by omega, by omega⟩, fe, tl⟩
  · refine lt.no q v hq ⟨B.p1, ?_, fun d => ?_⟩
    · have e1 := B.e
      have e2 := pe
      -- p v = u q, s u = r p: s v = r q
      have : (p : Int) * (s * v) = p * (r * q) := by
        calc (p : Int) * (s * v) = s * (p * v) := by rw [← Int.mul_assoc, ← Int.mul_assoc, Int.mul_comm (p : Int) s]
          _ = s * (u * q) := by rw [e1]
          _ = (s * u) * q := by rw [Int.mul_assoc]
          _ = (r * p) * q := by rw [e2]
          _ = p * (r * q) := by rw [Int.mul_comm r, Int.mul_assoc]
      exact Int.eq_of_mul_eq_mul_left (by omega) this
    · have := B.f (st0 hs s - n + d)
      rw [s0, fe, fe] at this
      rw [show n + (st0 hs s - n + d) = st0 hs s + d by omega] at this
      exact this
  · unfold stN
    rw [s0]
    cases n with
    | zero => rfl
    | succ n =>
      rw [down, if_neg]
      unfold nfG
      rw [decide_eq_true_eq, el_take (by omega), el_take (by omega)]
      exact stop n rfl
theorem num_made {hs : List Int} {s : Nat} {r : Int} (g : Good hs s r) (hb : r.natAbs < 2 ^ 900) (hn : hs.length < 1900) {p : Nat} {u : Int} (lt : Least hs s r p u) (hl : stN hs s p u + p ≤ 600) : F_Stair_init [.lst (hs.map .int), .int s, .int r] = .ok (Nf.num (hs.take (stN hs s p u + p)) p u).O := by
  have e := (num_nf g hb lt hl).2.2
  have ini := stair_num g lt hn hb hl
  rw [List.length_map, e] at ini
  rw [ini]
  unfold Nf.O Nf.hs Nf.st Nf.stp Nf.ri
  dsimp only
  rw [hP_some, e]
  have : ((stN hs s p u + p : Nat) : Int) - p = ((stN hs s p u + p - p : Nat) : Int) := by omega
  rw [this]
end K02

end
section
/-! normal forms: values -/
namespace K02
open PySem L2 L3
local macro_rules | `(tactic| walk_at "d") => `(tactic| first | assumption | omega | (simp only [szl, repP_length, List.length_map, List.length_append, List.length_cons, List.length_nil, List.length_range, List.length_replicate, rngP_length, List.length_set]; omega) | exact Eq.refl _ | (simp; done) | decide)
theorem non_made {hs : List Int} {c : Nat} {s : Int} (m : Mono hs) (h1 : 1 ≤ s) (h2 : s ≤ c + 1) (h : hs.length < 600) : F_Stair_init [.lst (hP (hs.map some ++ none :: List.replicate c none)), .int s, .non] = .ok (Nf.non hs).O := by
  rw [stair_none m h1 h2 h]
  unfold Nf.O Nf.hs Nf.st Nf.stp Nf.ri
  dsimp only
  have : (((hP (hs.map some ++ [none])).length : Nat) : Int) - 1 = (hs.length : Nat) := by rw [hP_len]; simp
  rw [this]
  rfl
theorem Nf.hs_len (a : Nf) (h : a.ok) : a.hs.length = a.st + a.stp := by
  cases a with
  | num H p u =>
    have := h.g.F.sl
    show (H.map some).length = H.length - p + p
    rw [List.length_map]
    omega
  | non H =>
    show (H.map some ++ [none]).length = H.length + 1
    simp
theorem Nf.bnd (a : Nf) (h : a.ok) : a.st + a.stp ≤ 600 ∧ 1 ≤ a.stp := by
  cases a with
  | num H p u =>
    have := h.g.F.sl
    have := h.g.F.s1
    have := h.len
    show H.length - p + p ≤ 600 ∧ 1 ≤ p
    omega
  | non H =>
    have := h.2
    show H.length + 1 ≤ 600 ∧ 1 ≤ 1
    omega
theorem nth_num {H : List Int} {x : Nat} (h : x < H.length) : nth (H.map some) x = some (el H x) := by
  have := nth_map (P := H) (t := []) h
  rwa [List.append_nil] at this
theorem nth_non {H : List Int} {x : Nat} : nth (H.map some ++ [none]) x = if x < H.length then some (el H x) else none := by
  split
  · rename_i h
    exact nth_map h
  · rename_i h
    unfold nth
    rw [List.getD_eq_getElem?_getD, List.getElem?_append_right (by rw [List.length_map]; omega)]
    cases x - (H.map some).length with
    | zero => rfl
    | succ n => rfl
/-- the value at an amount -/
theorem Nf.at_ok (a : Nf) (h : a.ok) {x : Nat} (hx : x ≤ 10 ^ 60) : F_Stair_at [a.P, .int x] = .ok (.sh (o2p (a.val x))) := by
  cases a with
  | num H p u =>
    have F := h.g.F
    have h1 := F.s1
    have h2 := F.sl
    have hl := h.len
    have hu := h.ub
    show F_Stair_at [stP (hP (H.map some)) ((H.length - p : Nat) : Int) p (some u), .int x] = .ok (.sh (.int (fv H p u x)))
    rw [hP_some]
    by_cases c : x < H.length
    · have te : atI (H.map PV.int) (x : Int) = some (.int (el H x)) := by rw [atI_map, el_at c]; rfl
      rw [at_in (by omega) (by rw [List.length_map]; omega) te, fv_lt c]
    · obtain ⟨n, hn⟩ : ∃ n, H.length - p = n := ⟨_, rfl⟩
      have ed : ((x : Int) - n) / p = (((x - n) / p : Nat) : Int) := by
        rw [Int.natCast_ediv, Int.ofNat_sub (by omega)]
      have dm := Nat.div_add_mod (x - n) p
      have ml := Nat.mod_lt (x - n) (show 0 < p by omega)
      have ee : (x : Int) - ((x : Int) - n) / p * p = ((n + (x - n) % p : Nat) : Int) := by
        rw [ed]
        have : (((x - n) / p : Nat) : Int) * p = (((p * ((x - n) / p) : Nat)) : Int) := by rw [Int.natCast_mul, Int.mul_comm]
        rw [this]
        omega
      have dl : (x - n) / p ≤ x := Nat.le_trans (Nat.div_le_self _ _) (by omega)
      rw [hn]
      have te : atI (H.map PV.int) ((n + (x - n) % p : Nat) : Int) = some (.int (el H (n + (x - n) % p))) := by rw [atI_map, el_at (by omega)]; rfl
      have := at_far (l := H.map PV.int) (b := n) (p := p) (v := u) (a := x) (x := el H (n + (x - n) % p)) (by omega) (by rw [List.length_map]; omega) (by omega) (by omega) (by rw [ed, Int.natAbs_natCast]; exact Nat.lt_of_le_of_lt (Nat.le_trans dl hx) (by decide +kernel)) (by omega) (by rw [ee]; exact te)
      rw [this, ed]
      have e := fv_tail F (x - n)
      unfold st0 at e
      rw [hn, show n + (x - n) = x by omega] at e
      rw [e]
  | non H =>
    show F_Stair_at [stP (hP (H.map some ++ [none])) ((H.length : Nat) : Int) ((1 : Nat) : Int) none, .int x] = .ok (.sh (o2p (if x < H.length then some (el H x) else none)))
    by_cases c : x < H.length + 1
    · have te := nth_at (l := H.map some ++ [none]) (i := x) (by omega) (by simp; omega)
      rw [at_in (by omega) (by rw [hP_len]; simp; omega) te, Int.toNat_natCast, nth_non]
    · rw [if_neg (by omega)]
      exact at_none (by omega) (by rw [hP_len]; simp; omega)
theorem Nf.P_pvf (a : Nf) : (OV.obj 4 a.O).pv = a.P := by
  rw [pv_obj]
  unfold Nf.O Nf.P
  rw [pvf_st]
  rfl
theorem Nf.flat (a : Nf) : (OV.obj 4 a.O).flat = true := stO_flat flat_hP
/-- a normal form is as the law's own is -/
theorem Nf.nor (a : Nf) (h : a.ok) : F_p_law_normal [.lst (hP a.hs), .int a.stp, o2p a.ri] = .ok (.sh (.lst [.lst (hP a.hs), .int a.stp, o2p a.ri])) := by
  cases a with
  | num H p u =>
    have F := h.g.F
    have := h.len
    have := h.ub
    have e := law_normal_ok F (by omega) (by omega) h.l
    have l0 := F.sl
    rw [h.n, List.take_of_length_le (by unfold st0; omega)] at e
    show F_p_law_normal [.lst (hP (H.map some)), .int p, .int u] = .ok (.sh (.lst [.lst (hP (H.map some)), .int p, .int u]))
    rw [hP_some]
    exact e
  | non H =>
    have := h.2
    exact law_normal_none (hs := H) (t := []) (s := 1) (by simp; omega)
theorem Nf.same (a : Nf) (h : a.ok) : F_p_law_same [a.P, .lst [.lst (hP a.hs), .int a.stp, o2p a.ri]] = .ok (.sh (.bl true)) := by
  have l := a.hs_len h
  have b := a.bnd h
  have := same_ok (l := a.hs) (p := a.stp) (u := a.ri) (by omega)
  unfold Nf.P
  rw [show ((a.hs.length : Int) - a.stp) = (a.st : Int) by omega] at this
  exact this
end K02

end
section
/-! stairs of a function -/
namespace K02
open PySem L2 L3
local macro_rules | `(tactic| walk_at "d") => `(tactic| first | assumption | omega | (simp only [szl, repP_length, List.length_map, List.length_append, List.length_cons, List.length_nil, List.length_range, List.length_replicate, rngP_length, List.length_set]; omega) | exact Eq.refl _ | (simp; done) | decide)
section
variable {w : Nat → Int} {n s : Nat} {r : Int}
theorem w_el {i : Nat} (h : i < n) : el ((List.range n).map w) i = w i := by
  rw [el_of (by simpa using h)]
  simp
theorem w_fv (s1 : 1 ≤ s) (sn : s ≤ n) (per : ∀ d, w (n - s + d + s) = w (n - s + d) + r) (x : Nat) : fv ((List.range n).map w) s r x = w x := by
  have ln : ((List.range n).map w).length = n := by simp
  have F : Fin ((List.range n).map w) s r := ⟨s1, by omega⟩
  have s0 : st0 ((List.range n).map w) s = n - s := by unfold st0; rw [ln]
  induction x using Nat.strongRecOn with
  | ind x ih =>
    by_cases c : x < n
    · rw [fv_lt (by omega), w_el c]
    · have e := fv_step F (x - s - (n - s))
      rw [s0, show n - s + (x - s - (n - s)) + s = x by omega, show n - s + (x - s - (n - s)) = x - s by omega, ih (x - s) (by omega)] at e
      have p := per (x - s - (n - s))
      rw [show n - s + (x - s - (n - s)) + s = x by omega, show n - s + (x - s - (n - s)) = x - s by omega] at p
      rw [e, p]
theorem w_mono (mono : ∀ x, w x ≤ w (x + 1)) {x y : Nat} (h : x ≤ y) : w x ≤ w y := by
  obtain ⟨d, rfl⟩ : ∃ d, y = x + d := ⟨y - x, by omega⟩
  clear h
  induction d with
  | zero => exact Int.le_refl _
  | succ d ih => exact Int.le_trans ih (mono (x + d))
theorem w_good (mono : ∀ x, w x ≤ w (x + 1)) (nn : 0 ≤ w 0) (s1 : 1 ≤ s) (sn : s ≤ n) (per : ∀ d, w (n - s + d + s) = w (n - s + d) + r) : Good ((List.range n).map w) s r := by
  have ln : ((List.range n).map w).length = n := by simp
  refine ⟨⟨s1, by omega⟩, ⟨fun i hi => ?_, fun i hi => ?_⟩, ?_⟩
  · rw [ln] at hi
    rw [w_el hi]
    exact Int.le_trans nn (w_mono mono (Nat.zero_le _))
  · rw [ln] at hi
    rw [w_el hi, w_el (by omega)]
    exact mono i
  · have s0 : st0 ((List.range n).map w) s = n - s := by unfold st0; rw [ln]
    rw [ln, s0, w_el (by omega), w_el (by omega)]
    have p := per 0
    have m := w_mono mono (show n - 1 ≤ n - s + 0 + s by omega)
    rw [p] at m
    exact m
/-- a stair of the function's first heights -/
theorem make_w (mono : ∀ x, w x ≤ w (x + 1)) (nn : 0 ≤ w 0) (s1 : 1 ≤ s) (sn : s ≤ n) (per : ∀ d, w (n - s + d + s) = w (n - s + d) + r) (hn : n ≤ 600) (hr : r.natAbs < 2 ^ 900) :
    ∃ a : Nf, a.ok ∧ F_Stair_init [.lst ((List.range n).map fun x => .int (w x)), .int s, .int r] = .ok a.O ∧ (∀ x, a.val x = some (w x)) ∧ a.st ≤ n - s ∧ a.stp ≤ s ∧ a.ri.isSome := by
  have g := w_good mono nn s1 sn per
  have ln : ((List.range n).map w).length = n := by simp
  obtain ⟨p, u, lt⟩ := least_ex g.F
  have sle := stN_le (hs := (List.range n).map w) (s := s) (p := p) (u := u)
  have ple := lt.le
  have hst : st0 ((List.range n).map w) s = n - s := by unfold st0; rw [ln]
  have hl : stN ((List.range n).map w) s p u + p ≤ 600 := by omega
  obtain ⟨h1, h2, h3⟩ := num_nf g hr lt hl
  refine ⟨.num _ p u, h1, ?_, fun x => ?_, ?_, ple, rfl⟩
  · have := num_made g hr (by omega) lt hl
    rw [List.map_map] at this
    exact this
  · show some _ = _
    rw [h2, w_fv s1 sn per]
  · show (((List.range n).map w).take _).length - p ≤ n - s
    rw [h3]
    omega
/-- one that ends in None -/
theorem make_n (mono : ∀ x, x + 1 < n → w x ≤ w (x + 1)) (nn : ∀ x < n, 0 ≤ w x) (hn : n < 600) :
    ∃ a : Nf, a.ok ∧ F_Stair_init [.lst ((List.range n).map (fun x => .int (w x)) ++ [.non]), .int 1, .non] = .ok a.O ∧ (∀ x, a.val x = if x < n then some (w x) else none) ∧ a.ri = none := by
  have ln : ((List.range n).map w).length = n := by simp
  have m : Mono ((List.range n).map w) := by
    refine ⟨fun i hi => ?_, fun i hi => ?_⟩
    · rw [ln] at hi
      rw [w_el hi]
      exact nn i hi
    · rw [ln] at hi
      rw [w_el hi, w_el (by omega)]
      exact mono i hi
  refine ⟨.non ((List.range n).map w), ⟨m, by omega⟩, ?_, fun x => ?_, rfl⟩
  · have := non_made (c := 0) (s := 1) m (by omega) (by omega) (by omega)
    rw [List.replicate_zero] at this
    have e : hP (((List.range n).map w).map some ++ [none]) = (List.range n).map (fun x => PV.int (w x)) ++ [.non] := by
      unfold hP
      rw [List.map_append, List.map_map, List.map_map]
      rfl
    rw [e] at this
    exact this
  · show (if x < ((List.range n).map w).length then some (el ((List.range n).map w) x) else none) = _
    rw [ln]
    split
    · rename_i h
      rw [w_el h]
    · rfl
end
/-- heights below 0 or falling -/
theorem made_bad {l : Hs} {s r : PV} (h : F_check_heights [.lst (hP l), s, r] = .er badS) : F_Stair_init [.lst (hP l), s, r] = .er badS := init_bad h
section
variable {H : List Int} {p : Nat} {u : Int}
theorem NumOk.step (h : NumOk H p u) {x : Nat} (hx : H.length - p ≤ x) : fv H p u (x + p) = fv H p u x + u := by
  have := fv_step h.g.F (x - (H.length - p))
  unfold st0 at this
  rw [show H.length - p + (x - (H.length - p)) = x by omega] at this
  exact this
theorem NumOk.steps (h : NumOk H p u) {x : Nat} (hx : H.length - p ≤ x) (k : Nat) : fv H p u (x + p * k) = fv H p u x + k * u := by
  have := fv_steps h.g.F (x - (H.length - p)) k
  unfold st0 at this
  rw [show H.length - p + (x - (H.length - p)) = x by omega] at this
  exact this
end
end K02

end
section
/-! joined by forms -/
namespace K02
open PySem L2 L3
local macro_rules | `(tactic| walk_at "d") => `(tactic| first | assumption | omega | (simp only [szl, repP_length, List.length_map, List.length_append, List.length_cons, List.length_nil, List.length_range, List.length_replicate, rngP_length, List.length_set]; omega) | exact Eq.refl _ | (simp; done) | decide)
def lessO : Option Int → Option Int → Option Int
  | none, y => y
  | x, none => x
  | some x, some y => some (if x ≤ y then x else y)
def greatO : Option Int → Option Int → Option Int
  | none, _ => none
  | _, none => none
  | some x, some y => some (if y ≤ x then x else y)
def addO : Option Int → Option Int → Option Int
  | none, _ => none
  | _, none => none
  | some x, some y => some (x + y)
theorem lesser_ok {x y : Option Int} : F_lesser [o2p x, o2p y] = .ok (.sh (o2p (lessO x y))) := by
  rw [F_lesser_at]
  unfold s_lesser
  cases x with
  | none => simp [lessO]
  | some x =>
    cases y with
    | none => simp [lessO]
    | some y =>
      by_cases c : x ≤ y
      · simp [lessO, c]
      · simp [lessO, c]
theorem greater_ok {x y : Option Int} : F_greater [o2p x, o2p y] = .ok (.sh (o2p (greatO x y))) := by
  rw [F_greater_at]
  unfold s_greater
  cases x with
  | none => simp [greatO]
  | some x =>
    cases y with
    | none => simp [greatO]
    | some y =>
      by_cases c : y ≤ x
      · simp [greatO, c]
      · simp [greatO, c]
theorem added_ok {x : Option Int} {n : Int} : F_added [o2p x, .int n] = .ok (.sh (o2p (x.map (· + n)))) := by
  rw [F_added_at]
  unfold s_added
  cases x <;> simp
theorem sum_at_ok {a b : Nf} (ha : a.ok) (hb : b.ok) {x : Nat} (hx : x ≤ 10 ^ 60) : F_sum_at [a.P, b.P, .int x] = .ok (.sh (o2p (addO (a.val x) (b.val x)))) := by
  have e1 := a.at_ok ha hx
  have e2 := b.at_ok hb hx
  rw [F_sum_at_at]
  unfold s_sum_at
  generalize a.val x = p at *
  generalize b.val x = q at *
  unfold Nf.P stP at *
  cases q with
  | none => cases p <;> simp (disch := walk_at "d") [e2, addO]
  | some q =>
    have ad := added_ok (x := p) (n := q)
    have e : p.map (· + q) = addO p (some q) := by cases p <;> rfl
    rw [e] at ad
    simp only [o2p_some] at e2
    simp (disch := walk_at "d") [e1, e2, ad]
theorem isi_st {a : Nf} : isiP tb_Stair ic_Stair a.P = .ok (.bl true) := rfl
section
variable {a b : Nf} {n : Nat}
theorem and_lc (ha : a.ok) (hb : b.ok) (hn : n ≤ 1000) {x3 x4 : Option OV} : fLc (.nm 5) [5] (iRg rng1R (aCons (eVar 2) aNil)) tYesB c_Stair_and_1 [some (.sh a.P), some (.sh b.P), some (.sh (.int n)), x3, x4, none] = .ok (.own ((List.range n).map fun x => .sh (o2p (lessO (a.val x) (b.val x))))) := by
  refine fLc_at (ps := rngP 0 n) (by simp (disch := walk_at "d")) (by simp [szl]; omega) ?_
  rw [rngP_eq]
  refine lcGo_map (f := fun (k : Nat) => PV.int (0 + (k : Int))) _ fun x hx => ?_
  have hx : x < n := by simpa using hx
  have e1 := a.at_ok ha (x := x) (by omega)
  have e2 := b.at_ok hb (x := x) (by omega)
  have l := lesser_ok (x := a.val x) (y := b.val x)
  unfold c_Stair_and_1
  unfold Nf.P stP at *
  simp (disch := walk_at "d") [e1, e2, l]
theorem or_lc (ha : a.ok) (hb : b.ok) (hn : n ≤ 1000) {x3 x4 : Option OV} : fLc (.nm 5) [5] (iRg rng1R (aCons (eVar 2) aNil)) tYesB c_Stair_or_1 [some (.sh a.P), some (.sh b.P), some (.sh (.int n)), x3, x4, none] = .ok (.own ((List.range n).map fun x => .sh (o2p (greatO (a.val x) (b.val x))))) := by
  refine fLc_at (ps := rngP 0 n) (by simp (disch := walk_at "d")) (by simp [szl]; omega) ?_
  rw [rngP_eq]
  refine lcGo_map (f := fun (k : Nat) => PV.int (0 + (k : Int))) _ fun x hx => ?_
  have hx : x < n := by simpa using hx
  have e1 := a.at_ok ha (x := x) (by omega)
  have e2 := b.at_ok hb (x := x) (by omega)
  have l := greater_ok (x := a.val x) (y := b.val x)
  unfold c_Stair_or_1
  unfold Nf.P stP at *
  simp (disch := walk_at "d") [e1, e2, l]
theorem sum_lc (ha : a.ok) (hb : b.ok) (hn : n ≤ 1000) {x3 x4 x5 : Option OV} : fLc (.nm 6) [6] (iRg rng1R (aCons (eVar 2) aNil)) tYesB c_Stair_add_2 [some (.sh a.P), some (.sh b.P), some (.sh (.int n)), x3, x4, x5, none] = .ok (.own ((List.range n).map fun x => .sh (o2p (addO (a.val x) (b.val x))))) := by
  refine fLc_at (ps := rngP 0 n) (by simp (disch := walk_at "d")) (by simp [szl]; omega) ?_
  rw [rngP_eq]
  refine lcGo_map (f := fun (k : Nat) => PV.int (0 + (k : Int))) _ fun x hx => ?_
  have hx : x < n := by simpa using hx
  have e := sum_at_ok ha hb (x := x) (by omega)
  unfold c_Stair_add_2
  simp (disch := walk_at "d") [e]
variable {s : Nat} {r : Option Int} {c : Nf}
/-- a form is told: the stair is made -/
theorem and_of (ha : a.ok) (hb : b.ok) (hn : n ≤ 1000) (hf : F_lesser_form [a.P, b.P] = .ok (.sh (.tup [.int n, .int s, o2p r]))) (hi : F_Stair_init [.lst ((List.range n).map fun x => o2p (lessO (a.val x) (b.val x))), .int s, o2p r] = .ok c.O) : F_Stair_and [a.P, b.P] = .ok (.obj 4 c.O) := by
  have lc := fun x3 x4 => and_lc ha hb hn (x3 := x3) (x4 := x4)
  have is := isi_st (a := b)
  have cp : (capR true (.ok (.obj 4 c.O)) : R OV) = .ok (.obj 4 c.O) := capR_flat c.flat
  rw [F_Stair_and_at]
  unfold s_Stair_and
  simp (disch := walk_at "d") [lc, is, hf, hi, cp]
theorem or_of (ha : a.ok) (hb : b.ok) (hn : n ≤ 1000) (hf : F_greater_form [a.P, b.P] = .ok (.sh (.tup [.int n, .int s, o2p r]))) (hi : F_Stair_init [.lst ((List.range n).map fun x => o2p (greatO (a.val x) (b.val x))), .int s, o2p r] = .ok c.O) : F_Stair_or [a.P, b.P] = .ok (.obj 4 c.O) := by
  have lc := fun x3 x4 => or_lc ha hb hn (x3 := x3) (x4 := x4)
  have is := isi_st (a := b)
  have cp : (capR true (.ok (.obj 4 c.O)) : R OV) = .ok (.obj 4 c.O) := capR_flat c.flat
  rw [F_Stair_or_at]
  unfold s_Stair_or
  simp (disch := walk_at "d") [lc, is, hf, hi, cp]
theorem isi_int {a : Nf} : isiP (tbT "int") ibc_int a.P = .ok (.bl false) := by
  unfold Nf.P stP
  simp
theorem sum_of (ha : a.ok) (hb : b.ok) (hn : n ≤ 1000) (hf : F_sum_form [a.P, b.P] = .ok (.sh (.tup [.int n, .int s, o2p r]))) (hi : F_Stair_init [.lst ((List.range n).map fun x => o2p (addO (a.val x) (b.val x))), .int s, o2p r] = .ok c.O) : F_Stair_add [a.P, b.P] = .ok (.obj 4 c.O) := by
  have lc := fun x3 x4 x5 => sum_lc ha hb hn (x3 := x3) (x4 := x4) (x5 := x5)
  have is := isi_st (a := b)
  have i2 := isi_int (a := b)
  have cp : (capR true (.ok (.obj 4 c.O)) : R OV) = .ok (.obj 4 c.O) := capR_flat c.flat
  rw [F_Stair_add_at]
  unfold s_Stair_add
  simp (disch := walk_at "d") [lc, is, i2, hf, hi, cp]
end
end K02

end
section
/-! common steps, crossings -/
namespace K02
open PySem L2 L3
local macro_rules | `(tactic| walk_at "d") => `(tactic| first | assumption | omega | (simp only [szl, repP_length, List.length_map, List.length_append, List.length_cons, List.length_nil, List.length_range, List.length_replicate, rngP_length, List.length_set]; omega) | exact Eq.refl _ | (simp; done) | decide)
section
variable {H K : List Int} {p q : Nat} {u v : Int}
/-- the common step -/
theorem lcm_pos (hp : 1 ≤ p) (hq : 1 ≤ q) : 1 ≤ Nat.lcm p q := Nat.lcm_pos hp hq
theorem lcm_le (hp : p ≤ 600) (hq : q ≤ 600) : Nat.lcm p q ≤ 360000 := Nat.le_trans (Nat.div_le_self _ _) (Nat.mul_le_mul hp hq)
theorem lcm_l : p * (Nat.lcm p q / p) = Nat.lcm p q := Nat.mul_div_cancel' (Nat.dvd_lcm_left p q)
theorem lcm_r : q * (Nat.lcm p q / q) = Nat.lcm p q := Nat.mul_div_cancel' (Nat.dvd_lcm_right p q)
theorem NumOk.b (h : NumOk H p u) : 1 ≤ p ∧ p ≤ 600 ∧ H.length - p + p = H.length := ⟨h.g.F.s1, by have := h.g.F.sl; have := h.len; omega, by have := h.g.F.sl; omega⟩
theorem NumOk.lcmL (h : NumOk H p u) {x : Nat} (hx : H.length - p ≤ x) : fv H p u (x + Nat.lcm p q) = fv H p u x + (Nat.lcm p q / p : Nat) * u := by
  have := h.steps hx (Nat.lcm p q / p)
  rwa [lcm_l] at this
theorem NumOk.lcmR (h : NumOk K q v) {x : Nat} (hx : K.length - q ≤ x) : fv K q v (x + Nat.lcm p q) = fv K q v x + (Nat.lcm p q / q : Nat) * v := by
  have := h.steps hx (Nat.lcm p q / q)
  rwa [lcm_r] at this
theorem rise_eq (hp : 1 ≤ p) (hq : 1 ≤ q) (h : u * q = v * p) : ((Nat.lcm p q / p : Nat) : Int) * u = (Nat.lcm p q / q : Nat) * v := by
  have e1 : ((p : Int)) * (Nat.lcm p q / p : Nat) = Nat.lcm p q := by rw [← Int.natCast_mul, lcm_l]
  have e2 : ((q : Int)) * (Nat.lcm p q / q : Nat) = Nat.lcm p q := by rw [← Int.natCast_mul, lcm_r]
  generalize ((Nat.lcm p q / p : Nat) : Int) = A at *
  generalize ((Nat.lcm p q / q : Nat) : Int) = B at *
  generalize ((Nat.lcm p q : Nat) : Int) = L at *
  have : (q : Int) * (A * u) = q * (B * v) := by
    calc (q : Int) * (A * u) = A * (u * q) := by rw [Int.mul_comm (q : Int), Int.mul_assoc]
      _ = A * (v * p) := by rw [h]
      _ = v * (p * A) := by rw [Int.mul_comm A, Int.mul_assoc]
      _ = v * (q * B) := by rw [e1, e2]
      _ = q * (B * v) := by rw [Int.mul_comm v, Int.mul_assoc]
  exact Int.eq_of_mul_eq_mul_left (by omega) this
theorem gain_pos (hp : 1 ≤ p) (hq : 1 ≤ q) (h : u * q < v * p) : ((Nat.lcm p q / p : Nat) : Int) * u < (Nat.lcm p q / q : Nat) * v := by
  have e1 : ((p : Int)) * (Nat.lcm p q / p : Nat) = Nat.lcm p q := by rw [← Int.natCast_mul, lcm_l]
  have e2 : ((q : Int)) * (Nat.lcm p q / q : Nat) = Nat.lcm p q := by rw [← Int.natCast_mul, lcm_r]
  have lp := lcm_pos hp hq
  have ap : 0 < ((Nat.lcm p q / p : Nat) : Int) := by
    have : 0 < Nat.lcm p q / p := Nat.div_pos (Nat.le_of_dvd lp (Nat.dvd_lcm_left p q)) hp
    omega
  generalize ((Nat.lcm p q / p : Nat) : Int) = A at *
  generalize ((Nat.lcm p q / q : Nat) : Int) = B at *
  generalize ((Nat.lcm p q : Nat) : Int) = L at *
  have : (q : Int) * (A * u) < q * (B * v) := by
    calc (q : Int) * (A * u) = A * (u * q) := by rw [Int.mul_comm (q : Int), Int.mul_assoc]
      _ < A * (v * p) := Int.mul_lt_mul_of_pos_left h ap
      _ = v * (p * A) := by rw [Int.mul_comm A, Int.mul_assoc]
      _ = v * (q * B) := by rw [e1, e2]
      _ = q * (B * v) := by rw [Int.mul_comm v, Int.mul_assoc]
  exact Int.lt_of_mul_lt_mul_left this (by omega)
end
/-! the last crossing -/
def gap (a b : Nat → Int) (x : Nat) : Int := a x - b x
def lcStp (f g : Nat → Int) (M L : Nat) (gain : Int) (last : Int) (k : Nat) : Int := if 0 < gap f g (M + k) then (if (M + k : Nat) + (gap f g (M + k) - 1) / gain * L > last then (M + k : Nat) + (gap f g (M + k) - 1) / gain * L else last) else last
structure LcI (f g : Nat → Int) (M L : Nat) (gain B : Int) (k : Nat) (last : Int) : Prop where
  lo : last = -1 ∨ (M : Int) ≤ last
  hi : last ≤ B
  al : ∀ j < k, 0 < gap f g (M + j) → (M + j : Nat) + (gap f g (M + j) - 1) / gain * L ≤ last
theorem lc_step {f g : Nat → Int} {M L : Nat} {gain B last : Int} {k : Nat} (hg : 0 < gain) (hB : ∀ j < L, 0 < gap f g (M + j) → (M + j : Nat) + (gap f g (M + j) - 1) / gain * L ≤ B) (hk : k < L) (h : LcI f g M L gain B k last) : LcI f g M L gain B (k + 1) (lcStp f g M L gain last k) := by
  have lo := h.lo
  have hi := h.hi
  unfold lcStp
  by_cases c : 0 < gap f g (M + k)
  · rw [if_pos c]
    have b := hB k hk c
    have nn : 0 ≤ (gap f g (M + k) - 1) / gain * L := Int.mul_nonneg (Int.ediv_nonneg (by omega) (by omega)) (by omega)
    split
    · rename_i d
      refine ⟨.inr (by omega), b, fun j hj hc => ?_⟩
      by_cases e : j = k
      · subst e; exact Int.le_refl _
      · have := h.al j (by omega) hc
        omega
    · rename_i d
      refine ⟨lo, hi, fun j hj hc => ?_⟩
      by_cases e : j = k
      · subst e; omega
      · exact h.al j (by omega) hc
  · rw [if_neg c]
    refine ⟨lo, hi, fun j hj hc => ?_⟩
    by_cases e : j = k
    · subst e; exact absurd hc c
    · exact h.al j (by omega) hc
/-- behind the last crossing -/
theorem lc_end {f g : Nat → Int} {M L : Nat} {gain B last : Int} (hL : 1 ≤ L) (hg : 0 < gain) (per : ∀ x, M ≤ x → gap f g (x + L) = gap f g x - gain) (h : LcI f g M L gain B L last) : ∀ x, M ≤ x → last < x → f x ≤ g x := by
  have key : ∀ (k j : Nat), gap f g (M + j + L * k) = gap f g (M + j) - k * gain := by
    intro k j
    induction k with
    | zero => simp
    | succ k ih =>
      have := per (M + j + L * k) (by omega)
      rw [show M + j + L * k + L = M + j + L * (k + 1) by rw [Nat.mul_add]; omega, ih] at this
      rw [this]
      have : ((k + 1 : Nat) : Int) * gain = k * gain + gain := by rw [Int.natCast_add, Int.add_mul]; simp
      rw [this]
      omega
  intro x hx hl
  have dm := Nat.div_add_mod (x - M) L
  have ml := Nat.mod_lt (x - M) (show 0 < L by omega)
  have e := key ((x - M) / L) ((x - M) % L)
  rw [show M + (x - M) % L + L * ((x - M) / L) = x by omega] at e
  generalize hk : (x - M) / L = k at *
  generalize hj : (x - M) % L = j at *
  have nk : 0 ≤ (k : Int) * gain := Int.mul_nonneg (by omega) (by omega)
  by_cases c : 0 < gap f g (M + j)
  · have a := h.al j ml c
    have lt : (gap f g (M + j) - 1) / gain < k := by
      have h1 : (gap f g (M + j) - 1) / gain * L < k * L := by
        have : ((L * k : Nat) : Int) = (k : Int) * L := by rw [Int.natCast_mul, Int.mul_comm]
        omega
      exact Int.lt_of_mul_lt_mul_right h1 (by omega)
    have := (Int.ediv_lt_iff_lt_mul hg).mp lt
    unfold gap at *
    omega
  · unfold gap at *
    omega
end K02

end
section
/-! the last crossing -/
namespace K02
open PySem L2 L3
local macro_rules | `(tactic| walk_at "d") => `(tactic| first | assumption | omega | (simp only [szl, repP_length, List.length_map, List.length_append, List.length_cons, List.length_nil, List.length_range, List.length_replicate, rngP_length, List.length_set]; omega) | exact Eq.refl _ | (simp; done) | decide)
@[simp] theorem st_num_P {H : List Int} {p : Nat} {u : Int} : (Nf.num H p u).P = stP (hP (H.map some)) ((H.length - p : Nat) : Int) p (some u) := nr rfl
@[simp] theorem st_non_P {H : List Int} : (Nf.non H).P = stP (hP (H.map some ++ [none])) (H.length : Nat) ((1 : Nat) : Int) none := nr rfl
@[simp] theorem st_pv {l : List PV} {b p : Int} {u : Option Int} : stP l b p u = .ins 4 (stF l b p u) := nr rfl
def mx (a b : Nat) : Nat := if a < b then b else a
theorem mx_int {a b : Nat} : bMax [.int (a : Int), .int (b : Int)] = .ok (.int (mx a b : Nat)) := by
  rw [max_int]
  unfold mx
  by_cases c : a < b
  · rw [if_pos c, if_pos (by omega)]
  · rw [if_neg c, if_neg (by omega)]
theorem mx_le {a b : Nat} : a ≤ mx a b ∧ b ≤ mx a b := by unfold mx; split <;> omega
theorem mx_max {a b n : Nat} (h1 : a ≤ n) (h2 : b ≤ n) : mx a b ≤ n := by unfold mx; split <;> omega
section
variable {H K : List Int} {p q : Nat} {u v : Int}
def mS (H K : List Int) (p q : Nat) : Nat := mx (H.length - p) (K.length - q)
def gn (p q : Nat) (u v : Int) : Int := v * (Nat.lcm p q / q : Nat) - u * (Nat.lcm p q / p : Nat)
def lcEnv (a b : PV) (L : Nat) (g last : Int) (M : Nat) : L3.Env := [some (.sh a), some (.sh b), some (.sh (.int L)), some (.sh (.int g)), some (.sh (.int last)), some (.sh (.int M)), none, none]
theorem lcL {p q : Nat} (hp : p ≤ 600) (hq : q ≤ 600) : bLcm [.int (p : Int), .int (q : Int)] = .ok (.int (Nat.lcm p q : Nat)) := by
  rw [lcm_int (by omega) (by omega)]
  simp
theorem divL {L p : Nat} (hp : 1 ≤ p) (h : p ≤ 600) : pyFdiv (.int (L : Int)) (.int (p : Int)) = .ok (.int ((L / p : Nat) : Int)) := by
  rw [fdiv_int (by omega) (by omega)]
  simp
theorem lc_turn (ha : NumOk H p u) (hb : NumOk K q v) {L M k : Nat} {g last : Int} (hL : L ≤ 360000) (hM : M ≤ 600) (hk : k < L) (hg : 0 < g) (hg2 : g < 2 ^ 200) : Turn (.nm 6) [6, 7] b_last_crossing_1 (.int ((M : Int) + (k : Int))) (lcEnv (Nf.num H p u).P (Nf.num K q v).P L g last M) (lcEnv (Nf.num H p u).P (Nf.num K q v).P L g (lcStp (fv H p u) (fv K q v) M L g last k) M) := by
  have e1 := (Nf.num H p u).at_ok ha (x := M + k) (by omega)
  have e2 := (Nf.num K q v).at_ok hb (x := M + k) (by omega)
  have v1 : (Nf.num H p u).val (M + k) = some (fv H p u (M + k)) := rfl
  have v2 : (Nf.num K q v).val (M + k) = some (fv K q v (M + k)) := rfl
  rw [v1, o2p_some, show (((M + k : Nat) : Int)) = (M : Int) + k by omega] at e1
  rw [v2, o2p_some, show (((M + k : Nat) : Int)) = (M : Int) + k by omega] at e2
  refine .of ?_
  unfold b_last_crossing_1 lcEnv lcStp gap
  simp only [st_num_P, st_pv] at *
  generalize fv H p u (M + k) = x at *
  generalize fv K q v (M + k) = y at *
  rw [show (((M + k : Nat) : Int)) = (M : Int) + k by omega]
  by_cases c : y < x
  · simp (disch := walk_at "d") [e1, e2, c]
  · simp (disch := walk_at "d") [e1, e2, c]
theorem last_ok (ha : NumOk H p u) (hb : NumOk K q v) (hu : u ≤ 1000000) (hv : v ≤ 1000000) (hlt : u * q < v * p) {B : Int} (h1 : -1 ≤ B)
    (hB : ∀ j < Nat.lcm p q, 0 < gap (fv H p u) (fv K q v) (mS H K p q + j) → (mS H K p q + j : Nat) + (gap (fv H p u) (fv K q v) (mS H K p q + j) - 1) / gn p q u v * (Nat.lcm p q : Nat) ≤ B) :
    ∃ last, F_last_crossing [(Nf.num H p u).P, (Nf.num K q v).P] = .ok (.sh (.int last)) ∧ LcI (fv H p u) (fv K q v) (mS H K p q) (Nat.lcm p q) (gn p q u v) B (Nat.lcm p q) last := by
  have pb := ha.b
  have qb := hb.b
  have al := ha.len
  have bl := hb.len
  have u0 := ha.g.u0
  have v0 := hb.g.u0
  have L1 := lcm_pos pb.1 qb.1
  have L2 := lcm_le pb.2.1 qb.2.1
  have gp : 0 < gn p q u v := by
    have := gain_pos (u := u) (v := v) pb.1 qb.1 hlt
    unfold gn
    rw [Int.mul_comm v, Int.mul_comm u]
    omega
  have dl : Nat.lcm p q / q ≤ 360000 := Nat.le_trans (Nat.div_le_self _ _) L2
  have dl2 : Nat.lcm p q / p ≤ 360000 := Nat.le_trans (Nat.div_le_self _ _) L2
  have gb : gn p q u v < 2 ^ 200 := by
    unfold gn
    have a1 : v * ((Nat.lcm p q / q : Nat) : Int) ≤ 1000000 * 360000 := Int.mul_le_mul hv (Int.ofNat_le.mpr dl) (Int.natCast_nonneg _) (by omega)
    have a2 : 0 ≤ u * ((Nat.lcm p q / p : Nat) : Int) := Int.mul_nonneg u0 (Int.natCast_nonneg _)
    omega
  have Mb : mS H K p q ≤ 600 := mx_max (by omega) (by omega)
  have lcm := lcL pb.2.1 qb.2.1
  have d1 := divL (L := Nat.lcm p q) pb.1 pb.2.1
  have d2 := divL (L := Nat.lcm p q) qb.1 qb.2.1
  have m := mx_int (a := H.length - p) (b := K.length - q)
  have fm : mx (H.length - p) (K.length - q) = mS H K p q := rfl
  rw [fm] at m
  have fg : v * ((Nat.lcm p q / q : Nat) : Int) - u * ((Nat.lcm p q / p : Nat) : Int) = gn p q u v := rfl
  generalize mS H K p q = M at *
  generalize gn p q u v = g at *
  generalize Nat.lcm p q = L at *
  generalize L / q = A at *
  generalize L / p = C at *
  have key := forGo_foldN (T := .nm 6) (fg := [6, 7]) (fb := b_last_crossing_1) (f := fun (k : Nat) => PV.int ((M : Int) + (k : Int))) (fun last => lcEnv (Nf.num H p u).P (Nf.num K q v).P L g last M) (lcStp (fv H p u) (fv K q v) M L g) (fun k last => LcI (fv H p u) (fv K q v) M L g B k last ∧ k ≤ L) (List.range L) 0 (-1) ⟨⟨.inl rfl, h1, fun j hj => by omega⟩, by omega⟩ fun j x b hx h => by
    obtain ⟨hj, rfl⟩ := List.getElem?_eq_some_iff.mp hx
    rw [List.length_range] at hj
    rw [List.getElem_range]
    rw [Nat.zero_add] at h ⊢
    exact ⟨⟨lc_step gp hB hj h.1, by omega⟩, lc_turn ha hb L2 Mb hj gp gb⟩
  rw [← rngP_eq] at key
  have k2 := key.2.1
  rw [Nat.zero_add, List.length_range] at k2
  have lp := key.1
  clear key
  generalize (List.range L).foldl (lcStp (fv H p u) (fv K q v) M L g) (-1) = last at *
  refine ⟨last, ?_, k2⟩
  unfold lcEnv at lp
  simp only [st_num_P, st_pv] at *
  rw [F_last_crossing_at]
  unfold s_last_crossing
  have tn : ((M : Int) + (L : Int) - (M : Int)).toNat = L := by omega
  simp (disch := walk_at "d") [lcm, d1, d2, m, fg, lp, tn, -max_int]
end
end K02

end
section
/-! forms of two -/
namespace K02
open PySem L2 L3
local macro_rules | `(tactic| walk_at "d") => `(tactic| first | assumption | omega | (simp only [szl, repP_length, List.length_map, List.length_append, List.length_cons, List.length_nil, List.length_range, List.length_replicate, rngP_length, List.length_set]; omega) | exact Eq.refl _ | (simp; done) | decide)
section
variable {H K : List Int} {p q : Nat} {u v : Int}
theorem mS_comm : mS H K p q = mS K H q p := by
  unfold mS mx
  split <;> split <;> omega
theorem cross_ok (ha : NumOk H p u) (hb : NumOk K q v) (hu : u ≤ 1000000) (hv : v ≤ 1000000) (hlt : u * q < v * p) {B : Int} (h1 : -1 ≤ B)
    (hB : ∀ j < Nat.lcm p q, 0 < gap (fv H p u) (fv K q v) (mS H K p q + j) → (mS H K p q + j : Nat) + (gap (fv H p u) (fv K q v) (mS H K p q + j) - 1) / gn p q u v * (Nat.lcm p q : Nat) ≤ B) :
    ∃ n0 : Nat, mS H K p q ≤ n0 ∧ (∀ x, n0 ≤ x → fv H p u x ≤ fv K q v x) ∧ (n0 = mS H K p q ∨ (n0 : Int) ≤ B + 1) ∧ ∀ (J : List Int) (t : Nat) (w : Int), t ≤ 600 → n0 + t ≤ 600 → F_crossed_form [(Nf.num H p u).P, (Nf.num K q v).P, (Nf.num J t w).P] = .ok (.sh (.tup [.int ((n0 + t : Nat) : Int), .int t, .int w])) := by
  obtain ⟨last, e, I⟩ := last_ok ha hb hu hv hlt h1 hB
  have pb := ha.b
  have qb := hb.b
  have gp : 0 < gn p q u v := by
    have := gain_pos (u := u) (v := v) pb.1 qb.1 hlt
    unfold gn
    rw [Int.mul_comm v, Int.mul_comm u]
    omega
  have en := lc_end (f := fv H p u) (g := fv K q v) (M := mS H K p q) (L := Nat.lcm p q) (lcm_pos pb.1 qb.1) gp (fun x hx => by
    have m := mx_le (a := H.length - p) (b := K.length - q)
    have fm : mx (H.length - p) (K.length - q) = mS H K p q := rfl
    rw [fm] at m
    have a1 := ha.lcmL (q := q) (x := x) (by omega)
    have a2 := hb.lcmR (p := p) (x := x) (by omega)
    unfold gap gn
    rw [a1, a2, Int.mul_comm v, Int.mul_comm u]
    omega) I
  have lo := I.lo
  have hi := I.hi
  have m := mx_int (a := H.length - p) (b := K.length - q)
  have fm : mx (H.length - p) (K.length - q) = mS H K p q := rfl
  rw [fm] at m
  generalize mS H K p q = M at *
  by_cases c : last < 0
  · refine ⟨M, Nat.le_refl _, fun x hx => en x hx (by omega), .inl rfl, fun J t w ht hn => ?_⟩
    simp only [st_num_P, st_pv] at *
    rw [F_crossed_form_at]
    unfold s_crossed_form
    simp (disch := walk_at "d") [e, c, m, -max_int]
  · refine ⟨(last + 1).toNat, by omega, fun x hx => en x (by omega) (by omega), .inr (by omega), fun J t w ht hn => ?_⟩
    have c2 : ¬ (600 : Int) < last + 1 + t := by omega
    have e2 : (((last + 1).toNat + t : Nat) : Int) = last + 1 + t := by omega
    rw [e2]
    simp only [st_num_P, st_pv] at *
    rw [F_crossed_form_at]
    unfold s_crossed_form
    simp (disch := walk_at "d") [e, c, c2]
/-- equal paces -/
theorem both_eq (ha : NumOk H p u) (hb : NumOk K q v) (he : u * q = v * p) {k : Bool} : F_both_form [(Nf.num H p u).P, (Nf.num K q v).P, .bl k] = .ok (.sh (.tup [.int ((mS H K p q + Nat.lcm p q : Nat) : Int), .int (Nat.lcm p q : Nat), .int (u * (Nat.lcm p q / p : Nat))])) := by
  have pb := ha.b
  have qb := hb.b
  have lcm := lcL pb.2.1 qb.2.1
  have L2 := lcm_le pb.2.1 qb.2.1
  have d1 := divL (L := Nat.lcm p q) pb.1 pb.2.1
  have m := mx_int (a := H.length - p) (b := K.length - q)
  have fm : mx (H.length - p) (K.length - q) = mS H K p q := rfl
  rw [fm] at m
  have dl2 : Nat.lcm p q / p ≤ 360000 := Nat.le_trans (Nat.div_le_self _ _) L2
  generalize mS H K p q = M at *
  generalize Nat.lcm p q = L at *
  generalize L / p = A at *
  have z : u * q - v * p = 0 := by omega
  simp only [st_num_P, st_pv] at *
  rw [F_both_form_at]
  unfold s_both_form
  simp (disch := walk_at "d") [z, lcm, d1, m, -max_int]
theorem both_one (ha : NumOk H p u) (hb : NumOk K q v) (hlt : u * q < v * p) {k : Bool} {z : PV} (h : F_crossed_form [(Nf.num H p u).P, (Nf.num K q v).P, if k = true then (Nf.num H p u).P else (Nf.num K q v).P] = .ok (.sh z)) : F_both_form [(Nf.num H p u).P, (Nf.num K q v).P, .bl k] = .ok (.sh z) := by
  have pb := ha.b
  have qb := hb.b
  have c1 : ¬ u * q - v * p = 0 := by omega
  have c2 : ¬ 0 < u * q - v * p := by omega
  have c3 : ¬ v * p < u * q := by omega
  rw [F_both_form_at]
  unfold s_both_form
  simp only [st_num_P, st_pv] at *
  cases k with
  | true => simp only [if_true] at h; simp (disch := walk_at "d") [c1, c2, c3, h]
  | false => simp only [Bool.false_eq_true, if_false] at h; simp (disch := walk_at "d") [c1, c2, c3, h]
theorem both_two (ha : NumOk H p u) (hb : NumOk K q v) (hlt : v * p < u * q) {k : Bool} {z : PV} (h : F_crossed_form [(Nf.num K q v).P, (Nf.num H p u).P, if k = true then (Nf.num K q v).P else (Nf.num H p u).P] = .ok (.sh z)) : F_both_form [(Nf.num H p u).P, (Nf.num K q v).P, .bl k] = .ok (.sh z) := by
  have pb := ha.b
  have qb := hb.b
  have c1 : ¬ u * q - v * p = 0 := by omega
  have c2 : 0 < u * q - v * p := by omega
  have c3 : v * p < u * q := by omega
  rw [F_both_form_at]
  unfold s_both_form
  simp only [st_num_P, st_pv] at *
  cases k with
  | true => simp only [if_true] at h; simp (disch := walk_at "d") [c1, c2, c3, h]
  | false => simp only [Bool.false_eq_true, if_false] at h; simp (disch := walk_at "d") [c1, c2, c3, h]
end
end K02

end
section
/-! two stairs of numbers -/
namespace K02
open PySem L2 L3
local macro_rules | `(tactic| walk_at "d") => `(tactic| first | assumption | omega | (simp only [szl, repP_length, List.length_map, List.length_append, List.length_cons, List.length_nil, List.length_range, List.length_replicate, rngP_length, List.length_set]; omega) | exact Eq.refl _ | (simp; done) | decide)
def mn (x y : Int) : Int := if x ≤ y then x else y
def mxI (x y : Int) : Int := if y ≤ x then x else y
theorem mn_l {x y : Int} (h : x ≤ y) : mn x y = x := if_pos h
theorem mn_r {x y : Int} (h : y ≤ x) : mn x y = y := by unfold mn; split <;> omega
theorem mxI_l {x y : Int} (h : y ≤ x) : mxI x y = x := if_pos h
theorem mxI_r {x y : Int} (h : x ≤ y) : mxI x y = y := by unfold mxI; split <;> omega
theorem mn_add {x y r : Int} : mn (x + r) (y + r) = mn x y + r := by unfold mn; split <;> split <;> omega
theorem mxI_add {x y r : Int} : mxI (x + r) (y + r) = mxI x y + r := by unfold mxI; split <;> split <;> omega
theorem mn_mono {x y x' y' : Int} (h : x ≤ x') (h' : y ≤ y') : mn x y ≤ mn x' y' := by unfold mn; split <;> split <;> omega
theorem mxI_mono {x y x' y' : Int} (h : x ≤ x') (h' : y ≤ y') : mxI x y ≤ mxI x' y' := by unfold mxI; split <;> split <;> omega
/-- what two stairs of numbers must keep for their joining -/
structure JB (H : List Int) (p : Nat) (u : Int) (K : List Int) (q : Nat) (v : Int) : Prop where
  hu : u ≤ 1000000
  hv : v ≤ 1000000
  ml : mS H K p q + Nat.lcm p q ≤ 600
  mp : mS H K p q + p ≤ 600
  mq : mS H K p q + q ≤ 600
  cr : ∃ B : Int, -1 ≤ B ∧ B + 1 + p ≤ 600 ∧ B + 1 + q ≤ 600 ∧
    (u * q < v * p → ∀ j < Nat.lcm p q, 0 < gap (fv H p u) (fv K q v) (mS H K p q + j) → (mS H K p q + j : Nat) + (gap (fv H p u) (fv K q v) (mS H K p q + j) - 1) / gn p q u v * (Nat.lcm p q : Nat) ≤ B) ∧
    (v * p < u * q → ∀ j < Nat.lcm q p, 0 < gap (fv K q v) (fv H p u) (mS K H q p + j) → (mS K H q p + j : Nat) + (gap (fv K q v) (fv H p u) (mS K H q p + j) - 1) / gn q p v u * (Nat.lcm q p : Nat) ≤ B)
/-- the form of two stairs of numbers -/
inductive Frm (H : List Int) (p : Nat) (u : Int) (K : List Int) (q : Nat) (v : Int) : Prop where
  | eq (M L : Nat) (R : Int) (hM : H.length - p ≤ M ∧ K.length - q ≤ M) (L1 : 1 ≤ L) (ml : M + L ≤ 600) (hR : R.natAbs < 2 ^ 900) (e1 : ∀ x, M ≤ x → fv H p u (x + L) = fv H p u x + R) (e2 : ∀ x, M ≤ x → fv K q v (x + L) = fv K q v x + R) (f : ∀ k, F_both_form [(Nf.num H p u).P, (Nf.num K q v).P, .bl k] = .ok (.sh (.tup [.int ((M + L : Nat) : Int), .int L, .int R])))
  | one (n : Nat) (hn : H.length - p ≤ n ∧ K.length - q ≤ n) (np : n + p ≤ 600) (nq : n + q ≤ 600) (le : ∀ x, n ≤ x → fv H p u x ≤ fv K q v x) (f1 : F_both_form [(Nf.num H p u).P, (Nf.num K q v).P, .bl true] = .ok (.sh (.tup [.int ((n + p : Nat) : Int), .int p, .int u]))) (f2 : F_both_form [(Nf.num H p u).P, (Nf.num K q v).P, .bl false] = .ok (.sh (.tup [.int ((n + q : Nat) : Int), .int q, .int v])))
  | two (n : Nat) (hn : H.length - p ≤ n ∧ K.length - q ≤ n) (np : n + p ≤ 600) (nq : n + q ≤ 600) (le : ∀ x, n ≤ x → fv K q v x ≤ fv H p u x) (f1 : F_both_form [(Nf.num H p u).P, (Nf.num K q v).P, .bl true] = .ok (.sh (.tup [.int ((n + q : Nat) : Int), .int q, .int v]))) (f2 : F_both_form [(Nf.num H p u).P, (Nf.num K q v).P, .bl false] = .ok (.sh (.tup [.int ((n + p : Nat) : Int), .int p, .int u])))
section
variable {H K : List Int} {p q : Nat} {u v : Int}
theorem mS_le : H.length - p ≤ mS H K p q ∧ K.length - q ≤ mS H K p q := mx_le
theorem frm_ok (ha : NumOk H p u) (hb : NumOk K q v) (j : JB H p u K q v) : Frm H p u K q v := by
  have pb := ha.b
  have qb := hb.b
  have u0 := ha.g.u0
  have v0 := hb.g.u0
  obtain ⟨B, b1, b2, b3, c1, c2⟩ := j.cr
  have ml := mS_le (H := H) (K := K) (p := p) (q := q)
  rcases Int.lt_trichotomy (u * q) (v * p) with h | h | h
  · obtain ⟨n, n1, n2, n3, n4⟩ := cross_ok ha hb j.hu j.hv h b1 (c1 h)
    have mp := j.mp
    have mq := j.mq
    refine .one n (by omega) (by omega) (by omega) n2 (both_one ha hb h ?_) (both_one ha hb h ?_)
    · exact n4 H p u pb.2.1 (by omega)
    · exact n4 K q v qb.2.1 (by omega)
  · have L1 := lcm_pos pb.1 qb.1
    have L2 := lcm_le pb.2.1 qb.2.1
    have re := rise_eq (u := u) (v := v) pb.1 qb.1 h
    have dl2 : Nat.lcm p q / p ≤ 360000 := Nat.le_trans (Nat.div_le_self _ _) L2
    refine .eq (mS H K p q) (Nat.lcm p q) (u * (Nat.lcm p q / p : Nat)) ml L1 j.ml ?_ (fun x hx => ?_) (fun x hx => ?_) fun k => both_eq ha hb h
    · have a1 : u * ((Nat.lcm p q / p : Nat) : Int) ≤ 1000000 * 360000 := Int.mul_le_mul j.hu (Int.ofNat_le.mpr dl2) (Int.natCast_nonneg _) (by omega)
      have a2 : 0 ≤ u * ((Nat.lcm p q / p : Nat) : Int) := Int.mul_nonneg u0 (Int.natCast_nonneg _)
      omega
    · rw [ha.lcmL (q := q) (by omega), Int.mul_comm u]
    · rw [hb.lcmR (p := p) (by omega), Int.mul_comm u, re]
  · obtain ⟨n, n1, n2, n3, n4⟩ := cross_ok hb ha j.hv j.hu h b1 (c2 h)
    rw [← mS_comm] at n1 n3
    have mp := j.mp
    have mq := j.mq
    refine .two n (by omega) (by omega) (by omega) n2 (both_two ha hb h ?_) (both_two ha hb h ?_)
    · exact n4 K q v qb.2.1 (by omega)
    · exact n4 H p u pb.2.1 (by omega)
theorem lform_num {z : PV} (h : F_both_form [(Nf.num H p u).P, (Nf.num K q v).P, .bl true] = .ok (.sh z)) : F_lesser_form [(Nf.num H p u).P, (Nf.num K q v).P] = .ok (.sh z) := by
  rw [F_lesser_form_at]
  unfold s_lesser_form
  simp only [st_num_P, st_pv] at *
  simp (disch := walk_at "d") [h]
theorem gform_num {z : PV} (h : F_both_form [(Nf.num H p u).P, (Nf.num K q v).P, .bl false] = .ok (.sh z)) : F_greater_form [(Nf.num H p u).P, (Nf.num K q v).P] = .ok (.sh z) := by
  rw [F_greater_form_at]
  unfold s_greater_form
  simp only [st_num_P, st_pv] at *
  simp (disch := walk_at "d") [h]
/-- a function of two stairs, made by its form -/
theorem and_w (ha : NumOk H p u) (hb : NumOk K q v) {n s : Nat} {r : Int} (hs : 1 ≤ s) (hn : n + s ≤ 600) (hr : r.natAbs < 2 ^ 900) (hf : F_both_form [(Nf.num H p u).P, (Nf.num K q v).P, .bl true] = .ok (.sh (.tup [.int ((n + s : Nat) : Int), .int s, .int r]))) (per : ∀ x, n ≤ x → mn (fv H p u (x + s)) (fv K q v (x + s)) = mn (fv H p u x) (fv K q v x) + r) :
    ∃ c : Nf, c.ok ∧ F_Stair_and [(Nf.num H p u).P, (Nf.num K q v).P] = .ok (.obj 4 c.O) ∧ ∀ x, c.val x = some (mn (fv H p u x) (fv K q v x)) := by
  obtain ⟨c, c1, c2, c3, _⟩ := make_w (w := fun x => mn (fv H p u x) (fv K q v x)) (n := n + s) (s := s) (r := r) (fun x => mn_mono (fv_mono ha.g x) (fv_mono hb.g x)) (by have := ha.g.nn 0; have := hb.g.nn 0; show 0 ≤ mn _ _; unfold mn; split <;> omega) hs (by omega) (fun d => by
    have := per (n + s - s + d) (by omega)
    exact this) hn hr
  exact ⟨c, c1, and_of (r := some r) ha hb (by omega) (lform_num hf) c2, c3⟩
theorem or_w (ha : NumOk H p u) (hb : NumOk K q v) {n s : Nat} {r : Int} (hs : 1 ≤ s) (hn : n + s ≤ 600) (hr : r.natAbs < 2 ^ 900) (hf : F_both_form [(Nf.num H p u).P, (Nf.num K q v).P, .bl false] = .ok (.sh (.tup [.int ((n + s : Nat) : Int), .int s, .int r]))) (per : ∀ x, n ≤ x → mxI (fv H p u (x + s)) (fv K q v (x + s)) = mxI (fv H p u x) (fv K q v x) + r) :
    ∃ c : Nf, c.ok ∧ F_Stair_or [(Nf.num H p u).P, (Nf.num K q v).P] = .ok (.obj 4 c.O) ∧ ∀ x, c.val x = some (mxI (fv H p u x) (fv K q v x)) := by
  obtain ⟨c, c1, c2, c3, _⟩ := make_w (w := fun x => mxI (fv H p u x) (fv K q v x)) (n := n + s) (s := s) (r := r) (fun x => mxI_mono (fv_mono ha.g x) (fv_mono hb.g x)) (by have := ha.g.nn 0; have := hb.g.nn 0; show 0 ≤ mxI _ _; unfold mxI; split <;> omega) hs (by omega) (fun d => by
    have := per (n + s - s + d) (by omega)
    exact this) hn hr
  exact ⟨c, c1, or_of (r := some r) ha hb (by omega) (gform_num hf) c2, c3⟩
theorem and_num (ha : NumOk H p u) (hb : NumOk K q v) (j : JB H p u K q v) : ∃ c : Nf, c.ok ∧ F_Stair_and [(Nf.num H p u).P, (Nf.num K q v).P] = .ok (.obj 4 c.O) ∧ ∀ x, c.val x = some (mn (fv H p u x) (fv K q v x)) := by
  have pb := ha.b
  have qb := hb.b
  rcases frm_ok ha hb j with ⟨M, L, R, hM, L1, ml, hR, e1, e2, f⟩ | ⟨n, hn, np, nq, le, f1, f2⟩ | ⟨n, hn, np, nq, le, f1, f2⟩
  · exact and_w ha hb L1 ml hR (f true) fun x hx => by rw [e1 x hx, e2 x hx, mn_add]
  · exact and_w ha hb pb.1 np ha.ub f1 fun x hx => by rw [mn_l (le x hx), mn_l (le (x + p) (by omega)), ha.step (by omega)]
  · exact and_w ha hb qb.1 nq hb.ub f1 fun x hx => by rw [mn_r (le x hx), mn_r (le (x + q) (by omega)), hb.step (by omega)]
theorem or_num (ha : NumOk H p u) (hb : NumOk K q v) (j : JB H p u K q v) : ∃ c : Nf, c.ok ∧ F_Stair_or [(Nf.num H p u).P, (Nf.num K q v).P] = .ok (.obj 4 c.O) ∧ ∀ x, c.val x = some (mxI (fv H p u x) (fv K q v x)) := by
  have pb := ha.b
  have qb := hb.b
  rcases frm_ok ha hb j with ⟨M, L, R, hM, L1, ml, hR, e1, e2, f⟩ | ⟨n, hn, np, nq, le, f1, f2⟩ | ⟨n, hn, np, nq, le, f1, f2⟩
  · exact or_w ha hb L1 ml hR (f false) fun x hx => by rw [e1 x hx, e2 x hx, mxI_add]
  · exact or_w ha hb qb.1 nq hb.ub f2 fun x hx => by rw [mxI_r (le x hx), mxI_r (le (x + q) (by omega)), hb.step (by omega)]
  · exact or_w ha hb pb.1 np ha.ub f2 fun x hx => by rw [mxI_l (le x hx), mxI_l (le (x + p) (by omega)), ha.step (by omega)]
end
end K02

end
section
/-! functions with None -/
namespace K02
open PySem L2 L3
local macro_rules | `(tactic| walk_at "d") => `(tactic| first | assumption | omega | (simp only [szl, repP_length, List.length_map, List.length_append, List.length_cons, List.length_nil, List.length_range, List.length_replicate, rngP_length, List.length_set]; omega) | exact Eq.refl _ | (simp; done) | decide)
/-- not above; None is above all -/
def leO : Option Int → Option Int → Prop
  | _, none => True
  | none, some _ => False
  | some x, some y => x ≤ y
def nnO : Option Int → Prop
  | none => True
  | some x => 0 ≤ x
theorem lessO_le {x y x' y' : Option Int} (h : leO x x') (h' : leO y y') : leO (lessO x y) (lessO x' y') := by
  cases x <;> cases y <;> cases x' <;> cases y' <;> simp only [leO, lessO] at * <;> first | trivial | omega | (split <;> first | trivial | omega | (split <;> omega))
theorem greatO_le {x y x' y' : Option Int} (h : leO x x') (h' : leO y y') : leO (greatO x y) (greatO x' y') := by
  cases x <;> cases y <;> cases x' <;> cases y' <;> simp only [leO, greatO] at * <;> first | trivial | omega | (split <;> first | trivial | omega | (split <;> omega))
theorem addO_le {x y x' y' : Option Int} (h : leO x x') (h' : leO y y') : leO (addO x y) (addO x' y') := by
  cases x <;> cases y <;> cases x' <;> cases y' <;> simp only [leO, addO] at * <;> first | trivial | omega
theorem lessO_nn {x y : Option Int} (h : nnO x) (h' : nnO y) : nnO (lessO x y) := by
  cases x <;> cases y <;> simp only [nnO, lessO] at * <;> first | trivial | omega | (split <;> omega)
theorem greatO_nn {x y : Option Int} (h : nnO x) (h' : nnO y) : nnO (greatO x y) := by
  cases x <;> cases y <;> simp only [nnO, greatO] at * <;> first | trivial | omega | (split <;> omega)
theorem addO_nn {x y : Option Int} (h : nnO x) (h' : nnO y) : nnO (addO x y) := by
  cases x <;> cases y <;> simp only [nnO, addO] at * <;> first | trivial | omega
theorem Nf.mono (a : Nf) (h : a.ok) (x : Nat) : leO (a.val x) (a.val (x + 1)) := by
  cases a with
  | num H p u => exact fv_mono h.g x
  | non H =>
    show leO (if x < H.length then some (el H x) else none) (if x + 1 < H.length then some (el H (x + 1)) else none)
    by_cases c : x + 1 < H.length
    · rw [if_pos c, if_pos (by omega)]
      exact h.1.2 x c
    · rw [if_neg c]
      cases (if x < H.length then some (el H x) else none) <;> trivial
theorem Nf.nn (a : Nf) (h : a.ok) (x : Nat) : nnO (a.val x) := by
  cases a with
  | num H p u => exact h.g.nn x
  | non H =>
    show nnO (if x < H.length then some (el H x) else none)
    split
    · rename_i c
      exact h.1.1 x c
    · trivial
/-- a stair of a function that ends in None -/
theorem make_vn {v : Nat → Option Int} {M : Nat} (hs : ∀ x < M, v x ≠ none) (hn : ∀ x, M ≤ x → v x = none) (mono : ∀ x, leO (v x) (v (x + 1))) (nn : ∀ x, nnO (v x)) (hM : M < 600) :
    ∃ c : Nf, c.ok ∧ F_Stair_init [.lst ((List.range (M + 1)).map fun x => o2p (v x)), .int ((1 : Nat) : Int), .non] = .ok c.O ∧ ∀ x, c.val x = v x := by
  have e : ∀ x < M, v x = some ((v x).getD 0) := fun x hx => by
    cases q : v x with
    | none => exact absurd q (hs x hx)
    | some w => rfl
  obtain ⟨c, c1, c2, c3, _⟩ := make_n (w := fun x => (v x).getD 0) (n := M) (fun x hx => by
    have := mono x
    rw [e x (by omega), e (x + 1) hx] at this
    exact this) (fun x hx => by
    have := nn x
    rw [e x hx] at this
    exact this) hM
  refine ⟨c, c1, ?_, fun x => ?_⟩
  · rw [List.range_succ, List.map_append, List.map_cons, List.map_nil, hn M (Nat.le_refl _)]
    have : (List.range M).map (fun x => o2p (v x)) = (List.range M).map fun x => PV.int ((v x).getD 0) := List.map_congr_left fun x hx => by
      have hx : x < M := by simpa using hx
      rw [e x hx]
      rfl
    rw [this]
    exact c2
  · rw [c3]
    by_cases c : x < M
    · rw [if_pos c, ← e x c]
    · rw [if_neg c, hn x (by omega)]
/-- a stair of a function of numbers -/
theorem make_vs {v : Nat → Option Int} {n s : Nat} {r : Int} (hv : ∀ x, v x ≠ none) (mono : ∀ x, leO (v x) (v (x + 1))) (nn : ∀ x, nnO (v x)) (s1 : 1 ≤ s) (hn : n + s ≤ 600) (hr : r.natAbs < 2 ^ 900) (per : ∀ x, n ≤ x → v (x + s) = (v x).map (· + r)) :
    ∃ c : Nf, c.ok ∧ F_Stair_init [.lst ((List.range (n + s)).map fun x => o2p (v x)), .int s, .int r] = .ok c.O ∧ ∀ x, c.val x = v x := by
  have e : ∀ x, v x = some ((v x).getD 0) := fun x => by
    cases q : v x with
    | none => exact absurd q (hv x)
    | some w => rfl
  obtain ⟨c, c1, c2, c3, _⟩ := make_w (w := fun x => (v x).getD 0) (n := n + s) (s := s) (r := r) (fun x => by
    have := mono x
    rw [e x, e (x + 1)] at this
    exact this) (by
    have := nn 0
    rw [e 0] at this
    exact this) s1 (by omega) (fun d => by
    have := per (n + s - s + d) (by omega)
    rw [e (n + s - s + d)] at this
    rw [this]
    rfl) hn hr
  refine ⟨c, c1, ?_, fun x => ?_⟩
  · have : (List.range (n + s)).map (fun x => o2p (v x)) = (List.range (n + s)).map fun x => PV.int ((v x).getD 0) := List.map_congr_left fun x hx => by
      rw [e x]
      rfl
    rw [this]
    exact c2
  · rw [c3, ← e x]
/-! the first None -/
def mi (a b : Nat) : Nat := if b < a then b else a
theorem minL2 {x y : Nat} : minL [(x : Int), (y : Int)] = (mi x y : Nat) := by
  unfold mi
  show min (x : Int) (minL [(y : Int)]) = _
  show min (x : Int) (y : Int) = _
  split <;> omega
theorem fn_lc {a b : Nf} {x2 : Option OV} : fLc (.nm 3) [3] (iSeq (eTup (aCons (eVar 0) (aCons (eVar 1) aNil)))) t_first_none_1 c_first_none_1 [some (.sh a.P), some (.sh b.P), x2, none] = .ok (.own (([a, b].filter fun z => decide (z.ri = none)).map fun z => .sh (.int z.st))) := by
  refine fLc_at (ps := [a.P, b.P]) (by simp (disch := walk_at "d")) (by simp [szl]) ?_
  refine lcGo_filter (f := Nf.P) [a, b] (fun z hz => ?_) fun z hz hc => ?_
  · unfold t_first_none_1
    have e : (z.ri.isNone) = decide (z.ri = none) := by cases z.ri <;> rfl
    unfold Nf.P
    simp [e]
  · unfold c_first_none_1
    unfold Nf.P
    simp
theorem min_one {x : Int} : bMin [.lst [.int x]] = .ok (.int x) := rfl
theorem min_two {x y : Nat} : bMin [.lst [.int (x : Int), .int (y : Int)]] = .ok (.int (mi x y : Nat)) := by
  rw [← minL2]
  rfl
theorem first_both {a b : Nf} (c1 : a.ri = none) (c2 : b.ri = none) : F_first_none [a.P, b.P] = .ok (.sh (.int (mi a.st b.st : Nat))) := by
  have lc := fun x2 => fn_lc (a := a) (b := b) (x2 := x2)
  rw [F_first_none_at]
  unfold s_first_none
  simp (disch := walk_at "d") [lc, List.filter_cons, c1, c2, min_two]
theorem first_a {a b : Nf} (c1 : a.ri = none) (c2 : b.ri ≠ none) : F_first_none [a.P, b.P] = .ok (.sh (.int a.st)) := by
  have lc := fun x2 => fn_lc (a := a) (b := b) (x2 := x2)
  rw [F_first_none_at]
  unfold s_first_none
  simp (disch := walk_at "d") [lc, List.filter_cons, c1, c2, min_one]
theorem first_b {a b : Nf} (c1 : a.ri ≠ none) (c2 : b.ri = none) : F_first_none [a.P, b.P] = .ok (.sh (.int b.st)) := by
  have lc := fun x2 => fn_lc (a := a) (b := b) (x2 := x2)
  rw [F_first_none_at]
  unfold s_first_none
  simp (disch := walk_at "d") [lc, List.filter_cons, c1, c2, min_one]
end K02

end
section
/-! the lesser of two stairs -/
namespace K02
open PySem L2 L3
local macro_rules | `(tactic| walk_at "d") => `(tactic| first | assumption | omega | (simp only [szl, repP_length, List.length_map, List.length_append, List.length_cons, List.length_nil, List.length_range, List.length_replicate, rngP_length, List.length_set]; omega) | exact Eq.refl _ | (simp; done) | decide)
structure JJ (a b : Nf) : Prop where
  sa : a.st ≤ 100
  pa : a.stp ≤ 100
  sb : b.st ≤ 100
  pb : b.stp ≤ 100
  jb : ∀ H p u K q v, a = .num H p u → b = .num K q v → JB H p u K q v
theorem leO_l (x y : Option Int) : x ≠ none → y ≠ none → lessO x y ≠ none := by
  cases x <;> cases y <;> simp [lessO]
theorem non_lt {H : List Int} {x : Nat} (h : x < H.length) : (Nf.non H).val x = some (el H x) := if_pos h
theorem non_ge {H : List Int} {x : Nat} (h : H.length ≤ x) : (Nf.non H).val x = none := if_neg (by omega)
section
variable {H K : List Int} {p q : Nat} {u v : Int}
theorem join_and {a b : Nf} (ha : a.ok) (hb : b.ok) (j : JJ a b) : ∃ c : Nf, c.ok ∧ F_Stair_and [a.P, b.P] = .ok (.obj 4 c.O) ∧ ∀ x, c.val x = lessO (a.val x) (b.val x) := by
  have j1 := j.sa
  have j2 := j.pa
  have j3 := j.sb
  have j4 := j.pb
  have mono : ∀ x, leO (lessO (a.val x) (b.val x)) (lessO (a.val (x + 1)) (b.val (x + 1))) := fun x => lessO_le (a.mono ha x) (b.mono hb x)
  have nn : ∀ x, nnO (lessO (a.val x) (b.val x)) := fun x => lessO_nn (a.nn ha x) (b.nn hb x)
  cases a with
  | num H p u =>
    cases b with
    | num K q v => exact and_num ha hb (j.jb _ _ _ _ _ _ rfl rfl)
    | non K =>
      have j1 : H.length - p ≤ 100 := j1
      have j2 : p ≤ 100 := j2
      have j3 : K.length ≤ 100 := j3
      have ml := mx_le (a := H.length - p) (b := K.length)
      have mb := mx_max (a := H.length - p) (b := K.length) (n := 100) j1 j3
      have m := mx_int (a := H.length - p) (b := K.length)
      generalize mx (H.length - p) K.length = M at *
      obtain ⟨c, c1, c2, c3⟩ := make_vs (v := fun x => lessO ((Nf.num H p u).val x) ((Nf.non K).val x)) (n := M) (s := p) (r := u) (fun x => by
        show lessO (some (fv H p u x)) _ ≠ none
        cases (Nf.non K).val x <;> simp [lessO]) mono nn ha.b.1 (by omega) ha.ub (fun x hx => by
        rw [non_ge (by omega), non_ge (by omega)]
        show some (fv H p u (x + p)) = some (fv H p u x + u)
        rw [ha.step (by omega)])
      refine ⟨c, c1, and_of (n := M + p) (s := p) (r := some u) ha hb (by omega) ?_ c2, c3⟩
      simp only [st_num_P, st_non_P, st_pv] at *
      rw [F_lesser_form_at]
      unfold s_lesser_form
      simp (disch := walk_at "d") [m, -max_int]
  | non H =>
    cases b with
    | num K q v =>
      have j1 : H.length ≤ 100 := j1
      have j3 : K.length - q ≤ 100 := j3
      have j4 : q ≤ 100 := j4
      have ml := mx_le (a := H.length) (b := K.length - q)
      have mb := mx_max (a := H.length) (b := K.length - q) (n := 100) j1 j3
      have m := mx_int (a := H.length) (b := K.length - q)
      generalize mx H.length (K.length - q) = M at *
      obtain ⟨c, c1, c2, c3⟩ := make_vs (v := fun x => lessO ((Nf.non H).val x) ((Nf.num K q v).val x)) (n := M) (s := q) (r := v) (fun x => by
        show lessO _ (some (fv K q v x)) ≠ none
        cases (Nf.non H).val x <;> simp [lessO]) mono nn hb.b.1 (by omega) hb.ub (fun x hx => by
        rw [non_ge (by omega), non_ge (by omega)]
        show some (fv K q v (x + q)) = some (fv K q v x + v)
        rw [hb.step (by omega)])
      refine ⟨c, c1, and_of (n := M + q) (s := q) (r := some v) ha hb (by omega) ?_ c2, c3⟩
      simp only [st_num_P, st_non_P, st_pv] at *
      rw [F_lesser_form_at]
      unfold s_lesser_form
      simp (disch := walk_at "d") [m, -max_int]
    | non K =>
      have j1 : H.length ≤ 100 := j1
      have j3 : K.length ≤ 100 := j3
      have ml := mx_le (a := H.length) (b := K.length)
      have mb := mx_max (a := H.length) (b := K.length) (n := 100) j1 j3
      have mc : mx H.length K.length = H.length ∨ mx H.length K.length = K.length := by unfold mx; split <;> omega
      have m := mx_int (a := H.length) (b := K.length)
      generalize mx H.length K.length = M at *
      obtain ⟨c, c1, c2, c3⟩ := make_vn (v := fun x => lessO ((Nf.non H).val x) ((Nf.non K).val x)) (M := M) (fun x hx => by
        rcases mc with e | e
        · rw [non_lt (H := H) (by omega)]
          cases (Nf.non K).val x <;> simp [lessO]
        · rw [non_lt (H := K) (by omega)]
          cases (Nf.non H).val x <;> simp [lessO]) (fun x hx => by
        rw [non_ge (by omega), non_ge (by omega)]
        rfl) mono nn (by omega)
      refine ⟨c, c1, and_of (n := M + 1) (s := 1) (r := none) ha hb (by omega) ?_ c2, c3⟩
      simp only [st_num_P, st_non_P, st_pv] at *
      rw [F_lesser_form_at]
      unfold s_lesser_form
      simp (disch := walk_at "d") [m, -max_int]
/-- where one is None -/
def fN (a b : Nf) : Nat := if a.ri = none then (if b.ri = none then mi a.st b.st else a.st) else b.st
theorem first_of {a b : Nf} (h : a.ri = none ∨ b.ri = none) : F_first_none [a.P, b.P] = .ok (.sh (.int (fN a b))) := by
  unfold fN
  by_cases c1 : a.ri = none
  · by_cases c2 : b.ri = none
    · rw [if_pos c1, if_pos c2]; exact first_both c1 c2
    · rw [if_pos c1, if_neg c2]; exact first_a c1 c2
  · rw [if_neg c1]; exact first_b c1 (h.resolve_left c1)
theorem val_none {a : Nf} {x : Nat} : a.val x = none ↔ a.ri = none ∧ a.st ≤ x := by
  cases a with
  | num H p u =>
    constructor
    · intro h; cases h
    · intro h; cases h.1
  | non H =>
    show (if x < H.length then some (el H x) else none) = none ↔ (none : Option Int) = none ∧ H.length ≤ x
    split
    · constructor
      · intro h; cases h
      · intro h; omega
    · constructor
      · intro _; exact ⟨rfl, by omega⟩
      · intro _; rfl
theorem fN_iff {a b : Nf} (h : a.ri = none ∨ b.ri = none) {x : Nat} : (a.val x = none ∨ b.val x = none) ↔ fN a b ≤ x := by
  rw [val_none, val_none]
  unfold fN mi
  by_cases c1 : a.ri = none
  · by_cases c2 : b.ri = none
    · rw [if_pos c1, if_pos c2]
      simp only [c1, c2, true_and]
      split <;> omega
    · rw [if_pos c1, if_neg c2]
      simp [c1, c2]
  · rw [if_neg c1]
    simp [c1, h.resolve_left c1]
theorem join_none {f : Option Int → Option Int → Option Int} (hf : ∀ x y, f x y = none ↔ x = none ∨ y = none) (fle : ∀ {x y x' y'}, leO x x' → leO y y' → leO (f x y) (f x' y')) (fnn : ∀ {x y}, nnO x → nnO y → nnO (f x y)) {a b : Nf} (ha : a.ok) (hb : b.ok) (sa : a.st ≤ 100) (sb : b.st ≤ 100) (h : a.ri = none ∨ b.ri = none) :
    ∃ c : Nf, c.ok ∧ F_Stair_init [.lst ((List.range (fN a b + 1)).map fun x => o2p (f (a.val x) (b.val x))), .int ((1 : Nat) : Int), .non] = .ok c.O ∧ ∀ x, c.val x = f (a.val x) (b.val x) := by
  refine make_vn (v := fun x => f (a.val x) (b.val x)) (M := fN a b) (fun x hx => ?_) (fun x hx => ?_) (fun x => fle (a.mono ha x) (b.mono hb x)) (fun x => fnn (a.nn ha x) (b.nn hb x)) ?_
  · intro z
    have := (fN_iff h).mp ((hf _ _).mp z)
    omega
  · exact (hf _ _).mpr ((fN_iff h).mpr hx)
  · unfold fN mi
    split
    · split
      · split <;> omega
      · omega
    · omega
end
end K02

end
section
/-! the greater, the sum -/
namespace K02
open PySem L2 L3
local macro_rules | `(tactic| walk_at "d") => `(tactic| first | assumption | omega | (simp only [szl, repP_length, List.length_map, List.length_append, List.length_cons, List.length_nil, List.length_range, List.length_replicate, rngP_length, List.length_set]; omega) | exact Eq.refl _ | (simp; done) | decide)
theorem greatO_none (x y : Option Int) : greatO x y = none ↔ x = none ∨ y = none := by cases x <;> cases y <;> simp [greatO]
theorem addO_none (x y : Option Int) : addO x y = none ↔ x = none ∨ y = none := by cases x <;> cases y <;> simp [addO]
theorem ri_val {a : Nf} (h : a.ri ≠ none) : ∃ H p u, a = .num H p u := by
  cases a with
  | num H p u => exact ⟨H, p, u, rfl⟩
  | non H => exact absurd rfl h
theorem gform_none {a b : Nf} (h : a.ri = none ∨ b.ri = none) : F_greater_form [a.P, b.P] = .ok (.sh (.tup [.int ((fN a b + 1 : Nat) : Int), .int ((1 : Nat) : Int), .non])) := by
  have f := first_of h
  have e : (a.ri.isNone || b.ri.isNone) = true := by
    rcases h with h | h <;> rw [h] <;> simp
  generalize fN a b = n at *
  unfold Nf.P at *
  simp only [st_pv] at *
  rw [F_greater_form_at]
  unfold s_greater_form
  cases q : a.ri with
  | none => rw [q] at f; simp (disch := walk_at "d") [f]
  | some x =>
    cases q2 : b.ri with
    | none => rw [q, q2] at f; simp (disch := walk_at "d") [f]
    | some y => rw [q, q2] at e; cases e
theorem sform_none {a b : Nf} (h : a.ri = none ∨ b.ri = none) : F_sum_form [a.P, b.P] = .ok (.sh (.tup [.int ((fN a b + 1 : Nat) : Int), .int ((1 : Nat) : Int), .non])) := by
  have f := first_of h
  have e : (a.ri.isNone || b.ri.isNone) = true := by
    rcases h with h | h <;> rw [h] <;> simp
  generalize fN a b = n at *
  unfold Nf.P at *
  simp only [st_pv] at *
  rw [F_sum_form_at]
  unfold s_sum_form
  cases q : a.ri with
  | none => rw [q] at f; simp (disch := walk_at "d") [f]
  | some x =>
    cases q2 : b.ri with
    | none => rw [q, q2] at f; simp (disch := walk_at "d") [f]
    | some y => rw [q, q2] at e; cases e
theorem fN_le {a b : Nf} (sa : a.st ≤ 100) (sb : b.st ≤ 100) : fN a b ≤ 100 := by
  unfold fN mi
  split
  · split
    · split <;> omega
    · omega
  · omega
theorem join_or {a b : Nf} (ha : a.ok) (hb : b.ok) (j : JJ a b) : ∃ c : Nf, c.ok ∧ F_Stair_or [a.P, b.P] = .ok (.obj 4 c.O) ∧ ∀ x, c.val x = greatO (a.val x) (b.val x) := by
  by_cases h : a.ri = none ∨ b.ri = none
  · obtain ⟨c, c1, c2, c3⟩ := join_none greatO_none greatO_le greatO_nn ha hb j.sa j.sb h
    exact ⟨c, c1, or_of (r := none) ha hb (by have := fN_le j.sa j.sb; omega) (gform_none h) c2, c3⟩
  · obtain ⟨H, p, u, rfl⟩ := ri_val fun z => h (.inl z)
    obtain ⟨K, q, v, rfl⟩ := ri_val fun z => h (.inr z)
    exact or_num ha hb (j.jb _ _ _ _ _ _ rfl rfl)
theorem join_sum {a b : Nf} (ha : a.ok) (hb : b.ok) (j : JJ a b) : ∃ c : Nf, c.ok ∧ F_Stair_add [a.P, b.P] = .ok (.obj 4 c.O) ∧ ∀ x, c.val x = addO (a.val x) (b.val x) := by
  by_cases h : a.ri = none ∨ b.ri = none
  · obtain ⟨c, c1, c2, c3⟩ := join_none addO_none addO_le addO_nn ha hb j.sa j.sb h
    exact ⟨c, c1, sum_of (r := none) ha hb (by have := fN_le j.sa j.sb; omega) (sform_none h) c2, c3⟩
  · obtain ⟨H, p, u, rfl⟩ := ri_val fun z => h (.inl z)
    obtain ⟨K, q, v, rfl⟩ := ri_val fun z => h (.inr z)
    have jb := j.jb _ _ _ _ _ _ rfl rfl
    have pb := NumOk.b ha
    have qb := NumOk.b hb
    have u0 := Good.u0 (NumOk.g ha)
    have v0 := Good.u0 (NumOk.g hb)
    have L1 := lcm_pos pb.1 qb.1
    have L2 := lcm_le pb.2.1 qb.2.1
    have hu := jb.hu
    have hv := jb.hv
    have lm := jb.ml
    have ml := mS_le (H := H) (K := K) (p := p) (q := q)
    have a1 : u * ((Nat.lcm p q / p : Nat) : Int) ≤ 1000000 * 360000 := Int.mul_le_mul hu (Int.ofNat_le.mpr (Nat.le_trans (Nat.div_le_self _ _) L2)) (Int.natCast_nonneg _) (by omega)
    have a2 : 0 ≤ u * ((Nat.lcm p q / p : Nat) : Int) := Int.mul_nonneg u0 (Int.natCast_nonneg _)
    have a3 : v * ((Nat.lcm p q / q : Nat) : Int) ≤ 1000000 * 360000 := Int.mul_le_mul hv (Int.ofNat_le.mpr (Nat.le_trans (Nat.div_le_self _ _) L2)) (Int.natCast_nonneg _) (by omega)
    have a4 : 0 ≤ v * ((Nat.lcm p q / q : Nat) : Int) := Int.mul_nonneg v0 (Int.natCast_nonneg _)
    obtain ⟨c, c1, c2, c3⟩ := make_vs (v := fun x => addO ((Nf.num H p u).val x) ((Nf.num K q v).val x)) (n := mS H K p q) (s := Nat.lcm p q) (r := u * (Nat.lcm p q / p : Nat) + v * (Nat.lcm p q / q : Nat)) (fun x => by
      intro z
      cases z) (fun x => addO_le (Nf.mono _ ha x) (Nf.mono _ hb x)) (fun x => addO_nn (Nf.nn _ ha x) (Nf.nn _ hb x)) L1 (by omega) (by omega) (fun x hx => by
      show some (fv H p u (x + Nat.lcm p q) + fv K q v (x + Nat.lcm p q)) = some (fv H p u x + fv K q v x + _)
      rw [NumOk.lcmL (q := q) ha (by omega), NumOk.lcmR (p := p) hb (by omega), Int.mul_comm u, Int.mul_comm v]
      congr 1
      omega)
    refine ⟨c, c1, sum_of (n := mS H K p q + Nat.lcm p q) (s := Nat.lcm p q) (r := some (u * (Nat.lcm p q / p : Nat) + v * (Nat.lcm p q / q : Nat))) ha hb (by omega) ?_ c2, c3⟩
    have lcm := lcL pb.2.1 qb.2.1
    have d1 := divL (L := Nat.lcm p q) pb.1 pb.2.1
    have d2 := divL (L := Nat.lcm p q) qb.1 qb.2.1
    have m := mx_int (a := H.length - p) (b := K.length - q)
    have fm : mx (H.length - p) (K.length - q) = mS H K p q := rfl
    rw [fm] at m
    have dl1 : Nat.lcm p q / p ≤ 360000 := Nat.le_trans (Nat.div_le_self _ _) L2
    have dl2 : Nat.lcm p q / q ≤ 360000 := Nat.le_trans (Nat.div_le_self _ _) L2
    clear c1 c2 c3
    generalize mS H K p q = M at *
    generalize Nat.lcm p q = L at *
    generalize L / p = A at *
    generalize L / q = C at *
    simp only [st_num_P, st_pv] at *
    rw [F_sum_form_at]
    unfold s_sum_form
    simp (disch := walk_at "d") [lcm, d1, d2, m, -max_int]
end K02

end
section
/-! A stair plus a number -/
namespace K02
open PySem L2 L3
local macro_rules | `(tactic| walk_at "d") => `(tactic| first | assumption | omega | (simp only [szl, repP_length, List.length_map, List.length_append, List.length_cons, List.length_nil, List.length_range, List.length_replicate, rngP_length, List.length_set]; omega) | exact Eq.refl _ | (simp; done) | decide)
theorem Nf.hs_eq (a : Nf) (h : a.ok) : a.hs = (List.range (a.st + a.stp)).map a.val := by
  have hl := a.hs_len h
  refine List.ext_getElem (by simp [hl]) fun i h1 h2 => ?_
  rw [List.getElem_map, List.getElem_range]
  have e : a.hs[i] = nth a.hs i := by
    unfold nth
    rw [List.getD_eq_getElem?_getD, List.getElem?_eq_getElem h1]
    rfl
  rw [e]
  cases a with
  | num H p u =>
    have hi : i < H.length := by simpa [Nf.hs] using h1
    rw [Nf.hs, nth_num hi]
    show _ = some (fv H p u i)
    rw [fv_lt hi]
  | non H =>
    rw [Nf.hs, nth_non, Nf.val]
theorem hP_map {v : Nat → Option Int} {n : Nat} : hP ((List.range n).map v) = (List.range n).map fun x => o2p (v x) := by
  rw [hP, List.map_map]; rfl
def addN (n : Int) (x : Option Int) : Option Int := x.map (· + n)
@[simp] theorem addN_none {n : Int} : addN n none = none := rfl
@[simp] theorem addN_some {n x : Int} : addN n (some x) = some (x + n) := rfl
theorem addN_ok {x : Option Int} {n : Int} : F_added [o2p x, .int n] = .ok (.sh (o2p (addN n x))) := added_ok
theorem addN_none_iff {n : Int} {x : Option Int} : addN n x = none ↔ x = none := by cases x <;> simp
theorem addN_le {n : Int} {x y : Option Int} (h : leO x y) : leO (addN n x) (addN n y) := by
  cases x <;> cases y <;> simp_all [leO, addN]
theorem addn_lc {a : Nf} {n : Int} (ha : a.ok) {x2 x3 x4 x6 : Option OV} : fLc (.nm 5) [5] (iSeq (eFld "heights" ok_heights (eVar 0))) tYesB c_Stair_add_1 [some (.sh a.P), some (.sh (.int n)), x2, x3, x4, none, x6] = .ok (.own ((List.range (a.st + a.stp)).map fun x => .sh (o2p (addN n (a.val x))))) := by
  have hl := a.hs_len ha
  have hb := a.bnd ha
  have he := a.hs_eq ha
  refine fLc_at (ps := hP a.hs) ?_ (by rw [hP_len, hl]; simp [szl]; omega) ?_
  · unfold Nf.P
    simp (disch := walk_at "d")
  · rw [he, hP_map]
    refine lcGo_map (f := fun (k : Nat) => o2p (a.val k)) _ fun x hx => ?_
    have e := addN_ok (x := a.val x) (n := n)
    unfold c_Stair_add_1
    simp (disch := walk_at "d") [e]
theorem addn_of {a c : Nf} {n : Int} (ha : a.ok) (hi : F_Stair_init [.lst ((List.range (a.st + a.stp)).map fun x => o2p (addN n (a.val x))), .int a.stp, o2p a.ri] = .ok c.O) : F_Stair_add [a.P, .int n] = .ok (.obj 4 c.O) := by
  have lc := fun x2 x3 x4 x6 => addn_lc (n := n) ha (x2 := x2) (x3 := x3) (x4 := x4) (x6 := x6)
  have cp : (capR true (.ok (.obj 4 c.O)) : R OV) = .ok (.obj 4 c.O) := capR_flat c.flat
  unfold Nf.P at *
  simp only [st_pv] at *
  rw [F_Stair_add_at]
  unfold s_Stair_add
  simp (disch := walk_at "d") [lc, hi, cp]
theorem addn_er {a : Nf} {n : Int} (ha : a.ok) (hi : F_Stair_init [.lst ((List.range (a.st + a.stp)).map fun x => o2p (addN n (a.val x))), .int a.stp, o2p a.ri] = .er badS) : F_Stair_add [a.P, .int n] = .er badS := by
  have lc := fun x2 x3 x4 x6 => addn_lc (n := n) ha (x2 := x2) (x3 := x3) (x4 := x4) (x6 := x6)
  have cp : (capR true (.er badS) : R OV) = .er badS := capR_flat_er (by rfl)
  unfold Nf.P at *
  simp only [st_pv] at *
  rw [F_Stair_add_at]
  unfold s_Stair_add
  simp (disch := walk_at "d") [lc, hi, cp]
theorem le_chain {v : Nat → Option Int} (mono : ∀ x, leO (v x) (v (x + 1))) (h : nnO (v 0)) : ∀ x, nnO (v x)
  | 0 => h
  | x + 1 => by
    have ih := le_chain mono h x
    have m := mono x
    cases e1 : v x <;> cases e2 : v (x + 1) <;> simp_all [leO, nnO]
    omega
/-- a stair plus a number -/
theorem plus_ok {a : Nf} {n : Int} (ha : a.ok) (h0 : nnO (addN n (a.val 0))) : ∃ c : Nf, c.ok ∧ F_Stair_add [a.P, .int n] = .ok (.obj 4 c.O) ∧ ∀ x, c.val x = addN n (a.val x) := by
  have mono : ∀ x, leO (addN n (a.val x)) (addN n (a.val (x + 1))) := fun x => addN_le (a.mono ha x)
  have nn := le_chain (v := fun x => addN n (a.val x)) mono h0
  cases a with
  | num H p u =>
    have pb := NumOk.b ha
    have hn : H.length - p + p ≤ 600 := by have := NumOk.len ha; omega
    obtain ⟨c, c1, c2, c3⟩ := make_vs (v := fun x => addN n ((Nf.num H p u).val x)) (n := H.length - p) (s := p) (r := u) (fun x => by simp [Nf.val]) mono nn pb.1 hn (NumOk.ub ha) fun x hx => by
      simp only [Nf.val, addN_some, NumOk.step ha hx, Option.map_some]
      congr 1; omega
    exact ⟨c, c1, addn_of ha (by exact c2), c3⟩
  | non H =>
    have hH : H.length < 600 := ha.2
    obtain ⟨c, c1, c2, c3⟩ := make_vn (v := fun x => addN n ((Nf.non H).val x)) (M := H.length) (fun x hx => by simp [non_lt hx]) (fun x hx => by simp [non_ge hx]) mono nn hH
    exact ⟨c, c1, addn_of ha (by exact c2), c3⟩
theorem plus_bad {a : Nf} {n f : Int} (ha : a.ok) (h : a.val 0 = some f) (h0 : f + n < 0) : F_Stair_add [a.P, .int n] = .er badS := by
  have hb := a.bnd ha
  refine addn_er ha ?_
  rw [← hP_map (v := fun x => addN n (a.val x))]
  refine made_bad (check_scan ?_)
  obtain ⟨m, e⟩ : ∃ m, a.st + a.stp = m + 1 := ⟨a.st + a.stp - 1, by omega⟩
  rw [e, List.range_succ_eq_map, List.map_cons, h, addN_some, scan, if_pos h0]
end K02

end
section
/-! First above: the loops -/
namespace K02
open PySem L2 L3
local macro_rules | `(tactic| walk_at "d") => `(tactic| first | assumption | omega | (simp only [szl, repP_length, List.length_map, List.length_append, List.length_cons, List.length_nil, List.length_range, List.length_replicate, rngP_length, List.length_set]; omega) | exact Eq.refl _ | (simp; done) | decide)
def abv (N : Int) : Option Int → Bool
  | none => true
  | some v => decide (N < v)
@[simp] theorem abv_some {N v : Int} : abv N (some v) = decide (N < v) := rfl
@[simp] theorem abv_none {N : Int} : abv N none = true := rfl
theorem hs_at {a : Nf} (ha : a.ok) {x : Nat} (hx : x < a.st + a.stp) : atI (hP a.hs) (x : Int) = some (o2p (a.val x)) := by
  have hl := a.hs_len ha
  rw [nth_at (by omega) (by omega), Int.toNat_natCast, a.hs_eq ha]
  unfold nth
  rw [List.getD_eq_getElem?_getD, List.getElem?_map, List.getElem?_range hx]
  rfl
theorem fa_no {a : Nf} (ha : a.ok) {N : Int} {x : Nat} (hx : x < a.st + a.stp) (h : abv N (a.val x) = false) : Turn (.nm 2) [2] b_Stair_first_above_1 (.int (x : Int)) [some (.sh a.P), some (.sh (.int N)), none, none, none] [some (.sh a.P), some (.sh (.int N)), none, none, none] := by
  have e := hs_at ha hx
  refine .of ?_
  unfold b_Stair_first_above_1 Nf.P at *
  simp only [st_pv] at *
  cases q : a.val x with
  | none => rw [q] at h; cases h
  | some v =>
    rw [q] at h e
    have h' : ¬ N < v := by simpa using h
    have e' : atI (hP a.hs) (x : Int) = some (.int v) := e
    simp (disch := walk_at "d") [e', h']
theorem fa_yes {a : Nf} (ha : a.ok) {N : Int} {x : Nat} (hx : x < a.st + a.stp) (h : abv N (a.val x) = true) {ps : List PV} : forGo (.nm 2) [2] b_Stair_first_above_1 (.int (x : Int) :: ps) [some (.sh a.P), some (.sh (.int N)), none, none, none] = .rt (.sh (.int x)) := by
  have e := hs_at ha hx
  refine forGo_cons_rt rfl ?_
  unfold b_Stair_first_above_1 Nf.P at *
  simp only [st_pv] at *
  cases q : a.val x with
  | none =>
    rw [q] at e
    have e' : atI (hP a.hs) (x : Int) = some .non := e
    simp (disch := walk_at "d") [e']
  | some v =>
    rw [q] at h e
    have h' : N < v := by simpa using h
    have e' : atI (hP a.hs) (x : Int) = some (.int v) := e
    simp (disch := walk_at "d") [e', h']
def FA (a : Nf) (N : Int) : Option Nat → Prop
  | none => a.ri = some 0 ∧ ∀ x, abv N (a.val x) = false
  | some x => abv N (a.val x) = true ∧ ∀ y < x, abv N (a.val y) = false
def cand (H : List Int) (p : Nat) (u N : Int) (k : Nat) : Int := ((H.length - p + k : Nat) : Int) + ((N - fv H p u (H.length - p + k)) / u + 1) * p
def faStp (H : List Int) (p : Nat) (u N : Int) (b : Option Int) (k : Nat) : Option Int := lessO b (some (cand H p u N k))
def FaI (c : Nat → Int) (k : Nat) : Option Int → Prop
  | none => k = 0
  | some m => (∀ j < k, m ≤ c j) ∧ ∃ j < k, m = c j
theorem fa_step {c : Nat → Int} {k : Nat} {b : Option Int} (h : FaI c k b) : FaI c (k + 1) (lessO b (some (c k))) := by
  cases b with
  | none =>
    have h : k = 0 := h
    subst h
    exact ⟨fun j hj => by rw [show j = 0 by omega]; exact Int.le_refl _, 0, by omega, rfl⟩
  | some m =>
    obtain ⟨h1, j0, h2, h3⟩ := h
    show FaI c (k + 1) (some (if m ≤ c k then m else c k))
    split
    · rename_i q
      exact ⟨fun j hj => by
        by_cases e : j = k
        · rw [e]; exact q
        · exact h1 j (by omega), j0, by omega, h3⟩
    · rename_i q
      exact ⟨fun j hj => by
        by_cases e : j = k
        · rw [e]; exact Int.le_refl _
        · have := h1 j (by omega); omega, k, by omega, rfl⟩
section
variable {H : List Int} {p : Nat} {u : Int}
theorem fa_turn (ha : NumOk H p u) {N : Int} {k : Nat} (hN : N.natAbs < 2 ^ 200) (hk : k < p) (hu : 0 < u) (hu2 : u < 2 ^ 200) {b : Option Int} : Turn (.nm 2) [2, 4] b_Stair_first_above_2 (.int (((H.length - p : Nat) : Int) + (k : Int))) [some (.sh (Nf.num H p u).P), some (.sh (.int N)), none, some (.sh (o2p b)), none] [some (.sh (Nf.num H p u).P), some (.sh (.int N)), none, some (.sh (o2p (faStp H p u N b k))), none] := by
  have pb := ha.b
  have e := hs_at (a := .num H p u) ha (x := H.length - p + k) (by show H.length - p + k < H.length - p + p; omega)
  have v1 : (Nf.num H p u).val (H.length - p + k) = some (fv H p u (H.length - p + k)) := rfl
  rw [v1, o2p_some, show (((H.length - p + k : Nat) : Int)) = ((H.length - p : Nat) : Int) + k by omega] at e
  have le := lesser_ok (x := b) (y := some (cand H p u N k))
  rw [o2p_some] at le
  have dc : cand H p u N k = ((H.length - p : Nat) : Int) + (k : Int) + ((N - fv H p u (H.length - p + k)) / u + 1) * p := by unfold cand; rw [show (((H.length - p + k : Nat) : Int)) = ((H.length - p : Nat) : Int) + k by omega]
  rw [dc] at le
  refine .of ?_
  unfold b_Stair_first_above_2 faStp
  rw [dc]
  have ub := ha.ub
  have e2 : atI (hP (H.map some)) (((H.length - p : Nat) : Int) + (k : Int)) = some (.int (fv H p u (H.length - p + k))) := e
  simp only [st_num_P, st_pv]
  generalize fv H p u (H.length - p + k) = y at *
  generalize ((H.length - p : Nat) : Int) = M at *
  have fd : pyFdiv (.int (N - y)) (.int u) = .ok (.int ((N - y) / u)) := fdiv_int hu hu2
  simp (disch := walk_at "d") [e2, le, fd]
end
end K02

end
section
/-! First above -/
namespace K02
open PySem L2 L3
local macro_rules | `(tactic| walk_at "d") => `(tactic| first | assumption | omega | (simp only [szl, repP_length, List.length_map, List.length_append, List.length_cons, List.length_nil, List.length_range, List.length_replicate, rngP_length, List.length_set]; omega) | exact Eq.refl _ | (simp; done) | decide)
theorem first_ex {g : Nat → Bool} : ∀ n, (∀ x < n, g x = false) ∨ ∃ x < n, g x = true ∧ ∀ y < x, g y = false
  | 0 => .inl fun x hx => by omega
  | n + 1 => by
    rcases first_ex (g := g) n with h | ⟨x, h1, h2, h3⟩
    · cases q : g n with
      | true => exact .inr ⟨n, by omega, q, h⟩
      | false =>
        refine .inl fun x hx => ?_
        by_cases e : x = n
        · rw [e]; exact q
        · exact h x (by omega)
    · exact .inr ⟨x, by omega, h2, h3⟩
theorem fa_hit {a : Nf} (ha : a.ok) {N : Int} {x : Nat} (hx : x < a.st + a.stp) (h : abv N (a.val x) = true) (hn : ∀ y < x, abv N (a.val y) = false) : F_Stair_first_above [a.P, .int N] = .ok (.sh (.int x)) := by
  have hl : (hP a.hs).length = a.st + a.stp := by rw [hP_len, a.hs_len ha]
  have key : forGo (.nm 2) [2] b_Stair_first_above_1 (rngP 0 (a.st + a.stp)) [some (.sh a.P), some (.sh (.int N)), none, none, none] = .rt (.sh (.int x)) := by
    obtain ⟨m, e⟩ : ∃ m, a.st + a.stp = x + (m + 1) := ⟨a.st + a.stp - x - 1, by omega⟩
    rw [e, rngP_add, rngP_succ, forGo_pre]
    · rw [Int.zero_add]
      exact fa_yes ha hx h
    · intro q hq
      obtain ⟨k, hk, rfl⟩ := rngP_mem hq
      rw [Int.zero_add]
      exact fa_no ha (by omega) (hn k hk)
  have hb := a.bnd ha
  unfold Nf.P at *
  simp only [st_pv] at *
  generalize a.st + a.stp = n at *
  rw [F_Stair_first_above_at]
  unfold s_Stair_first_above
  simp (disch := walk_at "d") [hl, key]
section
variable {H : List Int} {p : Nat} {u : Int}
theorem fa_past (ha : NumOk H p u) {N : Int} (hn : ∀ y < H.length - p + p, abv N ((Nf.num H p u).val y) = false) : forGo (.nm 2) [2] b_Stair_first_above_1 (rngP 0 (H.length - p + p)) [some (.sh (Nf.num H p u).P), some (.sh (.int N)), none, none, none] = .nx [some (.sh (Nf.num H p u).P), some (.sh (.int N)), none, none, none] := by
  have := forGo_pre (T := .nm 2) (fg := [2]) (fb := b_Stair_first_above_1) (ρ := [some (.sh (Nf.num H p u).P), some (.sh (.int N)), none, none, none]) (rest := []) (rngP 0 (H.length - p + p)) fun q hq => by
    obtain ⟨k, hk, rfl⟩ := rngP_mem hq
    rw [Int.zero_add]
    exact fa_no (a := .num H p u) ha hk (hn k hk)
  rw [List.append_nil] at this
  rw [this]; rfl
theorem fa_flat (ha : NumOk H p 0) {N : Int} (hn : ∀ y < H.length - p + p, abv N ((Nf.num H p 0).val y) = false) : F_Stair_first_above [(Nf.num H p 0).P, .int N] = .ok (.sh .non) := by
  have hl : (hP (H.map some)).length = H.length - p + p := by rw [hP_len, List.length_map]; have := ha.b; omega
  have pb := ha.b
  have lb := ha.len
  have key := fa_past ha hn
  simp only [st_num_P, st_pv] at *
  rw [F_Stair_first_above_at]
  unfold s_Stair_first_above
  generalize H.length - p + p = n at *
  simp (disch := walk_at "d") [hl, key]
theorem fa_rise (ha : NumOk H p u) {N : Int} (hN : N.natAbs < 2 ^ 200) (hu : 0 < u) (hu2 : u < 2 ^ 200) (hn : ∀ y < H.length - p + p, abv N ((Nf.num H p u).val y) = false) : ∃ b, F_Stair_first_above [(Nf.num H p u).P, .int N] = .ok (.sh (o2p b)) ∧ FaI (cand H p u N) p b := by
  have hl : (hP (H.map some)).length = H.length - p + p := by rw [hP_len, List.length_map]; have := ha.b; omega
  have pb := ha.b
  have lb := ha.len
  have k1 := fa_past ha hn
  have key := forGo_foldN (T := .nm 2) (fg := [2, 4]) (fb := b_Stair_first_above_2) (f := fun (k : Nat) => PV.int (((H.length - p : Nat) : Int) + (k : Int))) (fun b => [some (.sh (Nf.num H p u).P), some (.sh (.int N)), none, some (.sh (o2p b)), none]) (faStp H p u N) (fun k b => FaI (cand H p u N) k b ∧ k ≤ p) (List.range p) 0 none ⟨rfl, by omega⟩ fun j x b hx h => by
    obtain ⟨hj, rfl⟩ := List.getElem?_eq_some_iff.mp hx
    rw [List.length_range] at hj
    rw [List.getElem_range]
    rw [Nat.zero_add] at h ⊢
    exact ⟨⟨fa_step h.1, by omega⟩, fa_turn ha hN hj hu hu2⟩
  rw [← rngP_eq] at key
  have k2 := key.2.1
  rw [Nat.zero_add, List.length_range] at k2
  have lp := key.1
  clear key
  generalize (List.range p).foldl (faStp H p u N) none = b at *
  refine ⟨b, ?_, k2⟩
  have lp' : forGo (.nm 2) [2, 4] b_Stair_first_above_2 (rngP ((H.length - p : Nat) : Int) p) [some (.sh (Nf.num H p u).P), some (.sh (.int N)), none, some (.sh .non), none] = .nx [some (.sh (Nf.num H p u).P), some (.sh (.int N)), none, some (.sh (o2p b)), none] := lp
  clear lp
  have u0 : ¬ u = 0 := by omega
  have tn : (((H.length - p + p : Nat) : Int) - ((H.length - p : Nat) : Int)).toNat = p := by omega
  simp only [st_num_P, st_pv] at *
  rw [F_Stair_first_above_at]
  unfold s_Stair_first_above
  generalize H.length - p + p = n at *
  generalize ((H.length - p : Nat) : Int) = M at *
  simp (disch := walk_at "d") [hl, k1, lp', u0, tn]
end
end K02

end
section
/-! First above: the least -/
namespace K02
open PySem L2 L3
local macro_rules | `(tactic| walk_at "d") => `(tactic| first | assumption | omega | (simp only [szl, repP_length, List.length_map, List.length_append, List.length_cons, List.length_nil, List.length_range, List.length_replicate, rngP_length, List.length_set]; omega) | exact Eq.refl _ | (simp; done) | decide)
section
variable {H : List Int} {p : Nat} {u : Int}
theorem tail_at (ha : NumOk H p u) {y : Nat} (hy : H.length - p ≤ y) : fv H p u y = fv H p u (H.length - p + (y - (H.length - p)) % p) + ((y - (H.length - p)) / p : Nat) * u ∧ (y - (H.length - p)) % p < p ∧ y = H.length - p + (y - (H.length - p)) % p + p * ((y - (H.length - p)) / p) := by
  have pb := ha.b
  have e : y = H.length - p + (y - (H.length - p)) % p + p * ((y - (H.length - p)) / p) := by
    have := Nat.mod_add_div (y - (H.length - p)) p
    omega
  refine ⟨?_, Nat.mod_lt _ (by omega), e⟩
  rw [← ha.steps (by omega), ← e]
theorem fa_best (ha : NumOk H p u) {N m : Int} (hu : 0 < u) (hn : ∀ y < H.length - p + p, abv N ((Nf.num H p u).val y) = false) (h : FaI (cand H p u N) p (some m)) : ∃ x : Nat, m = x ∧ FA (.num H p u) N (some x) := by
  have pb := ha.b
  have low : ∀ y < H.length - p + p, fv H p u y ≤ N := fun y hy => by
    have := hn y hy
    simp only [Nf.val, abv_some, decide_eq_false_iff_not] at this
    omega
  obtain ⟨h1, j0, h2, h3⟩ := h
  have l0 := low (H.length - p + j0) (by omega)
  have d0 : 0 ≤ (N - fv H p u (H.length - p + j0)) / u := Int.ediv_nonneg (by omega) (by omega)
  have lt0 : N - fv H p u (H.length - p + j0) < ((N - fv H p u (H.length - p + j0)) / u + 1) * u := Int.lt_ediv_add_one_mul_self _ hu
  obtain ⟨t, ht⟩ : ∃ t : Nat, (N - fv H p u (H.length - p + j0)) / u + 1 = t := ⟨_, (Int.toNat_of_nonneg (by omega)).symm⟩
  have hm : m = ((H.length - p + j0 + p * t : Nat) : Int) := by
    rw [h3, cand, ht]
    rw [Int.mul_comm]
    simp
  refine ⟨_, hm, ?_, fun y hy => ?_⟩
  · show abv N (some _) = true
    rw [abv_some, ha.steps (by omega), ← ht]
    have : N < fv H p u (H.length - p + j0) + ((N - fv H p u (H.length - p + j0)) / u + 1) * u := by omega
    simpa using this
  · show abv N (some _) = false
    rw [abv_some, decide_eq_false_iff_not]
    intro c
    by_cases hy0 : y < H.length - p + p
    · have := low y hy0; omega
    · obtain ⟨e1, e2, e3⟩ := tail_at ha (y := y) (by omega)
      rw [e1] at c
      generalize (y - (H.length - p)) % p = j at *
      generalize (y - (H.length - p)) / p = k at *
      have k1 : (N - fv H p u (H.length - p + j)) / u < k := (Int.ediv_lt_iff_lt_mul hu).mpr (by omega)
      have k2 := h1 j e2
      have k3 : ((N - fv H p u (H.length - p + j)) / u + 1) * p ≤ (k : Int) * p := Int.mul_le_mul_of_nonneg_right (by omega) (by omega)
      have k4 : (p : Int) * k = (k : Int) * p := Int.mul_comm _ _
      unfold cand at k2
      rw [hm] at k2
      have k5 : ((y : Nat) : Int) = ((H.length - p + j : Nat) : Int) + (p : Int) * k := by rw [e3]; simp
      omega
theorem fa_const (ha : NumOk H p 0) {N : Int} (hn : ∀ y < H.length - p + p, abv N ((Nf.num H p 0).val y) = false) : FA (.num H p 0) N none := by
  have pb := ha.b
  refine ⟨rfl, fun y => ?_⟩
  by_cases hy0 : y < H.length - p + p
  · exact hn y hy0
  · obtain ⟨e1, e2, e3⟩ := tail_at ha (y := y) (by omega)
    have := hn (H.length - p + (y - (H.length - p)) % p) (by omega)
    simp only [Nf.val] at this ⊢
    rw [e1, Int.mul_zero, Int.add_zero]
    exact this
end
/-- the first amount above a number -/
theorem fa_ok {a : Nf} (ha : a.ok) {N : Int} (hN : N.natAbs < 2 ^ 200) (hu : ∀ H p u, a = .num H p u → u < 2 ^ 200) : ∃ o : Option Nat, F_Stair_first_above [a.P, .int N] = .ok (.sh (o2p (o.map fun (x : Nat) => (x : Int)))) ∧ FA a N o := by
  rcases first_ex (g := fun x => abv N (a.val x)) (a.st + a.stp) with h | ⟨x, h1, h2, h3⟩
  · cases a with
    | non H =>
      have := h H.length (by show H.length < H.length + 1; omega)
      simp only [non_ge (Nat.le_refl _)] at this
      cases this
    | num H p u =>
      have u0 := Good.u0 (NumOk.g ha)
      by_cases c : u = 0
      · subst c
        exact ⟨none, fa_flat ha h, fa_const ha h⟩
      · obtain ⟨b, b1, b2⟩ := fa_rise ha hN (by omega) (hu _ _ _ rfl) h
        cases b with
        | none =>
          have : p = 0 := b2
          have := (NumOk.b ha).1
          omega
        | some m =>
          obtain ⟨x, rfl, x2⟩ := fa_best ha (by omega) h b2
          exact ⟨some x, b1, x2⟩
  · exact ⟨some x, fa_hit ha h1 h2 h3, h2, h3⟩
end K02

end
section
/-! Later -/
namespace K02
open PySem L2 L3
local macro_rules | `(tactic| walk_at "d") => `(tactic| first | assumption | omega | (simp only [szl, repP_length, List.length_map, List.length_append, List.length_cons, List.length_nil, List.length_range, List.length_replicate, rngP_length, List.length_set]; omega) | exact Eq.refl _ | (simp; done) | decide)
theorem sub_max {s t : Nat} : bMax [.int ((s : Int) - (t : Int)), .int 0] = .ok (.int ((s - t : Nat) : Int)) := by
  rw [max_int]
  by_cases c : s ≤ t
  · congr 2
    split <;> omega
  · congr 2
    split <;> omega
theorem later_lc {a : Nf} (ha : a.ok) {t n : Nat} (ht : t ≤ 10 ^ 40) (hn : n ≤ 1000) : fLc (.nm 3) [3] (iRg rng1R (aCons (eVar 2) aNil)) tYesB c_Stair_later_1 [some (.sh a.P), some (.sh (.int (t : Int))), some (.sh (.int (n : Int))), none] = .ok (.own ((List.range n).map fun x => .sh (o2p (a.val (x + t))))) := by
  refine fLc_at (ps := rngP 0 n) (by simp (disch := walk_at "d")) (by simp [szl]; omega) ?_
  rw [rngP_eq]
  refine lcGo_map (f := fun (k : Nat) => PV.int (0 + (k : Int))) _ fun x hx => ?_
  have hx : x < n := by simpa using hx
  have e := a.at_ok ha (x := x + t) (by omega)
  rw [show (((x + t : Nat)) : Int) = (x : Int) + t by omega] at e
  unfold c_Stair_later_1 Nf.P at *
  simp only [st_pv] at *
  simp (disch := walk_at "d") [e]
theorem later_of {a c : Nf} {t : Nat} (ha : a.ok) (ht : t ≤ 10 ^ 40) (hi : F_Stair_init [.lst ((List.range (a.st - t + a.stp)).map fun x => o2p (a.val (x + t))), .int a.stp, o2p a.ri] = .ok c.O) : F_Stair_later [a.P, .int (t : Int)] = .ok (.obj 4 c.O) := by
  have hb := a.bnd ha
  have lc := later_lc ha ht (n := a.st - t + a.stp) (by omega)
  have cp : (capR true (.ok (.obj 4 c.O)) : R OV) = .ok (.obj 4 c.O) := capR_flat c.flat
  have mx := sub_max (s := a.st) (t := t)
  rw [show ((a.st - t + a.stp : Nat) : Int) = ((a.st - t : Nat) : Int) + (a.stp : Int) by omega] at lc
  have t0 : ¬ (t : Int) < 0 := by omega
  unfold Nf.P at *
  simp only [st_pv] at *
  generalize a.st - t + a.stp = n at *
  generalize ((a.st - t : Nat) : Int) = q at *
  generalize (t : Int) = T at *
  rw [F_Stair_later_at]
  unfold s_Stair_later
  simp (disch := walk_at "d") [lc, mx, hi, cp, t0, -max_int]
/-- some ticks later -/
theorem later_ok {a : Nf} {t : Nat} (ha : a.ok) (ht : t ≤ 10 ^ 40) : ∃ c : Nf, c.ok ∧ F_Stair_later [a.P, .int (t : Int)] = .ok (.obj 4 c.O) ∧ ∀ x, c.val x = a.val (x + t) := by
  have mono : ∀ x, leO (a.val (x + t)) (a.val (x + 1 + t)) := fun x => by
    have := a.mono ha (x + t)
    rwa [show x + t + 1 = x + 1 + t by omega] at this
  have nn := fun x => a.nn ha (x + t)
  cases a with
  | num H p u =>
    have pb := NumOk.b ha
    have hl := NumOk.len ha
    obtain ⟨c, c1, c2, c3⟩ := make_vs (v := fun x => (Nf.num H p u).val (x + t)) (n := H.length - p - t) (s := p) (r := u) (fun x => by simp [Nf.val]) mono nn pb.1 (by omega) (NumOk.ub ha) fun x hx => by
      show some _ = some _
      rw [show x + p + t = x + t + p by omega, NumOk.step ha (by omega)]
    exact ⟨c, c1, later_of ha ht (by exact c2), c3⟩
  | non H =>
    have hH : H.length < 600 := ha.2
    obtain ⟨c, c1, c2, c3⟩ := make_vn (v := fun x => (Nf.non H).val (x + t)) (M := H.length - t) (fun x hx => by rw [non_lt (by omega)]; simp) (fun x hx => non_ge (by omega)) mono nn (by omega)
    exact ⟨c, c1, later_of ha ht (by exact c2), c3⟩
theorem later_bad {a : Nf} {n : Int} (h : n < 0) : F_Stair_later [a.P, .int n] = .er (badA n) := by
  unfold Nf.P at *
  simp only [st_pv] at *
  rw [F_Stair_later_at]
  unfold s_Stair_later badA
  simp (disch := walk_at "d") [h]
theorem lowered_bad {a : Nf} {n : Int} (h : n < 0) : F_Stair_lowered [a.P, .int n] = .er (badA n) := by
  unfold Nf.P at *
  simp only [st_pv] at *
  rw [F_Stair_lowered_at]
  unfold s_Stair_lowered badA
  simp (disch := walk_at "d") [h]
end K02

end
section
/-! Lowered: the loop -/
namespace K02
open PySem L2 L3
local macro_rules | `(tactic| walk_at "d") => `(tactic| first | assumption | omega | (simp only [szl, repP_length, List.length_map, List.length_append, List.length_cons, List.length_nil, List.length_range, List.length_replicate, rngP_length, List.length_set]; omega) | exact Eq.refl _ | (simp; done) | decide)
theorem foldl_app {α β : Type} {g : α → β} : ∀ (l : List α) (b : List β), l.foldl (fun b k => b ++ [g k]) b = b ++ l.map g
  | [], b => by simp
  | x :: l, b => by rw [List.foldl_cons, foldl_app l]; simp
def lw (t h : Int) : Int := if 0 < h - t then h - t else 0
def lowO (t : Int) (x : Option Int) : Option Int := x.map (lw t)
@[simp] theorem lowO_none {t : Int} : lowO t none = none := rfl
@[simp] theorem lowO_some {t x : Int} : lowO t (some x) = some (lw t x) := rfl
theorem lw_max {t h : Int} : bMax [.int 0, .int (h - t)] = .ok (.int (lw t h)) := by
  rw [max_int]
  congr 2
theorem lowO_none_iff {n : Int} {x : Option Int} : lowO n x = none ↔ x = none := by cases x <;> simp
theorem lw_le {t x y : Int} (h : x ≤ y) : lw t x ≤ lw t y := by unfold lw; split <;> split <;> omega
theorem lowO_le {n : Int} {x y : Option Int} (h : leO x y) : leO (lowO n x) (lowO n y) := by
  cases x <;> cases y <;> simp_all [leO]
  exact lw_le h
theorem lowO_nn {n : Int} {x : Option Int} : nnO (lowO n x) := by
  cases x <;> simp [nnO]
  unfold lw; split <;> omega
def loEnv (a : PV) (t : Int) (st : PV) (l : List (Option Int)) : L3.Env := [some (.sh a), some (.sh (.int t)), some (.sh st), some (.own (l.map fun x => .sh (o2p x))), none, none]
theorem lo_turn {a : Nf} (ha : a.ok) {t : Int} {st : PV} {k : Nat} (hk : k ≤ 1000) {l : List (Option Int)} (hl : l.length ≤ 1000) : Turn (.nm 4) [4, 5] b_Stair_lowered_1 (.int (0 + (k : Int))) (loEnv a.P t st l) (loEnv a.P t st (l ++ [lowO t (a.val k)])) := by
  have e := a.at_ok ha (x := k) (by omega)
  refine .of ?_
  unfold b_Stair_lowered_1 loEnv Nf.P at *
  simp only [st_pv] at *
  cases q : a.val k with
  | none =>
    rw [q] at e
    have e' : F_Stair_at [.ins 4 (stF (hP a.hs) a.st a.stp a.ri), .int (k : Int)] = .ok (.sh .non) := e
    simp (disch := walk_at "d") [e']
  | some h =>
    rw [q] at e
    have e' : F_Stair_at [.ins 4 (stF (hP a.hs) a.st a.stp a.ri), .int (k : Int)] = .ok (.sh (.int h)) := e
    have m := lw_max (t := t) (h := h)
    simp (disch := walk_at "d") [e', m, -max_int]
theorem lo_loop {a : Nf} (ha : a.ok) {t : Int} {st : PV} {n : Nat} (hn : n ≤ 1000) : forGo (.nm 4) [4, 5] b_Stair_lowered_1 (rngP 0 n) (loEnv a.P t st []) = .nx (loEnv a.P t st ((List.range n).map fun x => lowO t (a.val x))) := by
  have key := (forGo_foldN (T := .nm 4) (fg := [4, 5]) (fb := b_Stair_lowered_1) (f := fun (k : Nat) => PV.int (0 + (k : Int))) (fun l => loEnv a.P t st l) (fun l k => l ++ [lowO t (a.val k)]) (fun k l => l.length = k ∧ k ≤ n) (List.range n) 0 [] ⟨rfl, Nat.zero_le _⟩ fun j x b hx hb => by
    obtain ⟨hj, rfl⟩ := List.getElem?_eq_some_iff.mp hx
    rw [List.length_range] at hj
    rw [List.getElem_range]
    refine ⟨⟨by simp; omega, by omega⟩, lo_turn ha (by omega) (by omega)⟩).1
  rw [← rngP_eq] at key
  rw [key]
  rw [foldl_app]
  rfl
end K02

end
section
/-! Lowered -/
namespace K02
open PySem L2 L3
local macro_rules | `(tactic| walk_at "d") => `(tactic| first | assumption | omega | (simp only [szl, repP_length, List.length_map, List.length_append, List.length_cons, List.length_nil, List.length_range, List.length_replicate, rngP_length, List.length_set]; omega) | exact Eq.refl _ | (simp; done) | decide)
@[simp] theorem lk_fa {l : List PV} {b p : Int} {u : Option Int} : List.lookup ("first_above" : Str) (stF l b p u) = none := nr (by kernel_rfl)
@[simp] theorem lk_low {l : List PV} {b p : Int} {u : Option Int} : List.lookup ("lowered" : Str) (stF l b p u) = none := nr (by kernel_rfl)
@[simp] theorem lk_later {l : List PV} {b p : Int} {u : Option Int} : List.lookup ("later" : Str) (stF l b p u) = none := nr (by kernel_rfl)
theorem lo_loop' {a : Nf} (ha : a.ok) {t : Int} {st : PV} {n : Nat} (hn : n ≤ 1000) : forGo (.nm 4) [4, 5] b_Stair_lowered_1 (rngP 0 n) [some (.sh a.P), some (.sh (.int t)), some (.sh st), some (.own []), none, none] = .nx [some (.sh a.P), some (.sh (.int t)), some (.sh st), some (.own ((List.range n).map fun x => .sh (o2p (lowO t (a.val x))))), none, none] := by
  have := lo_loop ha (t := t) (st := st) hn
  unfold loEnv at this
  rw [List.map_map] at this
  exact this
theorem low_flat {a c : Nf} (ha : a.ok) {t : Nat} (hr : a.ri = none ∨ a.ri = some 0) (hi : F_Stair_init [.lst ((List.range (a.st + a.stp)).map fun x => o2p (lowO t (a.val x))), .int a.stp, o2p a.ri] = .ok c.O) : F_Stair_lowered [a.P, .int (t : Int)] = .ok (.obj 4 c.O) := by
  have hb := a.bnd ha
  have lp := lo_loop' ha (t := t) (st := .int a.st) (n := a.st + a.stp) (by omega)
  have cp : (capR false (.ok (.obj 4 c.O)) : R OV) = .ok (.obj 4 c.O) := capR_flat c.flat
  have t0 : ¬ (t : Int) < 0 := by omega
  have g : ¬ (600 : Int) < (a.st : Int) + (a.stp : Int) := by omega
  have tn : ((a.st : Int) + (a.stp : Int)).toNat = a.st + a.stp := by omega
  unfold Nf.P at *
  simp only [st_pv] at *
  generalize a.st + a.stp = n at *
  generalize (t : Int) = T at *
  rw [F_Stair_lowered_at]
  unfold s_Stair_lowered
  rcases hr with hr | hr
  · simp only [hr, o2p_none] at lp hi ⊢
    simp (disch := walk_at "d") [lp, hi, cp, t0, g, tn, -max_int]
  · simp only [hr, o2p_some] at lp hi ⊢
    simp (disch := walk_at "d") [lp, hi, cp, t0, g, tn, -max_int]
section
variable {H : List Int} {p : Nat} {u : Int} {c : Nf}
theorem low_rise (ha : NumOk H p u) {t x : Nat} (hu : 0 < u) (hf : F_Stair_first_above [(Nf.num H p u).P, .int ((t : Int) - 1)] = .ok (.sh (.int x))) (hs : mx (H.length - p) x + p ≤ 600) (hi : F_Stair_init [.lst ((List.range (mx (H.length - p) x + p)).map fun x => o2p (lowO t ((Nf.num H p u).val x))), .int p, .int u] = .ok c.O) : F_Stair_lowered [(Nf.num H p u).P, .int (t : Int)] = .ok (.obj 4 c.O) := by
  have lp := lo_loop' (a := .num H p u) ha (t := t) (st := .int (mx (H.length - p) x : Nat)) (n := mx (H.length - p) x + p) (by omega)
  have cp : (capR false (.ok (.obj 4 c.O)) : R OV) = .ok (.obj 4 c.O) := capR_flat c.flat
  have t0 : ¬ (t : Int) < 0 := by omega
  have g : ¬ (600 : Int) < ((mx (H.length - p) x : Nat) : Int) + (p : Int) := by omega
  have tn : (((mx (H.length - p) x : Nat) : Int) + (p : Int)).toNat = mx (H.length - p) x + p := by omega
  have m := mx_int (a := H.length - p) (b := x)
  simp only [st_num_P, st_pv] at *
  generalize mx (H.length - p) x = M at *
  generalize (t : Int) = T at *
  rw [F_Stair_lowered_at]
  unfold s_Stair_lowered
  simp (disch := walk_at "d") [lp, hi, cp, t0, g, tn, hf, m, hu, -max_int]
theorem low_many (ha : NumOk H p u) {t x : Nat} (hu : 0 < u) (hf : F_Stair_first_above [(Nf.num H p u).P, .int ((t : Int) - 1)] = .ok (.sh (.int x))) (hs : 600 < mx (H.length - p) x + p) : F_Stair_lowered [(Nf.num H p u).P, .int (t : Int)] = .er manyP := by
  have t0 : ¬ (t : Int) < 0 := by omega
  have g : (600 : Int) < ((mx (H.length - p) x : Nat) : Int) + (p : Int) := by omega
  have m := mx_int (a := H.length - p) (b := x)
  simp only [st_num_P, st_pv] at *
  generalize mx (H.length - p) x = M at *
  generalize (t : Int) = T at *
  rw [F_Stair_lowered_at]
  unfold s_Stair_lowered manyP
  simp (disch := walk_at "d") [t0, g, hf, m, hu, -max_int]
end
theorem lw_add {t h u : Int} (h1 : t ≤ h) (h2 : 0 ≤ u) : lw t (h + u) = lw t h + u := by
  unfold lw
  split <;> split <;> omega
/-- lowered by some ticks -/
theorem lowered_ok {a : Nf} {t : Nat} (ha : a.ok) (ht : t < 2 ^ 100) (hu : ∀ H p u, a = .num H p u → u < 2 ^ 200) (hb : ∀ H p u, a = .num H p u → 0 < u → ∃ y : Nat, (t : Int) ≤ fv H p u y ∧ y + p ≤ 600) : ∃ c : Nf, c.ok ∧ F_Stair_lowered [a.P, .int (t : Int)] = .ok (.obj 4 c.O) ∧ ∀ x, c.val x = lowO t (a.val x) := by
  have mono : ∀ x, leO (lowO t (a.val x)) (lowO t (a.val (x + 1))) := fun x => lowO_le (a.mono ha x)
  have nn : ∀ x, nnO (lowO t (a.val x)) := fun x => lowO_nn
  cases a with
  | non H =>
    have hH : H.length < 600 := ha.2
    obtain ⟨c, c1, c2, c3⟩ := make_vn (v := fun x => lowO t ((Nf.non H).val x)) (M := H.length) (fun x hx => by rw [non_lt hx]; simp) (fun x hx => by rw [non_ge hx]; rfl) mono nn (by omega)
    exact ⟨c, c1, low_flat ha (.inl rfl) (by exact c2), c3⟩
  | num H p u =>
    have pb := NumOk.b ha
    have hl := NumOk.len ha
    have u0 := Good.u0 (NumOk.g ha)
    by_cases z : u = 0
    · subst z
      obtain ⟨c, c1, c2, c3⟩ := make_vs (v := fun x => lowO t ((Nf.num H p 0).val x)) (n := H.length - p) (s := p) (r := 0) (fun x => by simp [Nf.val]) mono nn pb.1 (by omega) (NumOk.ub ha) fun x hx => by
        show some _ = some _
        rw [NumOk.step ha hx, Int.add_zero]
        simp
      exact ⟨c, c1, low_flat (a := .num H p 0) ha (.inr rfl) (by exact c2), c3⟩
    · obtain ⟨o, o1, o2⟩ := fa_ok (a := .num H p u) ha (N := (t : Int) - 1) (by omega) hu
      cases o with
      | none =>
        have : (some u : Option Int) = some 0 := o2.1
        exact absurd (Option.some.inj this) z
      | some x =>
        obtain ⟨y, y1, y2⟩ := hb _ _ _ rfl (by omega)
        have hx : x ≤ y := by
          apply Classical.byContradiction
          intro q
          have := o2.2 y (by omega)
          simp only [Nf.val, abv_some, decide_eq_false_iff_not] at this
          omega
        have mb : mx (H.length - p) x + p ≤ 600 := by
          have := mx_max (a := H.length - p) (b := x) (n := 600 - p) (by omega) (by omega)
          omega
        have ge : ∀ y, mx (H.length - p) x ≤ y → (t : Int) ≤ fv H p u y := fun y hy => by
          have h1 : (t : Int) - 1 < fv H p u x := by simpa [Nf.val] using o2.1
          have h2 := fv_mono' (NumOk.g ha) (x := x) (y := y) (by have := mx_le (a := H.length - p) (b := x); omega)
          omega
        obtain ⟨c, c1, c2, c3⟩ := make_vs (v := fun x => lowO t ((Nf.num H p u).val x)) (n := mx (H.length - p) x) (s := p) (r := u) (fun x => by simp [Nf.val]) mono nn pb.1 mb (NumOk.ub ha) fun y hy => by
          have g1 := ge y hy
          have g2 := NumOk.step ha (x := y) (by have := mx_le (a := H.length - p) (b := x); omega)
          show some (lw _ _) = some (lw _ _ + u)
          rw [g2]
          rw [lw_add g1 u0]
        exact ⟨c, c1, low_rise ha (by omega) o1 mb (by exact c2), c3⟩
end K02

end
section
/-! The function that the script tells -/
namespace K02
open PySem L2 L3
local macro_rules | `(tactic| walk_at "d") => `(tactic| first | assumption | omega | (simp only [szl, repP_length, List.length_map, List.length_append, List.length_cons, List.length_nil, List.length_range, List.length_replicate, rngP_length, List.length_set]; omega) | exact Eq.refl _ | (simp; done) | decide)
def tStp (b : List Int × Int) (up : Int) : List Int × Int := (b.1 ++ [b.2 + up], b.2 + up)
structure TI (k : Nat) (b : List Int × Int) : Prop where
  len : b.1.length = k
  m : Mono b.1
  hi : b.2 = if k = 0 then 0 else el b.1 (k - 1)
  lo : 0 ≤ b.2
  inc : ∀ i, i + 1 < b.1.length → el b.1 (i + 1) ≤ el b.1 i + 3
  z : 0 < k → el b.1 0 ≤ 3
def tEnv (x0 x1 x2 x3 x4 : Option OV) (b : List Int × Int) : L3.Env := [x0, x1, x2, x3, x4, some (.own (b.1.map fun i => .sh (.int i))), some (.sh (.int b.2)), none, none, none, none, none, none]
theorem t_loop {x0 x1 x2 x3 x4 : Option OV} (ups : List Int) (hu : ∀ x ∈ ups, 0 ≤ x ∧ x < 4) (hl : ups.length < 1000) : ∃ b, forGo (.nm 7) [7] b_p_law_told_1 (ups.map .int) (tEnv x0 x1 x2 x3 x4 ([], 0)) = .nx (tEnv x0 x1 x2 x3 x4 b) ∧ TI ups.length b := by
  have key := forGo_foldN (T := .nm 7) (fg := [7]) (fb := b_p_law_told_1) (f := PV.int) (tEnv x0 x1 x2 x3 x4) tStp (fun k b => TI k b ∧ k ≤ ups.length) ups 0 ([], 0) ⟨⟨rfl, ⟨(fun i hi => by simp at hi), (fun i hi => by simp at hi)⟩, rfl, Int.le_refl _, (fun i hi => by simp at hi), (fun h => by omega)⟩, Nat.zero_le _⟩ fun j x b hx ⟨I, hj0⟩ => by
    obtain ⟨hj, rfl⟩ := List.getElem?_eq_some_iff.mp hx
    obtain ⟨u0, u4⟩ := hu _ (List.getElem_mem hj)
    generalize ups[j] = x at u0 u4
    obtain ⟨l, h⟩ := b
    have hlen := I.len
    have hm := I.m
    have hhi := I.hi
    have hlo := I.lo
    have hinc := I.inc
    have hz := I.z
    rw [Nat.zero_add] at hlen hhi hz
    dsimp only at hlen hm hhi hlo hinc hz
    refine ⟨⟨⟨by simp [tStp, hlen], ⟨fun i hi => ?_, fun i hi => ?_⟩, ?_, by simp only [tStp]; omega, fun i hi => ?_, fun _ => ?_⟩, by omega⟩, .of ?_⟩
    · simp only [tStp] at hi ⊢
      rw [el_app]
      rw [List.length_append, List.length_cons, List.length_nil] at hi
      split
      · exact hm.1 i (by omega)
      · rw [if_pos (by omega)]; omega
    · simp only [tStp] at hi ⊢
      rw [el_app, el_app]
      rw [List.length_append, List.length_cons, List.length_nil] at hi
      rw [if_pos (by omega)]
      split
      · exact hm.2 i (by omega)
      · rw [if_pos (by omega)]
        rw [if_neg (by omega)] at hhi
        rw [show i = j - 1 by omega, ← hhi]
        omega
    · simp only [tStp]
      rw [if_neg (by omega), el_app, if_neg (by omega), if_pos (by omega)]
    · simp only [tStp] at hi ⊢
      rw [el_app, el_app]
      rw [List.length_append, List.length_cons, List.length_nil] at hi
      split
      · rw [if_pos (by omega)]
        exact hinc i (by omega)
      · rw [if_pos (by omega), if_pos (by omega)]
        rw [if_neg (by omega)] at hhi
        rw [show i = j - 1 by omega, ← hhi]
        omega
    · simp only [tStp]
      rw [el_app]
      split
      · exact hz (by omega)
      · rw [if_pos (by omega)]
        rw [if_pos (by omega)] at hhi
        omega
    · unfold b_p_law_told_1 tEnv tStp
      simp (disch := walk_at "d")
  refine ⟨ups.foldl tStp ([], 0), key.1, ?_⟩
  have := key.2.1
  rwa [Nat.zero_add] at this
inductive Case (l : Hs) (s : Int) (r : Option Int) : Prop where
  | num (hs : List Int) (st sp e w : Nat) (rI : Int) (e1 : l = (wideL hs sp rI (st + e + sp * w)).map some) (e2 : s = (sp * w : Nat)) (e3 : r = some (rI * w)) (g : Good hs sp rI) (hl : hs.length = st + sp) (s4 : st ≤ 4) (p4 : sp ≤ 4) (h3 : e ≤ 3) (w1 : 1 ≤ w) (w3 : w ≤ 3) (inc : ∀ i, i + 1 < hs.length → el hs (i + 1) ≤ el hs i + 3) (z : el hs 0 ≤ 3) (hr : rI ≤ el hs (hs.length - 1) - el hs st + 3) : Case l s r
  | non (hs : List Int) (c : Nat) (e1 : l = hs.map some ++ none :: List.replicate c none) (h1 : 1 ≤ s) (h2 : s ≤ c + 1) (e3 : r = none) (m : Mono hs) (hl : hs.length ≤ 4) (c2 : c ≤ 2) (inc : ∀ i, i + 1 < hs.length → el hs (i + 1) ≤ el hs i + 3) (z : 0 < hs.length → el hs 0 ≤ 3) : Case l s r
theorem told_ok (ns : List Int) (k : Nat) {K : Int} (hK : K = k) : ∃ l s r, F_p_law_told [.scr (ns.map .int), .int K] = .ok (.sh (.lst [.lst (hP l), .int s, o2p r])) ∧ Case l s r := by
  have c0 := cellL (ns := ns) k (K := K) hK
  have c1 := cellL (ns := ns) (k + 1) (K := K + 1) (by omega)
  have en := nums_ok' (c := cell ns k) (s := K) (N := 8) (n := 8) (m := 1000) rfl (by omega) (by omega) (by omega)
  have hn := nums_len (c := cell ns k) (s := K) (n := 8) (m := 1000) (by omega)
  generalize nums (cell ns k) K 8 1000 = n at en hn
  have a0 : atI n 0 = some (el n 0) := el_at (l := n) (i := 0) (by omega)
  have a1 : atI n 1 = some (el n 1) := el_at (l := n) (i := 1) (by omega)
  have a3 : atI n 3 = some (el n 3) := el_at (l := n) (i := 3) (by omega)
  have a4 : atI n 4 = some (el n 4) := el_at (l := n) (i := 4) (by omega)
  have a5 : atI n 5 = some (el n 5) := el_at (l := n) (i := 5) (by omega)
  have a6 : atI n 6 = some (el n 6) := el_at (l := n) (i := 6) (by omega)
  obtain ⟨st, est, hst⟩ : ∃ st : Nat, el n 0 % 5 = (st : Int) ∧ st ≤ 4 := ⟨(el n 0 % 5).toNat, by omega, by omega⟩
  obtain ⟨sp, esp, hsp1, hsp⟩ : ∃ sp : Nat, 1 + el n 1 % 4 = (sp : Int) ∧ 1 ≤ sp ∧ sp ≤ 4 := ⟨(1 + el n 1 % 4).toNat, by omega, by omega, by omega⟩
  have eu := nums_ok' (c := cell ns (k + 1)) (s := K + 50) (N := (st : Int) + sp) (n := st + sp) (m := 4) (by omega) (by omega) (by omega) (by omega)
  have hu := nums_len (c := cell ns (k + 1)) (s := K + 50) (n := st + sp) (m := 4) (by omega)
  have hu0 := nums_mem (c := cell ns (k + 1)) (s := K + 50) (n := st + sp) (m := 4) (by omega)
  generalize nums (cell ns (k + 1)) (K + 50) (st + sp) 4 = ups at eu hu hu0
  obtain ⟨b, el1, I⟩ := t_loop (x0 := some (.sh (.scr (ns.map .int)))) (x1 := some (.sh (.int K))) (x2 := some (.sh (.lst (n.map .int)))) (x3 := some (.sh (.int st))) (x4 := some (.sh (.int sp))) ups hu0 (by omega)
  rw [hu] at I
  obtain ⟨hs, hh⟩ := b
  have Il : hs.length = st + sp := I.len
  have Im : Mono hs := I.m
  have Iinc : ∀ i, i + 1 < hs.length → el hs (i + 1) ≤ el hs i + 3 := I.inc
  have Iz : el hs 0 ≤ 3 := I.z (by omega)
  have hlast := atI_last (l := hs) (by omega)
  rw [Il] at hlast
  have hfirst := el_at (l := hs) (i := st) (by omega)
  simp only [tEnv, List.map_nil] at el1
  by_cases c : el n 3 % 6 = 0
  · obtain ⟨ct, ect, hct⟩ : ∃ ct : Nat, 1 + el n 4 % 3 = (ct : Int) + 1 ∧ ct ≤ 2 := ⟨(el n 4 % 3).toNat, by omega, by omega⟩
    have m5 := Int.emod_nonneg (el n 5) (show ((ct : Int) + 1) ≠ 0 by omega)
    have m5' := Int.emod_lt_of_pos (el n 5) (show (0 : Int) < ((ct : Int) + 1) by omega)
    have rep := mul_one (p := .non) (k := ((ct : Int) + 1)) (by omega) (by omega)
    rw [show ((ct : Int) + 1).toNat = ct + 1 by omega] at rep
    have hl : (hs.take st).map some ++ none :: List.replicate ct none = (hs.take st).map some ++ List.replicate (ct + 1) none := by rw [List.replicate_succ]
    have tl : (hs.take st).length = st := by rw [List.length_take]; omega
    refine ⟨(hs.take st).map some ++ none :: List.replicate ct none, 1 + el n 5 % ((ct : Int) + 1), none, ?_, .non (hs.take st) ct rfl (by omega) (by omega) rfl ⟨fun i hi => ?_, fun i hi => ?_⟩ (by omega) hct (fun i hi => ?_) (fun hi => ?_)⟩
    · rw [F_p_law_told_at]
      unfold s_p_law_told
      have tk : (hs.map fun x => PV.int x).take st ++ repP PV.non (ct + 1) = hP ((hs.take st).map some ++ none :: List.replicate ct none) := by
        rw [hl]
        simp only [hP, List.map_append, List.map_map, List.map_replicate, o2p_none, List.map_take]
        rfl
      have pa : pyAdd (.lst ((hs.map fun x => PV.int x).take st)) (.lst (repP .non (ct + 1))) = .ok (.lst (hP ((hs.take st).map some ++ none :: List.replicate ct none))) := by
        rw [add_lst (by simp [szl]; omega), tk]
      generalize (hs.take st).map some ++ none :: List.replicate ct none = L at pa
      simp (disch := walk_at "d") [c0, c1, en, a0, a1, a3, a4, a5, est, esp, eu, ↓el1, c, ect, rep, sl_take, pa]
    · rw [tl] at hi; rw [el_take hi]; exact Im.1 i (by omega)
    · rw [tl] at hi; rw [el_take hi, el_take (by omega)]; exact Im.2 i (by omega)
    · rw [tl] at hi; rw [el_take hi, el_take (by omega)]; exact Iinc i (by omega)
    · rw [tl] at hi; rw [el_take hi]; exact Iz
  · obtain ⟨n4, e4, h4⟩ : ∃ n4 : Int, el n 4 % 4 = n4 ∧ 0 ≤ n4 ∧ n4 < 4 := ⟨_, rfl, by omega, by omega⟩
    obtain ⟨w, e5, h5⟩ : ∃ w : Nat, 1 + el n 5 % 3 = (w : Int) ∧ 1 ≤ w ∧ w ≤ 3 := ⟨(1 + el n 5 % 3).toNat, by omega, by omega, by omega⟩
    obtain ⟨e, e6, h6⟩ : ∃ e : Nat, el n 6 % 4 = (e : Int) ∧ e ≤ 3 := ⟨(el n 6 % 4).toNat, by omega, by omega⟩
    have s0 : st0 hs sp = st := by unfold st0; omega
    have g : Good hs sp (el hs (st + sp - 1) - el hs st + n4) := ⟨⟨by omega, by omega⟩, Im, by rw [s0, Il]; omega⟩
    have cs := Case.num hs st sp e w (el hs (st + sp - 1) - el hs st + n4) rfl rfl rfl g Il hst hsp h6 h5.1 h5.2 Iinc Iz (by rw [Il]; omega)
    refine ⟨_, _, _, ?_, cs⟩
    have spw : sp * w ≤ 4 * 3 := Nat.mul_le_mul (by omega) (by omega)
    have m5 := mul_big (a := (sp : Int)) (b := w) (by omega) (by omega)
    rw [show ((sp : Int) * w) = ((sp * w : Nat) : Int) by push_cast; rfl] at m5
    generalize sp * w = q at spw m5
    obtain ⟨N, hN⟩ : ∃ N, N = st + e + q := ⟨_, rfl⟩
    rw [← hN]
    have esz : ((st : Int) + e + q) = N := by omega
    have bd : ∀ i, i < hs.length → el hs i ≤ 3 * (i + 1 : Nat) := fun i => by
      induction i with
      | zero => intro _; omega
      | succ i ih => intro hi; have := ih (by omega); have := Iinc i hi; omega
    have l0 := Im.1 st (by omega)
    have l1 := Im.1 (st + sp - 1) (by omega)
    have b0 := bd st (by omega)
    have b1 := bd (st + sp - 1) (by omega)
    generalize hr : el hs (st + sp - 1) - el hs st + n4 = r at g
    have rb : -1000 ≤ r ∧ r ≤ 1000 := by omega
    have lc : ∀ x0 x1 x2 x3 x6 x7 x8 x10, fLc (.nm 12) [12] (iRg rng1R (aCons (eVar 11) aNil)) tYesB c_p_law_told_1 [x0, x1, x2, x3, some (.sh (.int sp)), some (.sh (.lst (hs.map .int))), x6, x7, x8, some (.sh (.int r)), x10, some (.sh (.int (N : Int))), none] = .ok (.own ((wideL hs sp r N).map fun x => .sh (.int x))) := by
      intro x0 x1 x2 x3 x6 x7 x8 x10
      refine fLc_at (ps := rngP 0 (N)) ?_ (by simp [szl]; omega) ?_
      · simp (disch := walk_at "d") only [iRg_at, aCons_at, aNil_at, eVar_zero, eVar_succ, cons2_ok, app1_ok, rng1_int, Int.toNat_natCast]
      · rw [rngP_eq, wideL, List.map_map]
        refine lcGo_map (f := fun (k : Nat) => PV.int (0 + (k : Int))) _ fun x hx => ?_
        have hx : x < N := by simpa using hx
        have ev := value_ok g.F (x := x) (by omega) (by omega) (by omega)
        unfold c_p_law_told_1
        simp [ev]
    have m6 := mul_big (a := r) (b := w) (by omega) (by omega)
    have wl : (wideL hs sp r N).map (PV.int) = hP ((wideL hs sp r N).map some) := by rw [hP_some]
    rw [F_p_law_told_at]
    unfold s_p_law_told
    simp (disch := walk_at "d") [c0, c1, en, a0, a1, a3, a4, a5, a6, est, esp, eu, ↓el1, c, e4, e5, e6, hlast, hfirst, hr, m5, m6, esz, ↓lc, wl]
end K02

end
section
/-! Bounds of the told functions -/
namespace K02
open PySem L2 L3
local macro_rules | `(tactic| walk_at "d") => `(tactic| first | assumption | omega | (simp only [szl, repP_length, List.length_map, List.length_append, List.length_cons, List.length_nil, List.length_range, List.length_replicate, rngP_length, List.length_set]; omega) | exact Eq.refl _ | (simp; done) | decide)
structure Fn (l : Hs) (s : Int) (r : Option Int) (a : Nf) : Prop where
  ok : a.ok
  ini : F_Stair_init [.lst (hP l), .int s, o2p r] = .ok a.O
  va : ∀ x : Nat, x ≤ 10 ^ 60 → F_p_law_value [.lst (hP l), .int s, o2p r, .int x] = .ok (.sh (o2p (a.val x)))
  nor : F_p_law_normal [.lst (hP l), .int s, o2p r] = .ok (.sh (.lst [.lst (hP a.hs), .int a.stp, o2p a.ri]))
  s4 : a.st ≤ 4
  p4 : a.stp ≤ 4
  z : ∀ v, a.val 0 = some v → v ≤ 3
  inc : ∀ x v v', a.val x = some v → a.val (x + 1) = some v' → v' ≤ v + 3
  len : a.st + a.stp ≤ l.length ∧ l.length ≤ 60
  el : ∀ x < l.length, nth l x = a.val x
  rz : r = some 0 ↔ a.ri = some 0
section
variable {w : Nat → Int} {H : List Int} {p sp st : Nat} {u rI : Int}
theorem short_step (ha : NumOk H p u) (hv : ∀ x, fv H p u x = w x) (s1 : 1 ≤ sp) (per : ∀ x, st ≤ x → w (x + sp) = w x + rI) (pers : ∀ x k : Nat, st ≤ x → w (x + sp * k) = w x + k * rI) : p ≤ sp := by
  apply Classical.byContradiction
  intro q
  have pb := ha.b
  refine ha.l.no sp rI (by omega) ⟨s1, ?_, fun d => ?_⟩
  · have a1 := ha.steps (x := H.length - p + st) (by omega) sp
    have a2 := pers (H.length - p + st) p (by omega)
    rw [Nat.mul_comm] at a2
    rw [hv, hv, a2] at a1
    rw [Int.mul_comm u]
    omega
  · show fv H p u (H.length - p + d + sp) = fv H p u (H.length - p + d) + rI
    have a1 := ha.steps (x := H.length - p + d + sp) (by omega) st
    have a2 := ha.steps (x := H.length - p + d) (by omega) st
    have : st ≤ p * st := Nat.le_mul_of_pos_left _ (by omega)
    have a3 := per (H.length - p + d + p * st) (by omega)
    rw [show H.length - p + d + p * st + sp = H.length - p + d + sp + p * st by omega] at a3
    simp only [hv] at a1 a2 ⊢
    omega
theorem early_start (ha : NumOk H p u) (hv : ∀ x, fv H p u x = w x) (s1 : 1 ≤ sp) (per : ∀ x, st ≤ x → w (x + sp) = w x + rI) : H.length - p ≤ st := by
  apply Classical.byContradiction
  intro q
  have pb := ha.b
  obtain ⟨m, hm⟩ : ∃ m, H.length - p = m + 1 := ⟨H.length - p - 1, by omega⟩
  have n := ha.n
  unfold stN at n
  rw [show st0 H p = m + 1 from hm, down] at n
  have a1 := ha.step (x := m + sp) (by omega)
  have a2 := per m (by omega)
  have a3 := per (m + p) (by omega)
  rw [show m + p + sp = m + sp + p by omega] at a3
  have e1 := fv_lt (hs := H) (s := p) (r := u) (x := m) (by omega)
  have e2 := fv_lt (hs := H) (s := p) (r := u) (x := m + p) (by omega)
  rw [hv] at e1 e2
  rw [hv, hv] at a1
  have g : nfG H p u m = true := by
    unfold nfG
    rw [decide_eq_true_eq, ← e1, ← e2]
    omega
  rw [if_pos g] at n
  have := down_le (nfG H p u) m
  omega
end
theorem fv_inc {hs : List Int} {sp st : Nat} {rI : Int} (F : Fin hs sp rI) (hl : hs.length = st + sp) (inc : ∀ i, i + 1 < hs.length → el hs (i + 1) ≤ el hs i + 3) (hr : rI ≤ el hs (hs.length - 1) - el hs st + 3) (x : Nat) : fv hs sp rI (x + 1) ≤ fv hs sp rI x + 3 := by
  have s1 := F.s1
  by_cases c : x + 1 < hs.length
  · rw [fv_lt c, fv_lt (by omega)]
    exact inc x c
  · have s0 : st0 hs sp = st := by unfold st0; omega
    obtain ⟨d, rfl⟩ : ∃ d, x = st0 hs sp + d := ⟨x - st0 hs sp, by omega⟩
    have e1 := fv_tail F d
    have e2 := fv_tail F (d + 1)
    rw [← Nat.add_assoc] at e2
    rw [e1, e2]
    have dm := Nat.div_add_mod d sp
    have ml := Nat.mod_lt d (show 0 < sp by omega)
    by_cases q : d % sp + 1 < sp
    · have m1 : (d + 1) % sp = d % sp + 1 := by
        rw [Nat.add_mod, Nat.mod_eq_of_lt (show 1 < sp by omega), Nat.mod_eq_of_lt q]
      have d1 : (d + 1) / sp = d / sp := by
        rw [show d + 1 = sp * (d / sp) + (d % sp + 1) by omega, Nat.mul_add_div (by omega), Nat.div_eq_of_lt q, Nat.add_zero]
      rw [m1, d1]
      have := inc (st0 hs sp + d % sp) (by omega)
      rw [Nat.add_assoc] at this
      omega
    · have k : d + 1 = sp * (d / sp + 1) := by rw [Nat.mul_add, Nat.mul_one]; omega
      have m1 : (d + 1) % sp = 0 := by rw [k]; exact Nat.mul_mod_right _ _
      have d1 : (d + 1) / sp = d / sp + 1 := by rw [k]; exact Nat.mul_div_cancel_left _ (by omega)
      rw [m1, d1, show d % sp = sp - 1 by omega, show st0 hs sp + (sp - 1) = hs.length - 1 by omega, s0, Nat.add_zero]
      have : (((d / sp + 1 : Nat)) : Int) * rI = ((d / sp : Nat) : Int) * rI + rI := by
        rw [show (((d / sp + 1 : Nat)) : Int) = ((d / sp : Nat) : Int) + 1 by omega, Int.add_mul, Int.one_mul]
      omega
end K02

end
section
/-! The told functions and their stairs -/
namespace K02
open PySem L2 L3
local macro_rules | `(tactic| walk_at "d") => `(tactic| first | assumption | omega | (simp only [szl, repP_length, List.length_map, List.length_append, List.length_cons, List.length_nil, List.length_range, List.length_replicate, rngP_length, List.length_set]; omega) | exact Eq.refl _ | (simp; done) | decide)
theorem fn_num {hs : List Int} {st sp e w : Nat} {rI : Int} (g : Good hs sp rI) (hl : hs.length = st + sp) (s4 : st ≤ 4) (p4 : sp ≤ 4) (h3 : e ≤ 3) (w1 : 1 ≤ w) (w3 : w ≤ 3) (inc : ∀ i, i + 1 < hs.length → el hs (i + 1) ≤ el hs i + 3) (z : el hs 0 ≤ 3) (hr : rI ≤ el hs (hs.length - 1) - el hs st + 3) : ∃ a, Fn ((wideL hs sp rI (st + e + sp * w)).map some) (sp * w : Nat) (some (rI * w)) a := by
  have F := g.F
  have s1 := F.s1
  have s0 : st0 hs sp = st := by unfold st0; omega
  have G := wide_good g (e := e) (w := w) w1
  rw [s0] at G
  have spw : sp * w ≤ 4 * 3 := Nat.mul_le_mul p4 w3
  have spw1 : sp ≤ sp * w := Nat.le_mul_of_pos_right _ w1
  have pers : ∀ x k : Nat, st ≤ x → fv hs sp rI (x + sp * k) = fv hs sp rI x + k * rI := fun x k hx => by
    have := fv_steps F (x - st) k
    rwa [s0, show st + (x - st) = x by omega] at this
  have per : ∀ x, st ≤ x → fv hs sp rI (x + sp) = fv hs sp rI x + rI := fun x hx => by
    have := pers x 1 hx
    rw [Nat.mul_one] at this
    rw [this]; omega
  have wi : ∀ x, fv hs sp rI (x + 1) ≤ fv hs sp rI x + 3 := fv_inc F hl inc hr
  have w0 : fv hs sp rI 0 ≤ 3 := by rw [fv_lt (by omega)]; exact z
  have wb : ∀ x : Nat, fv hs sp rI x ≤ 3 * (x + 1 : Nat) := fun x => by
    induction x with
    | zero => omega
    | succ x ih => have := wi x; omega
  have mo := fun x y (h : x ≤ y) => fv_mono' g (x := x) (y := y) h
  have nn := g.nn
  have r0 := g.u0
  have rb : rI ≤ 12 := by
    have a := per st (Nat.le_refl _)
    have : ∀ k : Nat, fv hs sp rI (st + k) ≤ fv hs sp rI st + 3 * k := fun k => by
      induction k with
      | zero => simp
      | succ k ih => have := wi (st + k); rw [show st + (k + 1) = st + k + 1 by omega]; omega
    have := this sp
    omega
  have rwb : (rI * w).natAbs ≤ 36 := by
    rw [Int.natAbs_mul, Int.natAbs_natCast]
    have : rI.natAbs ≤ 12 := by omega
    have := Nat.mul_le_mul this w3
    omega
  have N1 : sp * w ≤ st + e + sp * w := by omega
  have wf := w_fv (w := fv hs sp rI) (n := st + e + sp * w) (s := sp * w) (r := rI * w) (by omega) N1 (fun d => by
    rw [show st + e + sp * w - sp * w + d = st + e + d by omega, pers _ _ (by omega), Int.mul_comm])
  have wl : wideL hs sp rI (st + e + sp * w) = (List.range (st + e + sp * w)).map (fv hs sp rI) := rfl
  have ll : (wideL hs sp rI (st + e + sp * w)).length = st + e + sp * w := by simp [wideL]
  rw [← wl] at wf
  have we := fun i (h : i < st + e + sp * w) => wide_el (hs := hs) (s := sp) (r := rI) h
  generalize wideL hs sp rI (st + e + sp * w) = W at *
  clear wl
  generalize hN : st + e + sp * w = N at *
  obtain ⟨p, u, lt⟩ := least_ex G.F
  have pl := lt.le
  have p1 := lt.per.p1
  have sl := stN_le (hs := W) (s := sp * w) (p := p) (u := u)
  have st0W : st0 W (sp * w) + sp * w = W.length := by unfold st0; omega
  have lim : stN W (sp * w) p u + p ≤ 600 := by omega
  obtain ⟨ok, vals, len⟩ := num_nf G (by omega) lt lim
  have ini := num_made G (by omega) (by omega) lt lim
  have nor := law_normal_ok G.F (by omega) (by omega) lt
  have pe := lt.per.e
  generalize hH : W.take (stN W (sp * w) p u + p) = H at *
  have hv : ∀ x, fv H p u x = fv hs sp rI x := fun x => by rw [vals, wf]
  have ps := short_step ok hv s1 per pers
  have es := early_start ok hv s1 per
  have pb := ok.b
  refine ⟨.num H p u, ok, ?_, fun x hx => ?_, ?_, Nat.le_trans es s4, by show p ≤ 4; omega, fun v hv0 => ?_, fun x v v' h1 h2 => ?_, ?_, fun x hx => ?_, ?_⟩
  · rw [hP_some]; exact ini
  · rw [hP_some]
    have := value_ok G.F (x := x) (Nat.lt_of_le_of_lt hx (by decide +kernel)) (by omega) (by omega)
    show _ = R.ok (OV.sh (PV.int (fv H p u x)))
    rw [hv, ← wf]
    exact this
  · rw [hP_some]
    show _ = R.ok (OV.sh (PV.lst [.lst (hP (H.map some)), .int p, .int u]))
    rw [hP_some]
    exact nor
  · have h : some (fv H p u 0) = some v := hv0
    rw [hv] at h
    cases h
    exact w0
  · have h1 : some (fv H p u x) = some v := h1
    have h2 : some (fv H p u (x + 1)) = some v' := h2
    rw [hv] at h1 h2
    cases h1; cases h2
    exact wi x
  · show H.length - p + p ≤ (W.map some).length ∧ (W.map some).length ≤ 60
    rw [List.length_map]
    omega
  · rw [List.length_map] at hx
    show _ = some (fv H p u x)
    rw [nth_num hx, we x (by omega), hv]
  · show _ ↔ (some u : Option Int) = some 0
    constructor
    · intro h
      have h : rI * w = 0 := Option.some.inj h
      rw [h, Int.zero_mul] at pe
      rcases Int.mul_eq_zero.mp pe with h' | h'
      · omega
      · rw [h']
    · intro h
      have h : u = 0 := Option.some.inj h
      rw [h, Int.mul_zero] at pe
      rcases Int.mul_eq_zero.mp pe.symm with h' | h'
      · rw [h']
      · omega
theorem fn_non {hs : List Int} {c : Nat} {s : Int} (h1 : 1 ≤ s) (h2 : s ≤ c + 1) (m : Mono hs) (hl : hs.length ≤ 4) (c2 : c ≤ 2) (inc : ∀ i, i + 1 < hs.length → el hs (i + 1) ≤ el hs i + 3) (z : 0 < hs.length → el hs 0 ≤ 3) : Fn (hs.map some ++ none :: List.replicate c none) s none (.non hs) := by
  have tl : (hs.map some ++ [none]).length = hs.length + 1 := by simp
  have ll : (hs.map some ++ none :: List.replicate c none).length = hs.length + (c + 1) := by simp
  have same : ∀ x, nth (hs.map some ++ none :: List.replicate c none) x = (Nf.non hs).val x := fun x => by
    by_cases a : x < hs.length
    · rw [nth_map a, non_lt a]
    · rw [non_ge (by omega)]
      unfold nth
      rw [List.getD_eq_getElem?_getD, List.getElem?_append_right (by simpa using Nat.le_of_not_lt a)]
      rw [← List.replicate_succ, List.getElem?_replicate]
      split <;> rfl
  refine ⟨⟨m, by omega⟩, non_made m h1 h2 (by omega), fun x hx => ?_, law_normal_none (by simp; omega), by exact hl, by show 1 ≤ 4; omega, fun v hv => ?_, fun x v v' e1 e2 => ?_, ?_, fun x _ => same x, ?_⟩
  · by_cases a : x < hs.length + (c + 1)
    · have := value_in (l := hs.map some ++ none :: List.replicate c none) (s := s) (x := x) (r := .non) (by omega) (by omega)
      rw [Int.toNat_natCast, same] at this
      exact this
    · rw [non_ge (by omega)]
      exact value_none (by omega)
  · by_cases a : 0 < hs.length
    · rw [non_lt a] at hv
      cases hv
      exact z a
    · rw [non_ge (by omega)] at hv; cases hv
  · by_cases a : x + 1 < hs.length
    · rw [non_lt (by omega)] at e1
      rw [non_lt a] at e2
      cases e1; cases e2
      exact inc x a
    · rw [non_ge (by omega)] at e2; cases e2
  · show hs.length + 1 ≤ _ ∧ _
    rw [ll]; omega
  · constructor <;> intro h <;> cases h
theorem fn_ok (ns : List Int) (k : Nat) {K : Int} (hK : K = k) : ∃ l s r a, F_p_law_told [.scr (ns.map .int), .int K] = .ok (.sh (.lst [.lst (hP l), .int s, o2p r])) ∧ Fn l s r a := by
  obtain ⟨l, s, r, ht, cs⟩ := told_ok ns k hK
  cases cs with
  | num hs st sp e w rI e1 e2 e3 g hl s4 p4 h3 w1 w3 inc z hr =>
    subst e1 e2 e3
    obtain ⟨a, fa⟩ := fn_num g hl s4 p4 h3 w1 w3 inc z hr
    exact ⟨_, _, _, a, ht, fa⟩
  | non hs c e1 h1 h2 e3 m hl c2 inc z =>
    subst e1 e3
    exact ⟨_, _, _, _, ht, fn_non h1 h2 m hl c2 inc z⟩
end K02

end
section
/-! Two told functions meet -/
namespace K02
open PySem L2 L3
local macro_rules | `(tactic| walk_at "d") => `(tactic| first | assumption | omega | (simp only [szl, repP_length, List.length_map, List.length_append, List.length_cons, List.length_nil, List.length_range, List.length_replicate, rngP_length, List.length_set]; omega) | exact Eq.refl _ | (simp; done) | decide)
theorem lcm12 {p q : Nat} (hp : p ≤ 4) (hq : q ≤ 4) : Nat.lcm p q ≤ 12 := by
  have : ∀ p < 5, ∀ q < 5, Nat.lcm p q ≤ 12 := by decide
  exact this p (by omega) q (by omega)
section
variable {l : Hs} {s : Int} {r : Option Int} {H : List Int} {p : Nat} {u : Int}
theorem Fn.up (f : Fn l s r (.num H p u)) (x : Nat) : fv H p u x ≤ 3 * (x + 1 : Nat) := by
  induction x with
  | zero => have := f.z _ rfl; omega
  | succ x ih => have := f.inc x _ _ rfl rfl; omega
theorem Fn.uu (f : Fn l s r (.num H p u)) : u ≤ 27 := by
  have ok : NumOk H p u := f.ok
  have a := ok.step (x := H.length - p) (Nat.le_refl _)
  have b := ok.g.nn (H.length - p)
  have c := f.up (H.length - p + p)
  have d : H.length - p ≤ 4 := f.s4
  have e : p ≤ 4 := f.p4
  omega
end
theorem gap_le {l : Hs} {s : Int} {r : Option Int} {l' : Hs} {s' : Int} {r' : Option Int} {H K : List Int} {p q : Nat} {u v : Int} (f : Fn l s r (.num H p u)) (g : Fn l' s' r' (.num K q v)) {G : Int} {j : Nat} (hj : j < Nat.lcm p q) (h : 0 < gap (fv H p u) (fv K q v) (mS H K p q + j)) : (mS H K p q + j : Nat) + (gap (fv H p u) (fv K q v) (mS H K p q + j) - 1) / G * (Nat.lcm p q : Nat) ≤ 579 := by
  have d1 : H.length - p ≤ 4 := f.s4
  have d2 : K.length - q ≤ 4 := g.s4
  have M : mS H K p q ≤ 4 := mx_max d1 d2
  have L := lcm12 f.p4 g.p4
  have L : Nat.lcm p q ≤ 12 := L
  have a := f.up (mS H K p q + j)
  have ok : NumOk K q v := g.ok
  have b := ok.g.nn (mS H K p q + j)
  have gg : gap (fv H p u) (fv K q v) (mS H K p q + j) ≤ 48 := by unfold gap; omega
  have q1 : (gap (fv H p u) (fv K q v) (mS H K p q + j) - 1) / G ≤ gap (fv H p u) (fv K q v) (mS H K p q + j) - 1 := Int.ediv_le_self _ (by omega)
  have q2 : (gap (fv H p u) (fv K q v) (mS H K p q + j) - 1) / G ≤ 47 := by omega
  have q3 : (gap (fv H p u) (fv K q v) (mS H K p q + j) - 1) / G * (Nat.lcm p q : Nat) ≤ 47 * (Nat.lcm p q : Nat) := Int.mul_le_mul_of_nonneg_right q2 (by omega)
  omega
theorem jj_ok {l : Hs} {s : Int} {r : Option Int} {l' : Hs} {s' : Int} {r' : Option Int} {a b : Nf} (f : Fn l s r a) (g : Fn l' s' r' b) : JJ a b := by
  refine ⟨by have := f.s4; omega, by have := f.p4; omega, by have := g.s4; omega, by have := g.p4; omega, fun H p u K q v e1 e2 => ?_⟩
  subst e1 e2
  have d1 : H.length - p ≤ 4 := f.s4
  have d2 : K.length - q ≤ 4 := g.s4
  have e1 : p ≤ 4 := f.p4
  have e2 : q ≤ 4 := g.p4
  have M : mS H K p q ≤ 4 := mx_max d1 d2
  have L := lcm12 e1 e2
  have u1 := f.uu
  have v1 := g.uu
  exact ⟨by omega, by omega, by omega, by omega, by omega, 579, by omega, by omega, by omega, fun _ j hj h => gap_le f g hj h, fun _ j hj h => gap_le g f hj h⟩
end K02

end
section
/-! What is due and what is made -/
namespace K02
open PySem L2 L3
local macro_rules | `(tactic| walk_at "d") => `(tactic| first | assumption | omega | (simp only [szl, repP_length, List.length_map, List.length_append, List.length_cons, List.length_nil, List.length_range, List.length_replicate, rngP_length, List.length_set]; omega) | exact Eq.refl _ | (simp; done) | decide)
theorem Nf.O_pvf {c : Nf} : OV.pvf c.O = stF (hP c.hs) c.st c.stp c.ri := pvf_st
theorem least_ok {x y : Option Int} : F_p_law_least [o2p x, o2p y] = .ok (.sh (o2p (lessO x y))) := by
  rw [F_p_law_least_at]
  unfold s_p_law_least
  cases x with
  | none => simp [lessO]
  | some x => cases y with
    | none => simp [lessO]
    | some y =>
      have m : (if y < x then y else x) = (if x ≤ y then x else y) := by split <;> split <;> omega
      simp (disch := walk_at "d") [lessO, m]
theorem greatest_ok {x y : Option Int} : F_p_law_greatest [o2p x, o2p y] = .ok (.sh (o2p (greatO x y))) := by
  rw [F_p_law_greatest_at]
  unfold s_p_law_greatest
  cases x with
  | none => simp [greatO]
  | some x => cases y with
    | none => simp [greatO]
    | some y =>
      have m : (if x < y then y else x) = (if y ≤ x then x else y) := by split <;> split <;> omega
      simp (disch := walk_at "d") [greatO, m]
theorem due0 {x y : Option Int} {t : PV} : F_p_law_due [.int 0, o2p x, o2p y, t] = .ok (.sh (o2p (lessO x y))) := by
  have e := least_ok (x := x) (y := y)
  rw [F_p_law_due_at]
  unfold s_p_law_due
  simp (disch := walk_at "d") [e]
theorem due1 {x y : Option Int} {t : PV} : F_p_law_due [.int 1, o2p x, o2p y, t] = .ok (.sh (o2p (greatO x y))) := by
  have e := greatest_ok (x := x) (y := y)
  rw [F_p_law_due_at]
  unfold s_p_law_due
  simp (disch := walk_at "d") [e]
theorem due2 {x y : Option Int} {t : PV} : F_p_law_due [.int 2, o2p x, o2p y, t] = .ok (.sh (o2p (addO x y))) := by
  rw [F_p_law_due_at]
  unfold s_p_law_due
  cases x <;> cases y <;> simp (disch := walk_at "d") [addO]
theorem due3 {x y : Option Int} {t : Int} : F_p_law_due [.int 3, o2p x, o2p y, .int t] = .ok (.sh (o2p (addN t x))) := by
  rw [F_p_law_due_at]
  unfold s_p_law_due
  cases x <;> simp (disch := walk_at "d")
theorem due4 {x y : Option Int} {t : Int} : F_p_law_due [.int 4, o2p x, o2p y, .int t] = .ok (.sh (o2p (lowO t x))) := by
  rw [F_p_law_due_at]
  unfold s_p_law_due
  cases x with
  | none => simp (disch := walk_at "d")
  | some x =>
    have m := lw_max (t := t) (h := x)
    simp (disch := walk_at "d") [m, -max_int]
section
variable {a b c : Nf} {t : PV}
theorem made0 (h : F_Stair_and [a.P, b.P] = .ok (.obj 4 c.O)) : F_p_law_made [.int 0, a.P, b.P, t] = .ok (.obj 4 c.O) := by
  have cp : (capR true (.ok (.obj 4 c.O)) : R OV) = .ok (.obj 4 c.O) := capR_flat c.flat
  unfold Nf.P at *
  simp only [st_pv] at *
  have bk := binK_ok (c := 4) h
  rw [F_p_law_made_at]
  unfold s_p_law_made
  simp (disch := walk_at "d") [bk, cp]
theorem made1 (h : F_Stair_or [a.P, b.P] = .ok (.obj 4 c.O)) : F_p_law_made [.int 1, a.P, b.P, t] = .ok (.obj 4 c.O) := by
  have cp : (capR true (.ok (.obj 4 c.O)) : R OV) = .ok (.obj 4 c.O) := capR_flat c.flat
  unfold Nf.P at *
  simp only [st_pv] at *
  have bk := binK_ok (c := 4) h
  rw [F_p_law_made_at]
  unfold s_p_law_made
  simp (disch := walk_at "d") [bk, cp]
theorem made2 (h : F_Stair_add [a.P, b.P] = .ok (.obj 4 c.O)) : F_p_law_made [.int 2, a.P, b.P, t] = .ok (.obj 4 c.O) := by
  have cp : (capR true (.ok (.obj 4 c.O)) : R OV) = .ok (.obj 4 c.O) := capR_flat c.flat
  unfold Nf.P at *
  simp only [st_pv] at *
  have bk := binK_ok (c := 4) h
  rw [F_p_law_made_at]
  unfold s_p_law_made
  simp (disch := walk_at "d") [bk, cp]
theorem made3 {z : PV} {n : Int} (h : F_Stair_add [a.P, .int n] = .ok (.obj 4 c.O)) : F_p_law_made [.int 3, a.P, z, .int n] = .ok (.obj 4 c.O) := by
  have cp : (capR true (.ok (.obj 4 c.O)) : R OV) = .ok (.obj 4 c.O) := capR_flat c.flat
  unfold Nf.P at *
  simp only [st_pv] at *
  have bk := binK_int (c := 4) h
  rw [F_p_law_made_at]
  unfold s_p_law_made
  simp (disch := walk_at "d") [bk, cp]
theorem made4 {z : PV} (h : F_Stair_lowered [a.P, t] = .ok (.obj 4 c.O)) : F_p_law_made [.int 4, a.P, z, t] = .ok (.sh c.P) := by
  have cp : (capR true (.ok (.obj 4 c.O)) : R OV) = .ok (.obj 4 c.O) := capR_flat c.flat
  unfold Nf.P at *
  simp only [st_pv] at *
  rw [F_p_law_made_at]
  unfold s_p_law_made
  simp (disch := walk_at "d") [h, cp, Nf.O_pvf]
theorem made5 {z : PV} (h : F_Stair_later [a.P, t] = .ok (.obj 4 c.O)) : F_p_law_made [.int 5, a.P, z, t] = .ok (.sh c.P) := by
  have cp : (capR true (.ok (.obj 4 c.O)) : R OV) = .ok (.obj 4 c.O) := capR_flat c.flat
  unfold Nf.P at *
  simp only [st_pv] at *
  rw [F_p_law_made_at]
  unfold s_p_law_made
  simp (disch := walk_at "d") [h, cp, Nf.O_pvf]
end
end K02

end
section
/-! Right -/
namespace K02
open PySem L2 L3
local macro_rules | `(tactic| walk_at "d") => `(tactic| first | assumption | omega | (simp only [szl, repP_length, List.length_map, List.length_append, List.length_cons, List.length_nil, List.length_range, List.length_replicate, rngP_length, List.length_set]; omega) | exact Eq.refl _ | (simp; done) | decide)
section
variable {l : Hs} {s : Int} {r : Option Int} {l' : Hs} {s' : Int} {r' : Option Int} {a b c : Nf} (f : Fn l s r a) (g : Fn l' s' r' b)
def rEnv (d : Int) (l : Hs) (s : Int) (r : Option Int) (l' : Hs) (s' : Int) (r' : Option Int) (t : Int) (xs : PV) (a b c : Nf) : L3.Env := [some (.sh (.int d)), some (.sh (.lst [.lst (hP l), .int s, o2p r])), some (.sh (.lst [.lst (hP l'), .int s', o2p r'])), some (.sh (.int t)), some (.sh xs), some (.sh a.P), some (.sh b.P), some (.sh c.P), none, none, none]
include f g in
theorem right_turn (hc : c.ok) {d : Int} (hd : d < 5) {t : Int} {xs : PV} {x : Nat} (hx : x ≤ 10 ^ 31) (due : F_p_law_due [.int d, o2p (a.val x), o2p (b.val x), .int t] = .ok (.sh (o2p (c.val x)))) : Turn (.nm 8) [8, 9, 10] b_p_law_right_1 (.int (x : Int)) (rEnv d l s r l' s' r' t xs a b c) (rEnv d l s r l' s' r' t xs a b c) := by
  have v1 := f.va x (by omega)
  have v2 := g.va x (by omega)
  have at_ := c.at_ok hc (x := x) (by omega)
  have i := is_o2p (x := c.val x) (y := c.val x)
  have d5 : ¬ d = 5 := by omega
  refine .of ?_
  unfold b_p_law_right_1 rEnv
  unfold Nf.P at *
  simp only [st_pv] at *
  simp (disch := walk_at "d") [v1, v2, due, at_, i, d5, hd]
include f in
theorem right_turn5 (hc : c.ok) {t x : Nat} {xs : PV} (hx : x ≤ 10 ^ 31) (ht : t ≤ 10 ^ 31) (e : c.val x = a.val (x + t)) : Turn (.nm 8) [8, 9, 10] b_p_law_right_1 (.int (x : Int)) (rEnv 5 l s r l' s' r' t xs a b c) (rEnv 5 l s r l' s' r' t xs a b c) := by
  have v1 := f.va (x + t) (by omega)
  rw [show (((x + t : Nat)) : Int) = (x : Int) + t by omega] at v1
  have at_ := c.at_ok hc (x := x) (by omega)
  rw [e] at at_
  have i := is_o2p (x := a.val (x + t)) (y := a.val (x + t))
  generalize a.val (x + t) = z at *
  generalize (t : Int) = T at *
  generalize (x : Int) = X at *
  refine .of ?_
  unfold b_p_law_right_1 rEnv
  unfold Nf.P at *
  simp only [st_pv] at *
  simp (disch := walk_at "d") [v1, at_, i]
include f g in
theorem right_of (hc : c.ok) {d t : Int} {xs : List Nat} {o : OV} (hm : F_p_law_made [.int d, a.P, b.P, .int t] = .ok o) (cp : (capR true (.ok o) : R OV) = .ok o) (op : o.pv = c.P) (tn : ∀ x ∈ xs, Turn (.nm 8) [8, 9, 10] b_p_law_right_1 (.int (x : Int)) (rEnv d l s r l' s' r' t (.lst (xs.map fun (x : Nat) => .int x)) a b c) (rEnv d l s r l' s' r' t (.lst (xs.map fun (x : Nat) => .int x)) a b c)) : F_p_law_right [.int d, .lst [.lst (hP l), .int s, o2p r], .lst [.lst (hP l'), .int s', o2p r'], .int t, .lst (xs.map fun (x : Nat) => .int x)] = .ok (.sh (.bl true)) := by
  have lp := forGo_same (T := .nm 8) (fg := [8, 9, 10]) (fb := b_p_law_right_1) (f := fun (x : Nat) => PV.int x) xs tn
  have i1 := f.ini
  have i2 := g.ini
  have n1 := f.nor
  have n2 := g.nor
  have n3 := c.nor hc
  have s1 := a.same f.ok
  have s2 := b.same g.ok
  have s3 := c.same hc
  have c1 : (capR true (.ok (.obj 4 a.O)) : R OV) = .ok (.obj 4 a.O) := capR_flat a.flat
  have c2 : (capR true (.ok (.obj 4 b.O)) : R OV) = .ok (.obj 4 b.O) := capR_flat b.flat
  unfold rEnv at lp
  rw [F_p_law_right_at]
  unfold s_p_law_right
  generalize (xs.map fun (x : Nat) => PV.int x) = X at *
  unfold Nf.P at *
  simp only [st_pv] at *
  simp (disch := walk_at "d") [i1, i2, n1, n2, n3, s1, s2, s3, c1, c2, Nf.O_pvf, hm, cp, op, lp]
end
end K02

end
section
/-! Right for every deed -/
namespace K02
open PySem L2 L3
local macro_rules | `(tactic| walk_at "d") => `(tactic| first | assumption | omega | (simp only [szl, repP_length, List.length_map, List.length_append, List.length_cons, List.length_nil, List.length_range, List.length_replicate, rngP_length, List.length_set]; omega) | exact Eq.refl _ | (simp; done) | decide)
section
variable {l : Hs} {s : Int} {r : Option Int} {l' : Hs} {s' : Int} {r' : Option Int} {a b : Nf} (f : Fn l s r a) (g : Fn l' s' r' b)
theorem Nf.cap {c : Nf} : (capR true (.ok (.obj 4 c.O)) : R OV) = .ok (.obj 4 c.O) := capR_flat c.flat
theorem cap_P {c : Nf} : (capR true (.ok (.sh c.P)) : R OV) = .ok (.sh c.P) := rfl
theorem pv_P {c : Nf} : (OV.sh c.P).pv = c.P := by rw [OV.pv]
include f g in
theorem right0 {t : Int} {xs : List Nat} (hx : ∀ x ∈ xs, x ≤ 10 ^ 31) : F_p_law_right [.int 0, .lst [.lst (hP l), .int s, o2p r], .lst [.lst (hP l'), .int s', o2p r'], .int t, .lst (xs.map fun (x : Nat) => .int x)] = .ok (.sh (.bl true)) := by
  obtain ⟨c, c1, c2, c3⟩ := join_and f.ok g.ok (jj_ok f g)
  exact right_of f g c1 (made0 c2) Nf.cap c.P_pvf fun x h => right_turn f g c1 (by omega) (hx x h) (by rw [c3]; exact due0)
include f g in
theorem right1 {t : Int} {xs : List Nat} (hx : ∀ x ∈ xs, x ≤ 10 ^ 31) : F_p_law_right [.int 1, .lst [.lst (hP l), .int s, o2p r], .lst [.lst (hP l'), .int s', o2p r'], .int t, .lst (xs.map fun (x : Nat) => .int x)] = .ok (.sh (.bl true)) := by
  obtain ⟨c, c1, c2, c3⟩ := join_or f.ok g.ok (jj_ok f g)
  exact right_of f g c1 (made1 c2) Nf.cap c.P_pvf fun x h => right_turn f g c1 (by omega) (hx x h) (by rw [c3]; exact due1)
include f g in
theorem right2 {t : Int} {xs : List Nat} (hx : ∀ x ∈ xs, x ≤ 10 ^ 31) : F_p_law_right [.int 2, .lst [.lst (hP l), .int s, o2p r], .lst [.lst (hP l'), .int s', o2p r'], .int t, .lst (xs.map fun (x : Nat) => .int x)] = .ok (.sh (.bl true)) := by
  obtain ⟨c, c1, c2, c3⟩ := join_sum f.ok g.ok (jj_ok f g)
  exact right_of f g c1 (made2 c2) Nf.cap c.P_pvf fun x h => right_turn f g c1 (by omega) (hx x h) (by rw [c3]; exact due2)
include f g in
theorem right3 {t : Nat} {xs : List Nat} (hx : ∀ x ∈ xs, x ≤ 10 ^ 31) : F_p_law_right [.int 3, .lst [.lst (hP l), .int s, o2p r], .lst [.lst (hP l'), .int s', o2p r'], .int (t : Int), .lst (xs.map fun (x : Nat) => .int x)] = .ok (.sh (.bl true)) := by
  obtain ⟨c, c1, c2, c3⟩ := plus_ok (a := a) (n := (t : Int)) f.ok (by
    have := a.nn f.ok 0
    cases q : a.val 0 with
    | none => exact True.intro
    | some v =>
      rw [q] at this
      have this : 0 ≤ v := this
      show 0 ≤ v + t
      omega)
  exact right_of f g c1 (made3 c2) Nf.cap c.P_pvf fun x h => right_turn f g c1 (by omega) (hx x h) (by rw [c3]; exact due3)
include f in
theorem low_bound {t : Nat} (ht : t ≤ 40) : ∀ H p u, a = .num H p u → 0 < u → ∃ y : Nat, (t : Int) ≤ fv H p u y ∧ y + p ≤ 600 := by
  intro H p u e hu
  subst e
  have ok : NumOk H p u := f.ok
  have a1 := ok.steps (x := H.length - p) (Nat.le_refl _) 40
  have a2 := ok.g.nn (H.length - p)
  have a3 : H.length - p ≤ 4 := f.s4
  have a4 : p ≤ 4 := f.p4
  exact ⟨H.length - p + p * 40, by omega, by omega⟩
include f in
theorem u_bound : ∀ H p u, a = .num H p u → u < 2 ^ 200 := by
  intro H p u e
  subst e
  have := f.uu
  omega
include f g in
theorem right4 {t : Nat} (ht : t ≤ 40) {xs : List Nat} (hx : ∀ x ∈ xs, x ≤ 10 ^ 31) : F_p_law_right [.int 4, .lst [.lst (hP l), .int s, o2p r], .lst [.lst (hP l'), .int s', o2p r'], .int (t : Int), .lst (xs.map fun (x : Nat) => .int x)] = .ok (.sh (.bl true)) := by
  obtain ⟨c, c1, c2, c3⟩ := lowered_ok (a := a) (t := t) f.ok (Nat.lt_of_le_of_lt ht (by decide +kernel)) (u_bound f) (low_bound f ht)
  exact right_of f g c1 (made4 c2) cap_P pv_P fun x h => right_turn f g c1 (by omega) (hx x h) (by rw [c3]; exact due4)
include f g in
theorem right5 {t : Nat} (ht : t ≤ 10 ^ 31) {xs : List Nat} (hx : ∀ x ∈ xs, x ≤ 10 ^ 31) : F_p_law_right [.int 5, .lst [.lst (hP l), .int s, o2p r], .lst [.lst (hP l'), .int s', o2p r'], .int (t : Int), .lst (xs.map fun (x : Nat) => .int x)] = .ok (.sh (.bl true)) := by
  obtain ⟨c, c1, c2, c3⟩ := later_ok (a := a) (t := t) f.ok (by omega)
  exact right_of f g c1 (made5 c2) cap_P pv_P fun x h => right_turn5 f c1 (hx x h) ht (c3 x)
end
end K02

end
section
/-! Above: none -/
namespace K02
open PySem L2 L3
local macro_rules | `(tactic| walk_at "d") => `(tactic| first | assumption | omega | (simp only [szl, repP_length, List.length_map, List.length_append, List.length_cons, List.length_nil, List.length_range, List.length_replicate, rngP_length, List.length_set]; omega) | exact Eq.refl _ | (simp; done) | decide)
theorem flat_le {H : List Int} {p : Nat} (ha : NumOk H p 0) (x : Nat) : ∃ y, y < H.length ∧ fv H p 0 x = fv H p 0 y ∧ y ≤ x := by
  have pb := ha.b
  by_cases h : x < H.length
  · exact ⟨x, h, rfl, Nat.le_refl _⟩
  · obtain ⟨e1, e2, e3⟩ := tail_at ha (y := x) (by omega)
    exact ⟨H.length - p + (x - (H.length - p)) % p, by omega, by rw [e1, Int.mul_zero, Int.add_zero], by omega⟩
theorem fa_bound {a : Nf} (ha : a.ok) (s4 : a.st ≤ 4) (p4 : a.stp ≤ 4) {N : Int} (hN : N ≤ 10 ^ 26) {x : Nat} (h : FA a N (some x)) : x ≤ 10 ^ 30 := by
  apply Classical.byContradiction
  intro q
  cases a with
  | non H =>
    have s4 : H.length ≤ 4 := s4
    have := h.2 H.length (by omega)
    rw [non_ge (Nat.le_refl _)] at this
    cases this
  | num H p u =>
    have ok : NumOk H p u := ha
    have s4 : H.length - p ≤ 4 := s4
    have p4 : p ≤ 4 := p4
    have pb := ok.b
    by_cases z : u = 0
    · subst z
      obtain ⟨y, y1, y2, y3⟩ := flat_le ok x
      have h1 : abv N (some (fv H p 0 x)) = true := h.1
      have h2 : abv N (some (fv H p 0 y)) = false := h.2 y (by omega)
      rw [y2, h2] at h1
      cases h1
    · have u0 := ok.g.u0
      have st := ok.steps (x := H.length - p) (Nat.le_refl _) (N.toNat + 1)
      have nn := ok.g.nn (H.length - p)
      have pk : p * (N.toNat + 1) ≤ 4 * (N.toNat + 1) := Nat.mul_le_mul_right _ p4
      have h2 : abv N (some (fv H p u (H.length - p + p * (N.toNat + 1)))) = false := h.2 _ (by omega)
      rw [abv_some, decide_eq_false_iff_not, st] at h2
      have : ((N.toNat + 1 : Nat) : Int) * 1 ≤ ((N.toNat + 1 : Nat) : Int) * u := Int.mul_le_mul_of_nonneg_left (by omega) (by omega)
      omega
section
variable {l : Hs} {s : Int} {r : Option Int} {a : Nf} (f : Fn l s r a)
include f
theorem Fn.at_l {i : Nat} (h : i < l.length) : atI (hP l) (i : Int) = some (o2p (a.val i)) := by
  rw [nth_at (by omega) (by omega), Int.toNat_natCast, f.el i h]
theorem Fn.first : atI (hP l) 0 = some (o2p (a.val 0)) := by
  have b := a.bnd f.ok
  have := f.len
  exact f.at_l (i := 0) (by omega)
theorem Fn.last : atI (hP l) (-1) = some (o2p (a.val (l.length - 1))) := by
  have b := a.bnd f.ok
  have := f.len
  have e := f.at_l (i := l.length - 1) (by omega)
  unfold atI ixN at e ⊢
  rw [hP_len] at e ⊢
  rw [if_pos (by omega), if_pos (by omega)] at e
  rw [if_neg (by omega), if_pos (by omega)]
  rw [show ((-1 : Int) + (l.length : Int)).toNat = ((l.length - 1 : Nat) : Int).toNat by omega]
  exact e
theorem above_none {N : Int} (h : F_Stair_first_above [a.P, .int N] = .ok (.sh .non)) (h2 : FA a N none) : F_p_law_above [.lst [.lst (hP l), .int s, o2p r], .int N] = .ok (.sh (.bl true)) := by
  have b := a.bnd f.ok
  have len := f.len
  obtain ⟨f1, f2⟩ := h2
  have r0 := f.rz.mpr f1
  subst r0
  obtain ⟨v, hv⟩ : ∃ v, a.val (l.length - 1) = some v := by
    have := f2 (l.length - 1)
    cases q : a.val (l.length - 1) with
    | none => rw [q] at this; cases this
    | some v => exact ⟨v, rfl⟩
  have hle : v ≤ N := by
    have := f2 (l.length - 1)
    rw [hv, abv_some, decide_eq_false_iff_not] at this
    omega
  have last := f.last
  rw [hv, o2p_some] at last
  have ini := f.ini
  have c1 : (capR true (.ok (.obj 4 a.O)) : R OV) = .ok (.obj 4 a.O) := capR_flat a.flat
  unfold Nf.P at *
  simp only [st_pv, o2p_some] at *
  rw [F_p_law_above_at]
  unfold s_p_law_above
  simp (disch := walk_at "d") [ini, c1, Nf.O_pvf, h, last, hle]
end
end K02

end
section
/-! Above -/
namespace K02
open PySem L2 L3
local macro_rules | `(tactic| walk_at "d") => `(tactic| first | assumption | omega | (simp only [szl, repP_length, List.length_map, List.length_append, List.length_cons, List.length_nil, List.length_range, List.length_replicate, rngP_length, List.length_set]; omega) | exact Eq.refl _ | (simp; done) | decide)
section
variable {l : Hs} {s : Int} {r : Option Int} {a : Nf} (f : Fn l s r a)
include f
theorem above_some {N : Int} {x : Nat} (hN : N ≤ 10 ^ 26) (h : F_Stair_first_above [a.P, .int N] = .ok (.sh (.int x))) (h2 : FA a N (some x)) : F_p_law_above [.lst [.lst (hP l), .int s, o2p r], .int N] = .ok (.sh (.bl true)) := by
  have xb := fa_bound f.ok f.s4 f.p4 hN h2
  have b := a.bnd f.ok
  have len := f.len
  obtain ⟨f1, f2⟩ := h2
  have va := f.va x (by omega)
  have last := f.last
  have ini := f.ini
  have c1 : (capR true (.ok (.obj 4 a.O)) : R OV) = .ok (.obj 4 a.O) := capR_flat a.flat
  have x0 : ¬ (x : Int) < 0 := by omega
  have cond : (bAnd (eTst (eBin pyEq (eIdx (eVar 0) (eCst (.int 2))) (eCst (.int 0)))) (eTst (eBin pyLe (eIdx (eIdx (eVar 0) (eCst (.int 0))) (eUn pyNeg (eCst (.int 1)))) (eVar 1)))) [some (.sh (.lst [.lst (hP l), .int s, o2p r])), some (.sh (.int N)), some (.sh (.int x)), none, none] = .ok false := by
    cases r with
    | none =>
      have e0 : pyEq .non (.int 0) = .ok (.bl false) := eq_cln 1 (by omega) rfl rfl
      simp (disch := walk_at "d") [e0]
    | some k =>
      by_cases hk : k = 0
      · subst hk
        obtain ⟨H, p, u, rfl⟩ := ri_val (a := a) (by rw [f.rz.mp rfl]; simp)
        have u0 : (some u : Option Int) = some 0 := f.rz.mp rfl
        cases u0
        have ok : NumOk H p 0 := f.ok
        obtain ⟨y, y1, y2, y3⟩ := flat_le ok x
        have d1 : N < fv H p 0 x := by
          have f1 : abv N (some (fv H p 0 x)) = true := f1
          simpa using f1
        have pb := ok.b
        have len : H.length - p + p ≤ l.length := f.len.1
        have d2 := fv_mono' ok.g (x := y) (y := l.length - 1) (by omega)
        have last : atI (hP l) (-1) = some (.int (fv H p 0 (l.length - 1))) := last
        have d3 : ¬ fv H p 0 (l.length - 1) ≤ N := by omega
        simp (disch := walk_at "d") [last, d3]
      · simp (disch := walk_at "d") [hk]
  by_cases hx : x = 0
  · subst hx
    cases q : a.val 0 with
    | none =>
      rw [q, o2p_none] at va
      unfold Nf.P at *
      simp only [st_pv, Int.ofNat_zero] at *
      rw [F_p_law_above_at]
      unfold s_p_law_above
      simp (disch := walk_at "d") [ini, c1, Nf.O_pvf, h, ↓cond, va]
    | some v =>
      rw [q, o2p_some] at va
      rw [q, abv_some, decide_eq_true_eq] at f1
      have f1' : ¬ v ≤ N := by omega
      unfold Nf.P at *
      simp only [st_pv, Int.ofNat_zero] at *
      rw [F_p_law_above_at]
      unfold s_p_law_above
      simp (disch := walk_at "d") [ini, c1, Nf.O_pvf, h, ↓cond, va, f1']
  · have vb := f.va (x - 1) (by omega)
    have f3 := f2 (x - 1) (by omega)
    rw [show ((x - 1 : Nat) : Int) = (x : Int) - 1 by omega] at vb
    have hx' : ¬ (x : Int) = 0 := by omega
    cases q2 : a.val (x - 1) with
    | none => rw [q2] at f3; cases f3
    | some w =>
      rw [q2, o2p_some] at vb
      rw [q2, abv_some, decide_eq_false_iff_not] at f3
      have f3' : w ≤ N := by omega
      generalize (x : Int) = X at *
      cases q : a.val x with
      | none =>
        rw [q, o2p_none] at va
        unfold Nf.P at *
        simp only [st_pv] at *
        rw [F_p_law_above_at]
        unfold s_p_law_above
        simp (disch := walk_at "d") [ini, c1, Nf.O_pvf, h, ↓cond, va, vb, hx', x0, f3']
      | some v =>
        rw [q, o2p_some] at va
        rw [q, abv_some, decide_eq_true_eq] at f1
        have f1' : ¬ v ≤ N := by omega
        unfold Nf.P at *
        simp only [st_pv] at *
        rw [F_p_law_above_at]
        unfold s_p_law_above
        simp (disch := walk_at "d") [ini, c1, Nf.O_pvf, h, ↓cond, va, vb, hx', x0, f3', f1']
theorem above_ok {N : Int} (hN : N.natAbs ≤ 10 ^ 26) : F_p_law_above [.lst [.lst (hP l), .int s, o2p r], .int N] = .ok (.sh (.bl true)) := by
  obtain ⟨o, o1, o2⟩ := fa_ok f.ok (N := N) (Nat.lt_of_le_of_lt hN (by decide +kernel)) (u_bound f)
  cases o with
  | none => exact above_none f o1 o2
  | some x => exact above_some f (by omega) o1 o2
end
end K02

end
section
/-! Equals -/
namespace K02
open PySem L2 L3
local macro_rules | `(tactic| walk_at "d") => `(tactic| first | assumption | omega | (simp only [szl, repP_length, List.length_map, List.length_append, List.length_cons, List.length_nil, List.length_range, List.length_replicate, rngP_length, List.length_set]; omega) | exact Eq.refl _ | (simp; done) | decide)
def sameN (a b : Nf) : Bool := decide (hP a.hs = hP b.hs) && (decide (a.stp = b.stp) && decide (o2p a.ri = o2p b.ri))
theorem cln_o2p {n : Nat} {o : Option Int} : cln n (o2p o) = true := by cases o <;> cases n <;> rfl
theorem all_cln {l : Hs} {n : Nat} : (hP l).all (cln n) = true := by
  unfold hP
  rw [List.all_map, List.all_eq_true]
  intro x _
  exact cln_o2p
theorem stair_eq {a b : Nf} : F_Stair_eq [a.P, b.P] = .ok (.sh (.bl (sameN a b))) := by
  have e1 := eq_cln 1 (p := .tup (hP a.hs)) (q := .tup (hP b.hs)) (by omega) all_cln all_cln
  have e3 := eq_cln 1 (p := o2p a.ri) (q := o2p b.ri) (by omega) cln_o2p cln_o2p
  have d1 : decide (PV.tup (hP a.hs) = .tup (hP b.hs)) = decide (hP a.hs = hP b.hs) := decide_eq_decide.mpr ⟨fun h => by injection h, fun h => by rw [h]⟩
  rw [d1] at e1
  have is := isi_st (a := b)
  unfold Nf.P at *
  simp only [st_pv] at *
  rw [F_Stair_eq_at]
  unfold s_Stair_eq sameN
  have d2 : decide ((a.stp : Int) = (b.stp : Int)) = decide (a.stp = b.stp) := decide_eq_decide.mpr Int.ofNat_inj
  simp [is, e1, e3, d2]
theorem norm_eq {a b : Nf} : pyEq (.lst [.lst (hP a.hs), .int a.stp, o2p a.ri]) (.lst [.lst (hP b.hs), .int b.stp, o2p b.ri]) = .ok (.bl (sameN a b)) := by
  have hc : ∀ c : Nf, cln 2 (.lst [.lst (hP c.hs), .int c.stp, o2p c.ri]) = true := fun c => by
    show ((hP c.hs).all (cln 0) && (true && (cln 1 (o2p c.ri) && true))) = true
    rw [all_cln, cln_o2p]; rfl
  rw [eq_cln 2 (by omega) (hc a) (hc b)]
  congr 2
  unfold sameN
  rw [← Bool.decide_and, ← Bool.decide_and]
  refine decide_eq_decide.mpr ⟨fun h => ?_, fun h => ?_⟩
  · injection h with h
    injection h with h1 h
    injection h with h2 h
    injection h with h3 h
    injection h1 with h1
    injection h2 with h2
    exact ⟨h1, by omega, h3⟩
  · rw [h.1, h.2.1, h.2.2]
theorem eqo_st {a b : Nf} {neg : Bool} : eqoK 4 F_Stair_eq neg (.ins 4 (stF (hP a.hs) a.st a.stp a.ri)) (.ins 4 (stF (hP b.hs) b.st b.stp b.ri)) = .ok (.bl (if neg then !sameN a b else sameN a b)) := by
  have := stair_eq (a := a) (b := b)
  unfold Nf.P stP at this
  unfold eqoK
  simp [eqY, this]
theorem same_self {a : Nf} : sameN a a = true := by simp [sameN]
theorem same_0 {a b : Nf} (ha : a.ok) (hb : b.ok) (h : sameN a b = true) : a.val 0 = b.val 0 := by
  unfold sameN at h
  rw [Bool.and_eq_true, decide_eq_true_eq] at h
  have a1 := hs_at ha (x := 0) (by have := a.bnd ha; omega)
  have b1 := hs_at hb (x := 0) (by have := b.bnd hb; omega)
  rw [h.1] at a1
  rw [a1] at b1
  have := Option.some.inj b1
  generalize a.val 0 = y at *
  generalize b.val 0 = z at *
  cases y with
  | none => cases z with
    | none => rfl
    | some z => cases this
  | some y => cases z with
    | none => cases this
    | some z =>
      have this : PV.int y = PV.int z := this
      injection this with this
      rw [this]
theorem none_0 {a : Nf} (h : a.val 0 = none) : a = .non [] := by
  cases a with
  | num H p u => cases h
  | non H =>
    have h : (if 0 < H.length then some (el H 0) else none) = none := h
    by_cases c : 0 < H.length
    · rw [if_pos c] at h; cases h
    · cases H with
      | nil => rfl
      | cons x H => exact absurd (Nat.succ_pos _) c
section
variable {l : Hs} {s : Int} {r : Option Int} {l' : Hs} {s' : Int} {r' : Option Int} {a b : Nf} (f : Fn l s r a) (g : Fn l' s' r' b)
include f g
theorem equals_ok : F_p_law_equals [.lst [.lst (hP l), .int s, o2p r], .lst [.lst (hP l'), .int s', o2p r']] = .ok (.sh (.bl true)) := by
  have i1 := f.ini
  have i2 := g.ini
  have n1 := f.nor
  have n2 := g.nor
  have c1 : (capR true (.ok (.obj 4 a.O)) : R OV) = .ok (.obj 4 a.O) := capR_flat a.flat
  have c2 : (capR true (.ok (.obj 4 b.O)) : R OV) = .ok (.obj 4 b.O) := capR_flat b.flat
  have e1 := eqo_st (a := a) (b := a) (neg := false)
  have e2 := eqo_st (a := a) (b := a) (neg := true)
  have e3 := eqo_st (a := a) (b := b) (neg := false)
  have ne := norm_eq (a := a) (b := b)
  rw [same_self] at e1 e2
  obtain ⟨c, k1, k2, k3⟩ := plus_ok (a := a) (n := 1) f.ok (by
    have := a.nn f.ok 0
    cases q : a.val 0 with
    | none => exact True.intro
    | some v =>
      rw [q] at this
      have this : 0 ≤ v := this
      show 0 ≤ v + 1
      omega)
  have cc : (capR true (.ok (.obj 4 c.O)) : R OV) = .ok (.obj 4 c.O) := capR_flat c.flat
  have e4 := eqo_st (a := a) (b := c) (neg := false)
  have first := f.first
  have d : sameN a c = (a.val 0).isNone := by
    cases q : a.val 0 with
    | none =>
      have k0 := k3 0
      rw [q] at k0
      rw [none_0 q, none_0 k0]
      exact same_self
    | some v =>
      cases z : sameN a c with
      | false => rfl
      | true =>
        have := same_0 f.ok k1 z
        rw [k3, q] at this
        have : v = v + 1 := Option.some.inj this
        omega
  rw [d] at e4
  generalize sameN a b = z at *
  generalize (a.val 0) = y at *
  unfold Nf.P at *
  simp only [st_pv] at *
  have bk := binK_int (c := 4) k2
  rw [F_p_law_equals_at]
  unfold s_p_law_equals
  simp (disch := walk_at "d") [i1, i2, n1, n2, c1, c2, Nf.O_pvf, e1, e2, e3, ne, bk, cc, e4, first]
end
end K02

end
section
/-! Refusals -/
namespace K02
open PySem L2 L3
local macro_rules | `(tactic| walk_at "d") => `(tactic| first | assumption | omega | (simp only [szl, repP_length, List.length_map, List.length_append, List.length_cons, List.length_nil, List.length_range, List.length_replicate, rngP_length, List.length_set]; omega) | exact Eq.refl _ | (simp; done) | decide)
@[simp] theorem int_bl {b : Bool} : bInt [.bl b] = .ok (.int (if b = true then 1 else 0)) := nr rfl
theorem binK_eri {c : Nat} {Fn : List PV → R OV} {fs : List (Str × PV)} {i : Int} {x : PX} (h : Fn [.ins c fs, .int i] = .er x) (hx : (capR true (.er x) : R OV) = .er x) : binK true c Fn (.ins c fs) (.int i) = .er x := by
  unfold binK
  simp [binY, h, hx]
section
variable {l : Hs} {s : Int} {r : Option Int} {a : Nf} (f : Fn l s r a)
include f
theorem refusals_ok {t : Int} (ht : 0 ≤ t) : F_p_law_refusals [.lst [.lst (hP l), .int s, o2p r], .int t] = .ok (.sh (.bl true)) := by
  have i1 := f.ini
  have c1 : (capR true (.ok (.obj 4 a.O)) : R OV) = .ok (.obj 4 a.O) := capR_flat a.flat
  have e1 := later_bad (a := a) (n := -1 - t) (by omega)
  have e2 := lowered_bad (a := a) (n := -1 - t) (by omega)
  have ca : ∀ n, (capR true (.er (badA n)) : R OV) = .er (badA n) := fun n => capR_flat_er (by rfl)
  have cb : (capR true (.er badS) : R OV) = .er badS := capR_flat_er (by rfl)
  have is := is_int (x := -1 - t) (y := -1 - t)
  have first := f.first
  cases q : a.val 0 with
  | none =>
    rw [q, o2p_none] at first
    unfold Nf.P badA at *
    simp only [st_pv] at *
    rw [F_p_law_refusals_at]
    unfold s_p_law_refusals
    simp (disch := walk_at "d") [i1, c1, Nf.O_pvf, e1, e2, ca, is, first]
  | some v =>
    rw [q, o2p_some] at first
    have e3 := plus_bad (n := -1 - v) f.ok q (by omega)
    obtain ⟨c, k1, k2, k3⟩ := plus_ok (a := a) (n := 0 - v) f.ok (by
      rw [q]
      show 0 ≤ v + (0 - v)
      omega)
    have cc : (capR true (.ok (.obj 4 c.O)) : R OV) = .ok (.obj 4 c.O) := capR_flat c.flat
    have at0 := c.at_ok k1 (x := 0) (by omega)
    rw [k3, q, addN_some, o2p_some, show v + (0 - v) = 0 by omega] at at0
    have z : (0 : Int) - v = -v := by omega
    rw [z] at k2
    unfold Nf.P badA badS at *
    simp only [st_pv, Int.ofNat_zero] at *
    have fe : ∀ x, fldR "heights" ok_heights (.er x) = .er x := fun _ => rfl
    have bk := binK_int (c := 4) k2
    have bk2 := binK_eri (c := 4) e3 cb
    rw [F_p_law_refusals_at]
    unfold s_p_law_refusals
    simp (disch := walk_at "d") [i1, c1, Nf.O_pvf, e1, e2, ca, cb, is, first, bk, bk2, cc, at0, fe]
end
end K02

end
section
/-! A result of 601 heights -/
namespace K02
open PySem L2 L3
local macro_rules | `(tactic| walk_at "d") => `(tactic| first | assumption | omega | (simp only [szl, repP_length, List.length_map, List.length_append, List.length_cons, List.length_nil, List.length_range, List.length_replicate, rngP_length, List.length_set]; omega) | exact Eq.refl _ | (simp; done) | decide)
theorem long600_0 : F_p_law_long [.int 0, .int 600] = .ok (.sh (.bl true)) := by kernel_rfl
theorem long600_1 : F_p_law_long [.int 1, .int 600] = .ok (.sh (.bl true)) := by kernel_rfl
theorem long600_2 : F_p_law_long [.int 2, .int 600] = .ok (.sh (.bl true)) := by kernel_rfl
end K02

end
section
/-! A result of 600 heights -/
namespace K02
open PySem L2 L3
local macro_rules | `(tactic| walk_at "d") => `(tactic| first | assumption | omega | (simp only [szl, repP_length, List.length_map, List.length_append, List.length_cons, List.length_nil, List.length_range, List.length_replicate, rngP_length, List.length_set]; omega) | exact Eq.refl _ | (simp; done) | decide)
theorem long599_0 : F_p_law_long [.int 0, .int 599] = .ok (.sh (.bl true)) := by kernel_rfl
theorem long599_1 : F_p_law_long [.int 1, .int 599] = .ok (.sh (.bl true)) := by kernel_rfl
theorem long599_2 : F_p_law_long [.int 2, .int 599] = .ok (.sh (.bl true)) := by kernel_rfl
theorem long_ok {d : Int} {z : Int} (h0 : 0 ≤ d) (h3 : d < 3) (hz : z = 599 ∨ z = 600) : F_p_law_long [.int d, .int z] = .ok (.sh (.bl true)) := by
  have : d = 0 ∨ d = 1 ∨ d = 2 := by omega
  rcases hz with rfl | rfl
  · rcases this with rfl | rfl | rfl
    · exact long599_0
    · exact long599_1
    · exact long599_2
  · rcases this with rfl | rfl | rfl
    · exact long600_0
    · exact long600_1
    · exact long600_2
end K02

end
section
/-! The law's loops -/
namespace K02
open PySem L2 L3
local macro_rules | `(tactic| walk_at "d") => `(tactic| first | assumption | omega | (simp only [szl, repP_length, List.length_map, List.length_append, List.length_cons, List.length_nil, List.length_range, List.length_replicate, rngP_length, List.length_set]; omega) | exact Eq.refl _ | (simp; done) | decide)
theorem places {n : Nat} {A B C : Int} (hn : n ≤ 1000) (hA : 0 ≤ A ∧ A ≤ 10 ^ 30) (hB : 0 ≤ B ∧ B ≤ 10 ^ 30) (hC : 0 ≤ C ∧ C ≤ 10 ^ 30) : ∃ xs : List Nat, (rngP 0 n ++ [.int A, .int B, .int C]) = xs.map (fun (x : Nat) => PV.int x) ∧ ∀ x ∈ xs, x ≤ 10 ^ 31 := by
  refine ⟨List.range n ++ [A.toNat, B.toNat, C.toNat], ?_, fun x hx => ?_⟩
  · rw [rngP_eq, List.map_append]
    have : (List.range n).map (fun (k : Nat) => PV.int (0 + (k : Int))) = (List.range n).map (fun (k : Nat) => PV.int (k : Int)) := List.map_congr_left fun x _ => by rw [Int.zero_add]
    rw [this]
    simp [Int.toNat_of_nonneg hA.1, Int.toNat_of_nonneg hB.1, Int.toNat_of_nonneg hC.1, hA.1, hB.1, hC.1]
  · simp only [List.mem_append, List.mem_range, List.mem_cons, List.not_mem_nil, or_false] at hx
    rcases hx with h | rfl | rfl | rfl <;> omega
def wEnv (ns : List Int) (F G N : PV) (A B C t : Int) : L3.Env := [some (.sh (.scr (ns.map .int))), some (.sh F), some (.sh G), some (.sh N), some (.sh (.lst [.int A, .int B, .int C])), some (.sh (.int t)), none, none]
section
variable {ns : List Int} {F G N : PV} {A B C t : Int}
theorem turn1 {d : Int} (h : F_p_law_right [.int d, F, G, .int 0, .lst (rngP 0 160 ++ [.int A, .int B, .int C])] = .ok (.sh (.bl true))) : Turn (.nm 6) [6] b_law_1 (.int d) (wEnv ns F G N A B C t) (wEnv ns F G N A B C t) := by
  refine .of ?_
  unfold b_law_1 wEnv
  simp (disch := walk_at "d") [h]
theorem turn2 {d : Int} (h : F_p_law_right [.int d, F, G, .int t, .lst (rngP 0 90 ++ [.int A, .int B, .int C])] = .ok (.sh (.bl true))) : Turn (.nm 6) [6] b_law_2 (.int d) (wEnv ns F G N A B C t) (wEnv ns F G N A B C t) := by
  refine .of ?_
  unfold b_law_2 wEnv
  simp (disch := walk_at "d") [h]
theorem turn3 {z : Int} (h1 : F_p_law_above [F, .int z] = .ok (.sh (.bl true))) (h2 : F_p_law_above [G, .int z] = .ok (.sh (.bl true))) : Turn (.nm 7) [7] b_law_3 (.int z) (wEnv ns F G N A B C t) (wEnv ns F G N A B C t) := by
  refine .of ?_
  unfold b_law_3 wEnv
  simp (disch := walk_at "d") [h1, h2]
end
end K02

end
section
/-! The law -/
namespace K02
open PySem L2 L3
local macro_rules | `(tactic| walk_at "d") => `(tactic| first | assumption | omega | (simp only [szl, repP_length, List.length_map, List.length_append, List.length_cons, List.length_nil, List.length_range, List.length_replicate, rngP_length, List.length_set]; omega) | exact Eq.refl _ | (simp; done) | decide)
theorem modE (z m : Int) (hm : 0 < m) : ∃ B, ab z % m = B ∧ 0 ≤ B ∧ B < m := ⟨_, rfl, Int.emod_nonneg _ (by omega), Int.emod_lt_of_pos _ hm⟩
theorem law_ok (ns : List Int) : F_law [.scr (ns.map .int)] = .ok (.sh (.bl true)) := by
  obtain ⟨l, s, r, a, hf, f⟩ := fn_ok ns 0 (K := 0) rfl
  obtain ⟨l', s', r', b, hg, g⟩ := fn_ok ns 4 (K := 4) rfl
  have c3 := cellL (ns := ns) 3 (K := 3) rfl
  have c7 := cellL (ns := ns) 7 (K := 7) rfl
  have c8 := cellL (ns := ns) 8 (K := 8) rfl
  have c9 := cellL (ns := ns) 9 (K := 9) rfl
  have c10 := cellL (ns := ns) 10 (K := 10) rfl
  have en := nums_ok' (c := cell ns 3) (s := 30) (N := 8) (n := 8) (m := 1000) rfl (by omega) (by omega) (by omega)
  have hn := nums_len (c := cell ns 3) (s := 30) (n := 8) (m := 1000) (by omega)
  have hn0 := nums_mem (c := cell ns 3) (s := 30) (n := 8) (m := 1000) (by omega)
  generalize nums (cell ns 3) 30 8 1000 = n at en hn hn0
  have a0 : atI n 0 = some (el n 0) := el_at (l := n) (i := 0) (by omega)
  have a1 : atI n 1 = some (el n 1) := el_at (l := n) (i := 1) (by omega)
  have a2 : atI n 2 = some (el n 2) := el_at (l := n) (i := 2) (by omega)
  have a3 : atI n 3 = some (el n 3) := el_at (l := n) (i := 3) (by omega)
  obtain ⟨B, eB, B0, B1⟩ := modE (cell ns 7) 1000000000000000000000000000000 (by decide)
  obtain ⟨C, eC, C0, C1⟩ := modE (cell ns 8) 1000000000 (by decide)
  obtain ⟨T, eT, T0, T1⟩ := modE (cell ns 9) 100000000000000000000 (by decide)
  obtain ⟨M, eM, M0, M1⟩ := modE (cell ns 10) 10000000000000000000000000 (by decide)
  obtain ⟨t, et, t0⟩ : ∃ t : Nat, el n 0 % 40 = (t : Int) ∧ t ≤ 40 := ⟨(el n 0 % 40).toNat, by omega, by omega⟩
  obtain ⟨d2, ed2, d20, d21⟩ : ∃ d : Int, el n 2 % 3 = d ∧ 0 ≤ d ∧ d < 3 := ⟨_, rfl, by omega, by omega⟩
  obtain ⟨d3, ed3, d30, d31⟩ : ∃ d : Int, el n 3 % 3 = d ∧ 0 ≤ d ∧ d < 3 := ⟨_, rfl, by omega, by omega⟩
  obtain ⟨T, rfl⟩ : ∃ k : Nat, T = k := ⟨T.toNat, by omega⟩
  have l2 := long_ok (z := 599) d20 d21 (.inl rfl)
  have l3 := long_ok (z := 600) d30 d31 (.inr rfl)
  have q := equals_ok f g
  have rf := refusals_ok f (t := t) (by omega)
  obtain ⟨X1, e1, b1⟩ := places (n := 160) (A := 1000000000000000000000000000000) (B := B) (C := C) (by omega) (by omega) (by omega) (by omega)
  obtain ⟨X2, e2, b2⟩ := places (n := 90) (A := 1000000000000000000000000000000) (B := B) (C := C) (by omega) (by omega) (by omega) (by omega)
  obtain ⟨X3, e3, b3⟩ := places (n := 30) (A := 1000000000000000000000000000000) (B := B) (C := C) (by omega) (by omega) (by omega) (by omega)
  have r0 := right0 f g (t := 0) b1
  have r1 := right1 f g (t := 0) b1
  have r2 := right2 f g (t := 0) b1
  have r3 := right3 f g (t := t) b2
  have r4 := right4 f g (t := t) t0 b2
  have r5 := right5 f g (t := t) (by omega) b2
  have r6 := right5 f g (t := T) (by omega) b3
  rw [← e1] at r0 r1 r2
  rw [← e2] at r3 r4 r5
  rw [← e3] at r6
  have m1 := Int.emod_nonneg (el n 1) (show (94 : Int) ≠ 0 by decide)
  have m2 := Int.emod_lt_of_pos (el n 1) (show (0 : Int) < 94 by decide)
  have p1 := above_ok f (N := el n 1 % 94 - 3) (by omega)
  have p2 := above_ok g (N := el n 1 % 94 - 3) (by omega)
  have p3 := above_ok f (N := M) (by omega)
  have p4 := above_ok g (N := M) (by omega)
  generalize PV.lst [.lst (hP l), .int s, o2p r] = F at *
  generalize PV.lst [.lst (hP l'), .int s', o2p r'] = G at *
  have lp1 : forGo (.nm 6) [6] b_law_1 (rngP 0 3) (wEnv ns F G (.lst (n.map .int)) 1000000000000000000000000000000 B C t) = .nx (wEnv ns F G (.lst (n.map .int)) 1000000000000000000000000000000 B C t) := by
    rw [show rngP 0 3 = [.int 0, .int 1, .int 2] from rfl, (turn1 r0).go, (turn1 r1).go, (turn1 r2).go]
    rfl
  have lp2 : forGo (.nm 6) [6] b_law_2 (rngP 3 3) (wEnv ns F G (.lst (n.map .int)) 1000000000000000000000000000000 B C t) = .nx (wEnv ns F G (.lst (n.map .int)) 1000000000000000000000000000000 B C t) := by
    rw [show rngP 3 3 = [.int 3, .int 4, .int 5] from rfl, (turn2 r3).go, (turn2 r4).go, (turn2 r5).go]
    rfl
  have lp3 : forGo (.nm 7) [7] b_law_3 [.int (el n 1 % 94 - 3), .int M] (wEnv ns F G (.lst (n.map .int)) 1000000000000000000000000000000 B C t) = .nx (wEnv ns F G (.lst (n.map .int)) 1000000000000000000000000000000 B C t) := by
    rw [(turn3 p1 p2).go, (turn3 p3 p4).go]
    rfl
  unfold wEnv at lp1 lp2 lp3
  rw [F_law_at]
  unfold s_law
  simp (disch := walk_at "d") [hf, hg, c3, c7, c8, c9, c10, abs_ab, -abs_int, en, a0, a1, a2, a3, eB, eC, eT, eM, et, ed2, ed3, ↓lp1, ↓lp2, ↓lp3, r6, q, rf, l2, l3]
end K02

end

set_option maxHeartbeats 0 in
theorem PySem.Challenge.cw_flagfalls_k02_stairs_joined_holds : PySem.Challenge.rw_flagfalls_k02_stairs_joined.Holds := by
  exact K02.holds_of fun ns _ _ => K02.law_ok ns
