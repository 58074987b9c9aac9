import PyProof.Rows.All
import Wide.All
import OpenK.AllK
import Wide.FinOn
import KE.KExcSuper
import HandS.ForExc
import HandS.ExcCtx
import KE.KExcIs
import HandS.ExcField
import HandS.ForMost
import HandS.IsInst
import HandS.Wide
import HandS.TupAny
import HandS.SortInts
import HandS.Deep
import HandS.TryOnly
import HandS.CallSlots
import HandS.Defaults
import HandS.HotCalls
import HandS.Style
import HandS.ForList
import KE.KStateDown
import Lean
import HandS.Base
import HandS.Call
import HandS.Ends
import HandS.EndBits
import HandS.More
import HandS.Words
import HandS.WordsExc
import HandS.Head0
import HandS.Head1
import HandS.Head2
import HandS.HeadEnd
import HandS.HeadHook1
import HandS.HeadHook2
import PyProof.InstEq
import HandS.Conv
import HandS.Gcd
import KE.KMathG
import HandS.Head3
import PySem.Challenge.RW_flagfalls_k01_stairs_in_normal_form
set_option Elab.async false
set_option linter.all false
set_option maxRecDepth 100000
set_option maxHeartbeats 4000000
section
/-! An own exception class over ValueError whose __init__ says super().__init__('..') and then keeps its one argument. -/
namespace X3
open PySem PySem.W PySem.Calls PyProof.Rows PySem.HandSPX
/-- __init__'s parameters, body, scope, by its field's and argument's name -/
def supA (p1 p2 : Pos) (a : Str) : Arguments := { posonlyargs := [], args := [{ arg := "self", annotation := none, pos := p1 }, { arg := a, annotation := none, pos := p2 }], vararg := none, kwonlyargs := [], kw_defaults := [], kwarg := none, defaults := [] }
def supB (msg : Str) (a : Str) (k : Nat) (p1 p2 p3 p4 p5 p6 q1 q2 q3 q4 : Pos) : List Stmt :=
  [.Expr (.Call (.Attribute (.Call (.Name "super" p1) [] [] p2) "__init__" p3) [.Constant (.str msg) k p4] [] p5) p6,
   .Assign [.Attribute (.Name "self" q1) a q2] (.Name a q3) q4]
def supS (a : Str) : Scope := { kind := .function, names := [("self", .local), (a, .local), ("__class__", .free), ("super", .globalImplicit)], isGenerator := false, isCoroutine := false, more := [] }
/-- its arguments bind as they stand -/
def BindS (f : Str) : Prop := ∀ (qual : Str) (p1 p2 : Pos) (body : List Stmt) (doc pm : Value) (an : Option Addr) (cdv ct : Value) (cc : Addr) (x v : Value),
  bindArgs (ksFn "__init__" qual (supA p1 p2 f) body (supS f) .none .none doc pm an cdv ct cc) ⟨[x, v], []⟩ = pure [(("self" : Str), x), (f, v)]
/-- the call stands on one line -/
def LineS (msg : Str) (k : Nat) (p1 p2 p3 p4 p5 : Pos) : Prop := ∀ env : Env, ∃ pl : Sem Bool, eval (.Call (.Attribute (.Call (.Name "super" p1) [] [] p2) "__init__" p3) [.Constant (.str msg) k p4] [] p5) env = (do
  let ov ← attributeBase (.Call (.Name "super" p1) [] [] p2) "__init__" env (eval (.Call (.Name "super" p1) [] [] p2) env)
  standAt p3.atName
  let (fn, fst) ← holding [ov] (getMethod ov "__init__" pl)
  callWith p5 fn fst (backTo p5 (starEach [.Constant (.str msg) k p4] env)) [])
/-- what the written part says of such a class, at C: its __init__ at fI keeps its argument as f -/
structure SupC (prog : Program) (K : Frag) (C fI : Addr) (f : Str) : Prop where
  cls : ∃ nm q N bs bm sn sub ab col dd k0 k1 k2 k3 k5, K.lookup C = some (excClassObj nm q C N bs bm true sn sub ab col dd k0 k1 k2 k3 k5 "ValueError.__new__") ∧ refsVE bm = true
  sa : findIn K (.ref C) "__setattr__" = some (some (.builtin "object.__setattr__"))
  noN : findIn K (.ref C) f = some none
  iC : findIn K (.ref C) "__init__" = some (some (.ref fI))
  tC : typeIn K (.ref fI) = some (.type "function")
  ve : subIn K (.ref C) (.type "ValueError") = some true
  sub : mroIn K C (.ref C) = some true
  sup : ks_superIn K C C "__init__" = some (some (.builtin "ValueError.__init__"))
  opq : nsIn K cStatics "thirdparty.any" = some none
  nsu : nsIn K mainGlobals "super" = some none
  top : (prog.main.scope.names.lookup ("super" : Str)).isSome = false
  ne : (f == ("self" : Str)) = false ∧ (f == ("super" : Str)) = false ∧ (f == ("__class__" : Str)) = false ∧ (f == ("__debug__" : Str)) = false
  bnd : BindS f
  fn : ∃ (qual msg : Str) (k : Nat) (oc : Value) (od : Option Addr) (doc pm : Value) (an : Option Addr) (cda cc : Addr) (ct : Value) (osl : Array (Option Value)) (p1 p2 p3 p4 p5 p6 p7 p8 q1 q2 q3 q4 : Pos),
    K.lookup fI = some ⟨oc, od, .func (ksFn "__init__" qual (supA p1 p2 f) (supB msg f k p3 p4 p5 p6 p7 p8 q1 q2 q3 q4) (supS f) .none .none doc pm an (.ref cda) ct cc), osl⟩ ∧ codeIn K (.ref cda) qual = true ∧ LineS msg k p3 p4 p5 p6 p7 ∧
    (∃ ccl cdd ccs vs file tf, K.lookup cda = some ⟨ccl, cdd, .fields vs, ccs⟩ ∧ vs[2]? = some (.str file tf) ∧ ((prog.main.file : Str) == file) = true) ∧
    ∃ cl cld csl, K.lookup cc = some ⟨cl, cld, .cell (some (.ref C)), csl⟩
/-- the exception as it stands when it is made -/
structure Made (h h' : Heap) (e C d : Addr) (f : Str) (v : Value) : Prop where
  keep : ∀ b o, h.get? b = some o → h'.get? b = some o
  new : h.objs.size ≤ e
  obj : ∃ t1, h'.get? e = some ({ cls := .ref C, dict := some d, data := .fields #[.ref t1, .none, .none, .none, .bool false, .none] } : Obj)
  dbig : h.objs.size ≤ d
  dne : d ≠ e
  ns : h'.Ns1 d (fun y => if y = f then some v else none)
section
variable {prog : Program} {w : World} {A : Around} {s : Shared} {K : Frag} {mg mb : Str → Option Value} {C fI : Addr} {f : Str}
/-- the bound built-in __init__, called -/
theorem call_mw {E : Value → Shared → Prop} {h : Heap} {g : Array GenState} {d : Drawn} {t : Nat} {os : OsState} {u x t0 C N : Addr} {nm q : Str} {bs bm : List Value} {hdct : Bool} {sn : List Str} {sub : List Value} {ab : Bool} {col : Option Bool} {dd : Option Addr} {k0 k1 k2 k3 k5 : Option Value} {rest : List Value} {Q : Value → Shared → Prop}
    (hC : h.get? C = some (excClassObj nm q C N bs bm hdct sn sub ab col dd k0 k1 k2 k3 k5 "ValueError.__new__")) (he : h.get? x = some (excO C t0)) (hu : h.get? u = some (kxs_mw "ValueError.__init__" x)) (hz : rest.length ≤ sizeLine)
    (hq : ∀ h' t1, (∀ b o, b ≠ x → h.get? b = some o → h'.get? b = some o) → h'.get? x = some (excO C t1) → Q .none ⟨h', g, d, t, os⟩) :
    wpAny (model prog w) A (call (.ref u) rest) Q E ⟨h, g, d, t, os⟩ := by
  refine wpAny_call (codeAny_of_tree ?_)
  show wpAny _ A.in1 (callAny (.ref u) ⟨rest, []⟩) _ _ _
  simp only [callAny]
  refine wpAny_bind (wpAny_load hu ?_)
  have e1 : (Value.type "method-wrapper" == Value.type "method" || Value.type "method-wrapper" == Value.type "builtin_function_or_method" || Value.type "method-wrapper" == Value.type "method-wrapper") = true := by decide
  simp only [kxs_mw, e1, if_true]
  refine KFB.if_so (by decide) ?_
  refine wpAny_bind (check_bound_init F.excBase_ValueError.toExcCallFacts hC he rfl ?_)
  refine wpAny_bind (wpAny_pure (wpAny_pure ?_))
  refine ⟨plainId_quiet F.excBase_ValueError.init.plain _, codeAny_builtin F.excBase_ValueError.initEntry ?_⟩
  exact exc_init_tree (cls := .ref C) (t0 := t0) (dv := none) (c2 := .none) (c3 := .none) (b4 := .bool false) he hz fun h' k e' _ => hq h' _ k e'

theorem init_run (T : SupC prog K C fI f) {R : Result → Shared → Prop} {x t0 : Addr} {v : Value} (X : K.In s.heap) (G : s.heap.Ns mainGlobals mg) (B : s.heap.Ns builtinsNs mb) (BB : ∀ y : Str, y ≠ "__name__" → mb y = bootBuiltins y) (hlim : s.heap.NoLimit)
    (hx : s.heap.get? x = some (excO C t0)) (hnx : K.lookup x = none) (hroom : A.depth < recursionLimit)
    (hq : ∀ h' tk dx t1, (∀ b o, b ≠ x → s.heap.get? b = some o → h'.get? b = some o) → h'.get? x = some ({ cls := .ref C, dict := some dx, data := .fields #[.ref t1, .none, .none, .none, .bool false, .none] } : Obj) → s.heap.objs.size ≤ dx → dx ≠ x →
      h'.Ns1 dx (fun y => if y = f then some v else none) → R (.ok (.ret .none)) { s with heap := h', toks := tk }) :
    codeAny (model prog w) A (.call (.ref fI) ⟨[.ref x, v], []⟩) R s := by
  obtain ⟨qual, msg, k, oc, od, doc, pm, an, cda, cc, ct, osl, p1, p2, p3, p4, p5, p6, p7, p8, q1, q2, q3, q4, ho, hcd, hline, ⟨ccl, cdd, ccs, vs, file, tf, hcode, hvs, hfile⟩, cl, cld, csl, hcell⟩ := T.fn
  obtain ⟨nm, q, N, bs, bm, sn, sub, ab, col, dd, k0, k1, k2, k3, k5, hC, hbm⟩ := T.cls
  obtain ⟨n1, n2, n3, n4⟩ := T.ne
  have hcl : clsIn K C = some { name := nm, bases := bs, mro := .ref C :: bm, ns := N, qualname := q, hasDict := true, slotNames := sn, subclasses := sub, abstract := ab, collection := col, hasDel := false } := by unfold clsIn; rw [hC] <;> rfl
  have lself : (supS f).names.lookup ("self" : Str) = some .local := by simp [supS, List.lookup]
  have larg : (supS f).names.lookup f = some .local := by simp [supS, List.lookup, n1]
  have lcls : (supS f).names.lookup ("__class__" : Str) = some .free := by
    have e : (("__class__" : Str) == f) = false := by rw [BEq.comm]; exact n3
    simp [supS, List.lookup, e, show (("__class__" : Str) == "self") = false by decide +kernel]
  have lsup : (supS f).names.lookup ("super" : Str) = some .globalImplicit := by
    have e : (("super" : Str) == f) = false := by rw [BEq.comm]; exact n2
    simp [supS, List.lookup, e, show (("super" : Str) == "self") = false by decide +kernel, show (("super" : Str) == "__class__") = false by decide +kernel]
  obtain ⟨hp, g, d, tk, os⟩ := s
  have hx' : hp.get? x = some (excO C t0) := hx
  refine ks_codeAny_call_defAt (fd := ksFn "__init__" qual (supA p1 p2 f) (supB msg f k p3 p4 p5 p6 p7 p8 q1 q2 q3 q4) (supS f) .none .none doc pm an (.ref cda) ct cc) (binds := [(("self" : Str), .ref x), (f, v)]) hroom (X _ _ ho) rfl hlim (codeRec_of X hcd) rfl
    (BindsTo.of_eq (T.bnd _ _ _ _ _ _ _ _ _ _ _ _)) ?c1 ?c2 (fun h1 hns k1' => ?_) rfl rfl rfl
  case c1 =>
    intro y hy
    simp only [supS, List.mem_cons, List.not_mem_nil, or_false] at hy
    rcases hy with rfl | rfl | rfl | rfl <;> exact fun z => nomatch z
  case c2 =>
    intro y hy
    simp only [List.mem_cons, List.not_mem_nil, or_false] at hy
    rcases hy with rfl | rfl
    · exact lself
    · exact larg
  have X1 : K.In h1 := X.keeps k1'
  have hx1 := k1' _ _ hx'
  have nself : (fun y => List.lookup y [(("self" : Str), Value.ref x), (f, v)].reverse) "self" = some (.ref x) := by
    have e : (("self" : Str) == f) = false := by rw [BEq.comm]; exact n1
    simp [List.lookup, e]
  have narg : (fun y => List.lookup y [(("self" : Str), Value.ref x), (f, v)].reverse) f = some v := by simp [List.lookup]
  have IA : InstAt h1 x (excO C t0) C none := ⟨hx1, rfl, rfl, trivial⟩
  have nsu : mg "super" = none := mg_none_of X G T.nsu
  obtain ⟨pl, hev⟩ := hline (ksEnv qual (supS f) hp.objs.size fI (.ref cda) cc)
  refine ks_wpAt_execs_cons (ks_wpAt_Expr_any (ks_wpAt_MethodCall (pl := pl) ?_ hev))
  refine ks_wpAt_super_base (s := ⟨h1, g, d, _, os⟩) lsup lcls (by decide) rfl (X1 _ _ ho) rfl rfl rfl (X1 _ _ hcode) rfl hvs hfile T.top ?_
  refine ks_loadName_global rfl lsup (loadGlobal_builtin (G.keeps k1') nsu (B.keeps k1') ((BB _ (by decide +kernel)).trans (by first | boot_by_name | rfl | kernel_rfl)) ⟨rfl, ?_⟩)
  refine wpAny_loadName_free rfl lcls rfl ⟨_, X1 _ _ hcell, rfl⟩ ?_
  refine wpAny_loadName_local rfl lself hns nself ?_
  refine ks_wpAny_isType_cls (X1 _ _ hC) rfl ⟨rfl, ?_⟩
  refine ks_wpAny_call_super (X1 _ _ hC) rfl hx1 rfl (fun c e => nomatch e) (looks_mroIn X1 T.sub) (fun h2 e2 k2 => ?_)
  have X2 : K.In h2 := X1.keeps k2
  have hx2 := k2 _ _ hx1
  have IA2 : InstAt h2 x (excO C t0) C none := ⟨hx2, rfl, rfl, trivial⟩
  have hsup : alongIn K "__init__" (((Value.ref C :: bm).dropWhile (· != .ref C)).drop 1) = some (some (.builtin "ValueError.__init__")) := by
    have z := T.sup
    unfold ks_superIn at z
    rw [hcl] at z
    exact z
  refine kxs_getMethod kxs_ValueError e2 (looks_opaque X2 T.opq) (l₀ := .ref C :: bm) (fun A' Q' E' s' k' q' => wpAny_bind ((looks_clsIn X2 hcl) A' _ E' s' k' (wpAny_pure q'))) rfl X2 hsup (IA2.type.andThen (looks_subIn X2 T.ve)) (ks_ne X2 IA2 hcl) (by decide +kernel) ?_
  have hu : (h2.push (kxs_mw "ValueError.__init__" x)).get? h2.objs.size = some (kxs_mw "ValueError.__init__" x) := Heap.get?_push_at rfl rfl
  have k3 : ∀ b o, h2.get? b = some o → (h2.push (kxs_mw "ValueError.__init__" x)).get? b = some o := fun b o e => Heap.get?_push_of_some _ e
  have xne : x ≠ h2.objs.size := Nat.ne_of_lt (Heap.lt_size hx2)
  show wpAny _ _ (callWith p7 (.ref h2.objs.size) [] (backTo p7 (starEach [.Constant (.str msg) k p6] (ksEnv qual (supS f) hp.objs.size fI (.ref cda) cc))) []) _ _ _
  refine kxs_callWith (i := "ValueError.__init__") (x := x) rfl (evalArgs_plain ?_)
  show wpAny _ _ (spliced ((false, eval (.Constant (.str msg) k p6) (ksEnv qual (supS f) hp.objs.size fI (.ref cda) cc)) :: backTo p7 (starEach [] (ksEnv qual (supS f) hp.objs.size fI (.ref cda) cc)))) _ _ _
  refine Calls.spliced_cons (Calls.Constant_str (Calls.spliced_nil ?_))
  refine ⟨hu, ?_⟩
  refine call_mw (X2.keeps k3 _ _ hC) (k3 _ _ hx2) hu (by show 1 ≤ sizeLine; rw [sizeLine_eq]; decide) fun h4 t1 k4 hx4 => ?_
  have X4 : K.In h4 := fun a o e => k4 a o (fun z => by rw [z, hnx] at e; cases e) (X2.keeps k3 a o e)
  have b1 : ∀ b o, b ≠ x → h1.get? b = some o → h4.get? b = some o := fun b o hb e => k4 b o hb (k3 _ _ (k2 _ _ e))
  have lne : hp.objs.size ≠ x := Nat.ne_of_gt (Heap.lt_size hx')
  have hns4 : h4.Ns hp.objs.size (fun y => List.lookup y [(("self" : Str), Value.ref x), (f, v)].reverse) := by
    obtain ⟨oL, es, ep, hL, r⟩ := hns
    exact ⟨oL, es, ep, b1 _ _ lne hL, r⟩
  show PySem.wpAt _ _ _ (execs [.Assign [.Attribute (.Name "self" q1) f q2] (.Name f q3) q4] (ksEnv qual (supS f) hp.objs.size fI (.ref cda) cc)) _ _ _
  refine wpAt_of_wpAny (wpAny_execs_cons (plainObj_wpAny_Assign_Attribute ?_))
  refine wpAny_Name (wpAny_loadName_local rfl larg hns4 narg ?_) n4
  refine wpAny_Name (wpAny_loadName_local rfl lself hns4 nself ?_) (by decide)
  refine set_plain X4 (ox := excO C t1) (od := none) ⟨hx4, rfl, rfl, trivial⟩ T.sa ?_
  refine PySem.HandSPX.exc_osa X4 hx4 hcl (show refsVE (.ref C :: bm) = true from hbm) rfl T.noN (fun h5 tk5 dx k5 dn dne hx5 hn5 => ?_)
  exact wpAny_execs_nil (hq h5 tk5 dx t1 (fun b o hb e => k5 b o hb (b1 b o hb (k1' _ _ e))) hx5 (Nat.le_trans (Nat.le_of_lt hns4.lt) dn) dne hn5)
/-- the class, called -/
theorem made_of (T : SupC prog K C fI f) {R : Result → Shared → Prop} {v : Value} (X : K.In s.heap) (G : s.heap.Ns mainGlobals mg) (B : s.heap.Ns builtinsNs mb) (BB : ∀ y : Str, y ≠ "__name__" → mb y = bootBuiltins y) (hlim : s.heap.NoLimit) (hroom : A.depth + 1 < recursionLimit)
    (hq : ∀ h' tk e d, Made s.heap h' e C d f v → R (.ok (.ret (.ref e))) { s with heap := h', toks := tk }) :
    codeAny (model prog w) A (.call (.ref C) ⟨[v], []⟩) R s := by
  obtain ⟨nm, q, N, bs, bm, sn, sub, ab, col, dd, k0, k1, k2, k3, k5, hC, hbm⟩ := T.cls
  obtain ⟨hp, g, d, tk, os⟩ := s
  have k : ∀ b o, hp.get? b = some o → ((hp.push (kdv_tup [v])).push (PySem.HandSPX.excO C hp.objs.size)).get? b = some o := fun b o e => Heap.get?_push_of_some _ (Heap.get?_push_of_some _ e)
  have hget : ((hp.push (kdv_tup [v])).push (PySem.HandSPX.excO C hp.objs.size)).get? (hp.objs.size + 1) = some (PySem.HandSPX.excO C hp.objs.size) := by heap_get
  have hnx : K.lookup (hp.objs.size + 1) = none := by
    cases e : K.lookup (hp.objs.size + 1) with
    | none => rfl
    | some o => exact absurd (Nat.lt_of_succ_lt (Heap.lt_size (show hp.get? _ = some o from X _ _ e))) (Nat.lt_irrefl _)
  refine PySem.HandSPX.call_own F.excBase_ValueError (fun Y => refsVE_contains Y bm hbm) (X _ _ hC) (looks_findIn X T.iC) (fun self => bind_fn X self T.tC) (by show 1 ≤ sizeLine; rw [sizeLine_eq]; decide) ?_
  refine init_run (mg := mg) (mb := mb) (s := ⟨(hp.push (kdv_tup [v])).push (PySem.HandSPX.excO C hp.objs.size), g, d, tk, os⟩) T (X.keeps k) (G.keeps k) (B.keeps k) BB (hlim.keeps k) hget hnx (by show A.depth + 1 < recursionLimit; exact hroom) fun h' tk' dx t1 k' hx dn dne hns => ?_
  have old : ∀ b o, hp.get? b = some o → h'.get? b = some o := fun b o e => k' b o (Nat.ne_of_lt (Nat.lt_succ_of_lt (Heap.lt_size e))) (k b o e)
  have z : hp.objs.size + 1 + 1 ≤ dx := by
    have q' := dn
    first
      | (simpa only [Heap.size_push] using q')
      | (rw [Heap.size_push, Heap.size_push] at q'; exact q')
  exact ⟨rfl, hq h' tk' (hp.objs.size + 1) dx ⟨old, Nat.le_succ _, ⟨t1, hx⟩, Nat.le_trans (Nat.le_trans (Nat.le_succ _) (Nat.le_succ _)) z, dne, hns⟩⟩
end
end X3

end
section
namespace X3
open PySem PySem.W PySem.Calls PyProof.Rows L2
/-! ### C(e) -/
section
variable {X : Cx} {C fI : Addr} {f : Str}
def tMkSup (C : Addr) (f : Str) (te : TE) : L2.St → Hp → XK → Prop := fun σ H Q => te σ H fun v H1 => ∀ d, H1 d = none → Q (.ref C) (some d) (upd H1 d (.xd [(f, v)]))
theorem relO_one {v : V} {u : Value} (r : RelV v u) (f g : Str) : RelO (List.lookup g [(f, v)]) (if g = f then some u else none) := by
  by_cases h : g = f
  · subst h
    have e : List.lookup g [(g, v)] = some v := by simp [List.lookup]
    rw [if_pos rfl, e]
    exact r
  · have e : List.lookup g [(f, v)] = none := by
      have z : (g == f) = false := by simpa using h
      simp [List.lookup, z]
    rw [if_neg h, e]
    trivial
theorem pmk_sup {a : Expr} {te : TE} {x : Str} {p pos : Pos} {k : Nat} (T : SupC X.prog X.K C fI f) (gC : X.mg x = some (.ref C)) (kC : keepIn X.K (.ref C) = true) (rs : Raises X (.ref C)) (hr : X.A.depth + 1 < recursionLimit) (ha : PE X a te) (hg : Gl X x := by rfl)
    (hdb : (x == ("__debug__" : Str)) = false := by decide) (he : starEach (a :: []) X.env = (false, eval a X.env) :: starEach [] X.env := by rfl) (hpl : (backTo pos (starEach [] X.env)).any (·.1) = false := by rfl) :
    L2N.PMk X (.Call (.Name x p) [a] [] pos) (tMkSup C f te) := by
  intro pins s σ H Q I h
  refine wpAny_Call_Name_kw (ld_glob I hg gC ?_ hdb)
  have hpa : PA X [a] (tCons te tNil) := pa_cons ha pa_nil he
  refine callWith_K (h₀ := X.base) I.ok.mod.kin kC (thn (hpa.run pos pins s σ H (fun vs H1 => match vs with
    | [v] => ∀ d, H1 d = none → Q (.ref C) (some d) (upd H1 d (.xd [(f, v)]))
    | _ => False) I h) fun us s1 hh => ?_) he hpl
  obtain ⟨vs, H1, I1, r1, q0⟩ := hh
  obtain ⟨v, ev, q1⟩ : ∃ v, vs = [v] ∧ ∀ d, H1 d = none → Q (.ref C) (some d) (upd H1 d (.xd [(f, v)])) := by
    match vs, q0 with
    | [v], q0 => exact ⟨v, rfl, q0⟩
  subst ev
  refine ⟨I1.kIn, ?_⟩
  cases r1 with
  | cons rv rn =>
    rename_i u us'
    cases rn
    show wpAny _ _ (call (.ref C) [u]) _ _ _
    have hlim := I1.nolimit
    obtain ⟨mb, hmb1, hmb2⟩ := I1.mod.blt
    have G1 : s1.heap.Ns mainGlobals X.mg := I1.mod.glob.keeps I1.bk
    have B1 : s1.heap.Ns builtinsNs mb := hmb1.keeps I1.bk
    obtain ⟨hp, g, dr, tk, os⟩ := s1
    refine wpAny_call (made_of (mg := X.mg) (mb := mb) T I1.kIn G1 B1 hmb2 hlim hr fun h' tk' e d M => ?_)
    show L2N.MkP X pins σ Q (.ref e) ⟨h', g, dr, tk', os⟩
    obtain ⟨t1, hoe⟩ := M.obj
    obtain ⟨G', g1, g2⟩ := restrict h' fun b => decide (b ≠ e)
    have gk : ∀ b, b ≠ e → G'.get? b = h'.get? b := fun b hb => g1 b (decide_eq_true hb)
    have ge : G'.get? e = none := g2 e (by simp)
    have old : ∀ b o, hp.get? b = some o → G'.get? b = some o := fun b o q => (gk b (Nat.ne_of_lt (Nat.lt_of_lt_of_le (Heap.lt_size q) M.new))).trans (M.keep b o q)
    have ob : ObjOk X.prog X.w (upd H1 d (.xd [(f, v)])) G' d (.xd [(f, v)]) := ⟨_, M.ns.at (fun o q => (gk d M.dne).trans q), fun y => relO_one rv f y⟩
    have J : Inv X pins σ (upd H1 d (.xd [(f, v)])) ⟨G', g, dr, tk', os⟩ := I1.laid (t' := tk') old M.dbig ob
    refine ⟨e, _, _, ⟨G', g, dr, tk', os⟩, _, .ref C, some d, rfl, J, fun b o q => ?_, ge, hoe, ⟨rfl, rfl, fun vs e => by cases e; rfl⟩, rfl, rfl, ?_, rfl, I1.bare, rs, q1 d (I1.hok.fresh M.dbig)⟩
    · by_cases hb : b = e
      · have q' : G'.get? b = some o := q
        rw [hb, ge] at q'
        cases q'
      · exact (gk b hb).symm.trans q
    · rw [upd_ne (Ne.symm M.dne)]
      exact I1.hok.fresh M.new
end
/-! ### isinstance(e, D) of the exception that a suite holds, whatever its dict -/
structure ExI (K : Frag) (D : Addr) : Prop where
  c0 : (clsIn K D).isSome = true
  ga : findIn K (.ref D) "__getattribute__" = some (some (.builtin "BaseException.__getattribute__"))
  gg : findIn K (.ref D) "__getattr__" = some none
  be : subIn K (.ref D) (.type "BaseException") = some true
  cl : findIn K (.ref D) "__class__" = some (some (.builtin "object.__class__"))
  sp : specialIn K (.builtin "object.__class__") "__get__" = some (some (.builtin "getset_descriptor.__get__"))
  tk : takesIn K (.builtin "object.__class__") = some true
  mo : mroIn K D (.type "object") = some true
def rIsX (K : Frag) (D a : Addr) : List V → Hp → VK → Prop := fun xs H Q => ∃ (c : V) (cv : Value) (b : Bool), xs = [.ref a, c] ∧ (∀ u, RelV c u → u = cv) ∧ kitOne K (.ref D) cv = some b ∧ Q (.bl b) H
theorem call_isX {X : Cx} {a D : Addr} {oe : Obj} {d : Option Addr} {fs : List (Str × V)} {pn : List (Addr × Obj)} (T : ExI X.K D) (hz : Zc (.ref D) d oe) (hf : ∃ vs, oe.data = .fields vs) :
    CallR (X.suite a ((a, oe) :: pn)) (.builtin "isinstance") (fun xs H Q => (∀ dd, d = some dd → H dd = some (.xd fs)) ∧ rIsX X.K D a xs H Q) := by
  intro pins s σ H xs us Q I r h
  obtain ⟨hd, c, cv, b, rfl, hcv, e, q⟩ := h
  cases r with
  | cons rx rr =>
    cases rr with
    | cons rt rr =>
      cases rr
      cases rx
      have ec := hcv _ rt
      subst ec
      obtain ⟨hget, _⟩ := I.pin (a, oe) (List.mem_append.mpr (.inl List.mem_cons_self))
      obtain ⟨vs, hv⟩ := hf
      have J : ∃ odo, InstAt s.heap a oe D odo := by
        obtain ⟨oc, od, oda, osl⟩ := oe
        obtain ⟨h1, h2⟩ := hz
        dsimp only at h1 h2 hv
        subst h1 h2 hv
        cases od with
        | none => exact ⟨none, hget, rfl, rfl, trivial⟩
        | some dd =>
          have hx : ObjOk X.prog X.w H s.heap dd (.xd fs) := I.hok dd _ (hd dd rfl)
          obtain ⟨mA, hns, hr⟩ := hx
          obtain ⟨o2, ho2, hl⟩ := lookIn_ns hns
          exact ⟨some o2, hget, rfl, rfl, ho2⟩
      obtain ⟨odo, J⟩ := J
      exact kia_one (kitx_exc T.c0 T.ga T.gg T.be T.cl T.sp T.tk T.mo) I.kIn J e (fun z => nomatch z) fun tk => ⟨.bl b, H, I.kept (t' := tk) fun _ _ z => z, rfl, q⟩
end X3

end
section
/-! try with any number of except clauses, each with or without a name, over exceptions whose context is None -/
namespace X3
open PySem PySem.W PySem.Calls PyProof.Rows L2
abbrev Su := Addr → Value → Option Addr → TS
/-- what stands behind a suite whose name (slot i) goes -/
def Ends.gone (D : Ends) (i : Nat) : Ends where
  nx := fun σ H => D.nx (σ.set i none) H
  rt := D.rt
  bk := fun σ H => D.bk (σ.set i none) H
  ct := fun σ H => D.ct (σ.set i none) H
/-- one clause's suite, by whether it has a name -/
def suT (o : Option Nat) (ts : Su) (a : Addr) (cls : Value) (d : Option Addr) (D : Ends) (σ : L2.St) (H : Hp) : Prop :=
  match o with
  | none => ts a cls d D σ H
  | some i => ts a cls d (Ends.gone D i) (σ.set i (some (.ref a))) H
def wH (K : Frag) (Wout : WX) (D : Ends) : List (Value × Option Nat × Su) → WX
  | [] => Wout
  | (c, o, ts) :: r => fun cls d σ H =>
    ∃ b, exmOne K cls c = some b ∧ (b = true → ∀ a, H a = none → suT o ts a cls d D σ H) ∧
      (b = false → wH K Wout D r cls d σ H)
/-- the suite under any pins -/
def SuOk (X : Cx) (l : List Stmt) (ts : Su) : Prop :=
  ∀ (a : Addr) (ob : Obj) (cls : Value) (d : Option Addr) (pl : List (Addr × Obj)), L2N.Zn cls d ob →
    (∃ vs, ob.data = .fields vs) → PSs (X.suite a ((a, ob) :: pl)) l (ts a cls d)
inductive HdOk (X : Cx) : List ExceptHandler → List (Value × Option Nat × Su) → Prop
  | nil : HdOk X [] []
  | bare {x : Str} {c : Value} {ts : Su} {b₀ : Stmt} {su : List Stmt} {p1 p2 : Pos} {hds : List ExceptHandler} {l : List (Value × Option Nat × Su)} (hc : Names X x c) (hsu : SuOk X (b₀ :: su) ts) (r : HdOk X hds l) :
      HdOk X (.ExceptHandler (some (.Name x p1)) none (b₀ :: su) p2 :: hds) ((c, none, ts) :: l)
  | named {x n : Str} {i : Nat} {c : Value} {ts : Su} {b₀ : Stmt} {su : List Stmt} {p1 p2 : Pos} {hds : List ExceptHandler} {l : List (Value × Option Nat × Su)} (hN : X.N.Nodup) (hi : X.N[i]? = some n) (hl : X.env.kindOf n = some .local) (hc : Names X x c)
      (hsu : SuOk X (b₀ :: su) ts) (r : HdOk X hds l) : HdOk X (.ExceptHandler (some (.Name x p1)) (some n) (b₀ :: su) p2 :: hds) ((c, some i, ts) :: l)
section
variable {X : Cx} {body : List Stmt} {h₀ : ExceptHandler} {hds : List ExceptHandler} {l : List (Value × Option Nat × Su)} {pos : Pos} {tb : WX → TS} {Wout : WX}
theorem ps_tryH (hs : X.stack = X.env :: X.outer) (hf : X.env.frame = some X.env.locals) (tk : L2N.Takes X Wout)
    (hb : ∀ (W : WX) (pl : List (Addr × Obj)) (xe : Value → Shared → Prop), L2N.Takes (X.tr pl xe) W → PassesOwn (model X.prog X.w) X.A X.env xe → PSs (X.tr pl xe) body (tb W))
    (hh : HdOk X (h₀ :: hds) l) : PS X (.Try body (h₀ :: hds) [] [] pos) (fun D σ H => tb (wH X.K Wout D l) D σ H) := by
  refine ⟨fun pins st σ H D I hw => ?_⟩
  have ok := I.ok
  have frm : X.A.frames = some (X.env :: X.outer) := ok.frames.trans (congrArg some hs)
  let xe1 : Value → Shared → Prop := fun e s₁ => wpAny (model X.prog X.w) X.A (noteFrame e X.env) (fun _ s₂ =>
    wpAny (model X.prog X.w) X.A (setFlight e none) (fun _ s₃ =>
      wpAny (model X.prog X.w) X.A (handleBy e X.env (h₀ :: hds)) (SP X pins D) X.xe s₃) X.xe s₂) X.xe s₁
  have catch_ : L2N.Takes (X.tr (X.pn ++ pins) xe1) (wH X.K Wout D l) := by
    rintro u s4 ⟨e, B, sI, pl, τ, H4, cls, d, eu, I4, nb, up, sky, na, os, ag, hW⟩
    subst eu
    have J : Inv X pins τ H4 sI := I4.ofTry ok
    have sky2 : Sky B (X.env :: X.outer) e (L2N.Zn cls d) X.env.locals s4.heap := hs ▸ sky
    show wpAny (model X.prog X.w) X.A (noteFrame (.ref e) X.env) _ _ _
    refine L2N.Sky.land L2N.Zn.steady frm hf sky2 fun g3 fl3 up3 => ?_
    have J3 : Inv X pins τ H4 { s4 with heap := g3 } := J.landed nb fl3.1 (up.trans up3) os ag
    obtain ⟨ob3, va3, he3, hz3, hd3⟩ := fl3.there
    have away : e ∉ frs (X.env :: X.outer) := fun hm => by
      obtain ⟨_, o2, e2, hnf⟩ := fl3.2.2.1.mem hm
      rw [he3] at e2
      cases e2
      exact hnf _ hd3
    have nL : e ≠ X.env.locals := fun z => away (List.mem_filterMap.mpr ⟨X.env, List.mem_cons_self, hf.trans (congrArg some z.symm)⟩)
    have nF : e ∉ X.fs := fun hm =>
      let ⟨v, hv, q⟩ := List.mem_filterMap.mp hm
      away (List.mem_filterMap.mpr ⟨v, List.mem_cons_of_mem _ hv, q⟩)
    have S3 := J3.suite he3 hd3 na nL nF
    have tyE : Looks (model X.prog X.w) g3 (typeOf (.ref e)) cls := fun A Q E s k q =>
      wpAny_typeOf_ref (k _ _ he3) (by rw [hz3.1]; exact q)
    have name_ : ∀ {x : Str} {c : Value} {p : Pos} {Q E : Value → Shared → Prop}, Names X x c → Q c { s4 with heap := g3 } →
        wpAny (model X.prog X.w) (X.A.mark (some (.ref e))) (eval (.Name x p) X.env) Q E { s4 with heap := g3 } := by
      intro x c p Q E nm q
      obtain ⟨n1, n2, n3 | ⟨n3, n4, n5⟩⟩ := nm
      · exact ld_glob (X := X.suite e ((e, ob3) :: (X.pn ++ pins))) S3 n1 n3 q n2
      · exact ld_blt (X := X.suite e ((e, ob3) :: (X.pn ++ pins))) S3 n1 n3 n4 q n5 n2
    have all : ∀ {hs2 : List ExceptHandler} {l2 : List (Value × Option Nat × Su)}, HdOk X hs2 l2 → wH X.K Wout D l2 cls d τ H4 →
        wpAny (model X.prog X.w) X.A (handleBy (.ref e) X.env hs2) (SP X pins D) X.xe { s4 with heap := g3 } := by
      intro hs2 l2 hk
      induction hk with
      | nil =>
        intro w
        refine wpAny_handleBy_nil ?_
        obtain ⟨_, _, _, ob, va, T, _, _, he, _, hd, h1, _⟩ := id fl3
        unfold PySem.passOn
        refine wpAny_bind (wpAny_field he hd h1 ?_)
        rw [if_neg (show ¬ ((Value.ref T == Value.none) = true) by simp)]
        have out : wpAny (model X.prog X.w) X.A (setFlight (.ref e) X.env.frame)
            (fun _ s5 => wpAny (model X.prog X.w) X.A (throw (.ref e) : Sem Flow) (SP X pins D) X.xe s5) X.xe { s4 with heap := g3 } := by
          rw [hf]
          refine PySem.HandSPX.setFlight_upZ fl3 fun g4 held up4 => wpAny_throw (tk _ _ ?_)
          exact ⟨e, B, sI, pins, τ, H4, cls, d, rfl, J, nb, (up.trans up3).trans up4,
            .inr (.inr (by rw [hs]; exact held)), na, os, ag, w⟩
        first
          | exact wpAny_bind (wpAny_pure (wpAny_bind out))
          | exact wpAny_bind out
      | @bare x c ts b₀ su p1 p2 hds3 l3 hc hsu r ih =>
        rintro ⟨b, hb1, yes, no⟩
        refine wpAny_handleBy_cons (codeAny_handlers_test ?_) (fun q => nomatch q)
        refine name_ hc ((exm_one J3.kIn tyE hb1).here ?_)
        cases b with
        | false => exact ih (no rfl)
        | true =>
          refine codeAny_handlers_suite (PySem.HandSPX.lands_againZ fl3 fun g4 fl4 up4 => ?_)
          have J4 : Inv X pins τ H4 { s4 with heap := g4 } :=
            J.landed nb fl4.1 ((up.trans up3).trans up4) os ag
          obtain ⟨ob4, va4, he4, hz4, hd4⟩ := fl4.there
          have run := (hsu e ob4 cls d (X.pn ++ pins) hz4 ⟨_, hd4⟩).run [] _ _ H4 _ (J4.suite he4 hd4 na nL nF) (yes rfl e na)
          refine wpAny_mono run (fun fl s6 q => ?_) (fun _ _ z => z.elim)
          cases fl with
          | next =>
            obtain ⟨_, _, S6, q6⟩ := q
            exact ⟨_, _, S6.unsuite ok, q6⟩
          | brk =>
            obtain ⟨_, _, S6, q6⟩ := q
            exact ⟨_, _, S6.unsuite ok, q6⟩
          | cont =>
            obtain ⟨_, _, S6, q6⟩ := q
            exact ⟨_, _, S6.unsuite ok, q6⟩
          | ret u =>
            obtain ⟨_, _, _, S6, r6, q6⟩ := q
            exact ⟨_, _, _, S6.unsuite ok, r6, q6⟩
      | @named x n i c ts b₀ su p1 p2 hds3 l3 hN hi hl hc hsu r ih =>
        rintro ⟨b, hb1, yes, no⟩
        refine wpAny_handleBy_cons (codeAny_handlers_test ?_) (fun q => nomatch q)
        refine name_ hc ((exm_one J3.kIn tyE hb1).here ?_)
        cases b with
        | false => exact ih (no rfl)
        | true =>
          refine codeAny_handlers_suite_as (PySem.HandSPX.lands_againZ fl3 fun g4 fl4 up4 => ?_)
          have J4 : Inv X pins τ H4 { s4 with heap := g4 } :=
            J.landed nb fl4.1 ((up.trans up3).trans up4) os ag
          obtain ⟨ob4, va4, he4, hz4, hd4⟩ := fl4.there
          refine store_ok (X := X.suite e ((e, ob4) :: (X.pn ++ pins))) (v := .ref e) (J4.suite he4 hd4 na nL nF) hN hi (.inl hl) rfl (fun s5 S5 => ?_) (.inr hl)
          have run := (hsu e ob4 cls d (X.pn ++ pins) hz4 ⟨_, hd4⟩).run [] s5 _ H4 _ S5 (yes rfl e na)
          refine wpAny_mono run (fun fl s6 q => ?_) (fun _ _ z => z.elim)
          have leave : ∀ {τ6 : L2.St} {H6 : Hp} {Q : Shared → Prop}, Inv (X.suite e ((e, ob4) :: (X.pn ++ pins))) [] τ6 H6 s6 →
              (∀ s7, Inv X pins (τ6.set i none) H6 s7 → Q s7) →
              wpAny (model X.prog X.w) X.A (do bindName X.env n .none; unbindBehindTheSuite X.env n p2) (fun _ s7 => Q s7) X.xe s6 :=
            fun {τ6 H6 Q} S6 k => gone_ok (S6.unsuite ok) hN hi hl k
          cases fl with
          | next =>
            obtain ⟨_, _, S6, q6⟩ := q
            exact leave S6 fun s7 J7 => ⟨_, _, J7, q6⟩
          | brk =>
            obtain ⟨_, _, S6, q6⟩ := q
            exact leave S6 fun s7 J7 => ⟨_, _, J7, q6⟩
          | cont =>
            obtain ⟨_, _, S6, q6⟩ := q
            exact leave S6 fun s7 J7 => ⟨_, _, J7, q6⟩
          | ret u =>
            obtain ⟨_, _, _, S6, r6, q6⟩ := q
            exact leave S6 fun s7 J7 => ⟨_, _, _, J7, r6, q6⟩
    exact all hh hW
  refine wpAny_Try_except (wpAny_mono ((hb _ _ xe1 catch_ PassesOwn.looking).run [] st σ H D (I.toTry _) hw) (fun fl s1 q => ?_) (fun e s1 he => he))
  cases fl with
  | next =>
    obtain ⟨_, _, I1, q1⟩ := q
    exact wpAny_execs_nil ⟨_, _, I1.ofTry ok, q1⟩
  | brk =>
    obtain ⟨_, _, I1, q1⟩ := q
    exact ⟨_, _, I1.ofTry ok, q1⟩
  | cont =>
    obtain ⟨_, _, I1, q1⟩ := q
    exact ⟨_, _, I1.ofTry ok, q1⟩
  | ret u =>
    obtain ⟨_, _, _, I1, r1, q1⟩ := q
    exact ⟨_, _, _, I1.ofTry ok, r1, q1⟩
end
end X3

end
section
/-! L3: a program's defs as plain functions over plain values. 1: values, what represents them, environments. -/
namespace L3
open PySem PySem.Spec PyProof.Rows L2
/-- a plain value: an instance is its class's number and its fields; scr: a list that is only read (the script) -/
inductive PV where
  | non | bl (b : Bool) | int (i : Int) | str (s : Str) | lst (l : List PV) | scr (l : List PV) | tup (l : List PV) | ins (c : Nat) (fs : List (Str × PV))
  deriving Inhabited
/-- the written part and where the classes stand -/
structure Gc where
  K : PySem.W.Frag
  CA : Nat → Addr
mutual
/-- v stands for the plain value, as the objects of H are -/
def Rep (G : Gc) (H : Hp) : PV → V → Prop
  | .non, v => v = .non
  | .bl b, v => v = .bl b
  | .int i, v => v = .int i
  | .str s, v => v = .str s
  | .lst l, v => ∃ a xs, v = .ref a ∧ H a = some (.lst xs) ∧ Reps G H l xs
  | .scr l, v => ∃ a xs, v = .ref a ∧ SqL G.K H a xs ∧ Reps G H l xs
  | .tup l, v => ∃ a xs, v = .ref a ∧ SqT G.K H a xs ∧ Reps G H l xs
  | .ins c fs, v => ∃ a dx vs, v = .ref a ∧ H a = some (.ins (G.CA c) dx vs) ∧ RepF G H fs vs
def Reps (G : Gc) (H : Hp) : List PV → List V → Prop
  | [], xs => xs = []
  | p :: ps, xs => ∃ x ys, xs = x :: ys ∧ Rep G H p x ∧ Reps G H ps ys
def RepF (G : Gc) (H : Hp) : List (Str × PV) → List (Str × V) → Prop
  | [], xs => xs = []
  | (f, p) :: ps, xs => ∃ x ys, xs = (f, x) :: ys ∧ Rep G H p x ∧ RepF G H ps ys
end
theorem Same.seqT {K : PySem.W.Frag} {H H' : Hp} {a : Addr} {xs : List V} (e : Same H H') (h : SqT K H a xs) : SqT K H' a xs := by
  rcases h with (h | ⟨o, h⟩) | h
  · exact .inl (.inl (e _ _ h))
  · exact .inl (.inr ⟨o, e _ _ h⟩)
  · exact .inr h
section
variable {G : Gc} {H H' : Hp}
mutual
theorem Rep.mono (e : Same H H') : ∀ {p : PV} {v : V}, Rep G H p v → Rep G H' p v
  | .non, _, h => by simpa only [Rep] using h
  | .bl _, _, h => by simpa only [Rep] using h
  | .int _, _, h => by simpa only [Rep] using h
  | .str _, _, h => by simpa only [Rep] using h
  | .lst l, v, h => by
    simp only [Rep] at h ⊢
    obtain ⟨a, xs, h1, h2, h3⟩ := h
    exact ⟨a, xs, h1, e _ _ h2, Reps.mono e h3⟩
  | .scr l, v, h => by
    simp only [Rep] at h ⊢
    obtain ⟨a, xs, h1, h2, h3⟩ := h
    exact ⟨a, xs, h1, e.seq h2, Reps.mono e h3⟩
  | .tup l, v, h => by
    simp only [Rep] at h ⊢
    obtain ⟨a, xs, h1, h2, h3⟩ := h
    exact ⟨a, xs, h1, Same.seqT e h2, Reps.mono e h3⟩
  | .ins c fs, v, h => by
    simp only [Rep] at h ⊢
    obtain ⟨a, dx, vs, h1, h2, h3⟩ := h
    exact ⟨a, dx, vs, h1, e _ _ h2, RepF.mono e h3⟩
theorem Reps.mono (e : Same H H') : ∀ {ps : List PV} {vs : List V}, Reps G H ps vs → Reps G H' ps vs
  | [], _, h => by simpa only [Reps] using h
  | p :: ps, vs, h => by
    simp only [Reps] at h ⊢
    obtain ⟨x, ys, h1, h2, h3⟩ := h
    exact ⟨x, ys, h1, Rep.mono e h2, Reps.mono e h3⟩
theorem RepF.mono (e : Same H H') : ∀ {ps : List (Str × PV)} {vs : List (Str × V)}, RepF G H ps vs → RepF G H' ps vs
  | [], _, h => by simpa only [RepF] using h
  | (f, p) :: ps, vs, h => by
    simp only [RepF] at h ⊢
    obtain ⟨x, ys, h1, h2, h3⟩ := h
    exact ⟨x, ys, h1, Rep.mono e h2, RepF.mono e h3⟩
end
theorem Reps.length : ∀ {ps : List PV} {vs : List V}, Reps G H ps vs → ps.length = vs.length
  | [], _, h => by simp only [Reps] at h; subst h; rfl
  | p :: ps, vs, h => by
    simp only [Reps] at h
    obtain ⟨x, ys, h1, _, h3⟩ := h
    subst h1
    simp only [List.length_cons, Reps.length h3]
theorem Reps.get : ∀ {ps : List PV} {vs : List V} {i : Nat} {p : PV}, Reps G H ps vs → ps[i]? = some p → ∃ v, vs[i]? = some v ∧ Rep G H p v
  | [], _, _, _, _, e => by simp at e
  | p :: ps, vs, 0, q, h, e => by
    simp only [Reps] at h
    obtain ⟨x, ys, h1, h2, _⟩ := h
    subst h1
    simp at e
    subst e
    exact ⟨x, rfl, h2⟩
  | p :: ps, vs, i + 1, q, h, e => by
    simp only [Reps] at h
    obtain ⟨x, ys, h1, _, h3⟩ := h
    subst h1
    obtain ⟨v, e1, e2⟩ := Reps.get (i := i) h3 (by simpa using e)
    exact ⟨v, by simpa using e1, e2⟩
theorem Reps.get_v : ∀ {ps : List PV} {vs : List V} {i : Nat} {v : V}, Reps G H ps vs → vs[i]? = some v → ∃ p, ps[i]? = some p ∧ Rep G H p v
  | [], _, _, _, h, e => by simp only [Reps] at h; subst h; simp at e
  | p :: ps, vs, 0, v, h, e => by
    simp only [Reps] at h
    obtain ⟨x, ys, h1, h2, _⟩ := h
    subst h1
    simp at e
    subst e
    exact ⟨p, rfl, h2⟩
  | p :: ps, vs, i + 1, v, h, e => by
    simp only [Reps] at h
    obtain ⟨x, ys, h1, _, h3⟩ := h
    subst h1
    obtain ⟨v, e1, e2⟩ := Reps.get_v (i := i) h3 (by simpa using e)
    exact ⟨v, by simpa using e1, e2⟩
theorem Reps.append : ∀ {ps qs : List PV} {vs ws : List V}, Reps G H ps vs → Reps G H qs ws → Reps G H (ps ++ qs) (vs ++ ws)
  | [], _, _, _, h, k => by simp only [Reps] at h; subst h; exact k
  | p :: ps, qs, vs, ws, h, k => by
    simp only [Reps] at h
    obtain ⟨x, ys, h1, h2, h3⟩ := h
    subst h1
    show Reps G H (p :: (ps ++ qs)) (x :: (ys ++ ws))
    simp only [Reps]
    exact ⟨x, _, rfl, h2, Reps.append h3 k⟩
theorem Reps.one {p : PV} {v : V} (h : Rep G H p v) : Reps G H [p] [v] := by
  simp only [Reps]
  exact ⟨v, [], rfl, h, rfl⟩
theorem Reps.cons {p : PV} {v : V} {ps : List PV} {vs : List V} (h : Rep G H p v) (k : Reps G H ps vs) : Reps G H (p :: ps) (v :: vs) := by
  simp only [Reps]
  exact ⟨v, vs, rfl, h, k⟩
theorem Reps.nil : Reps G H [] [] := by simp only [Reps]
theorem Reps.take : ∀ (n : Nat) {ps : List PV} {vs : List V}, Reps G H ps vs → Reps G H (ps.take n) (vs.take n)
  | 0, _, _, _ => by simp only [List.take_zero]; exact Reps.nil
  | n + 1, [], _, h => by simp only [Reps] at h; subst h; exact Reps.nil
  | n + 1, p :: ps, vs, h => by
    simp only [Reps] at h
    obtain ⟨x, ys, h1, h2, h3⟩ := h
    subst h1
    simp only [List.take_succ_cons]
    exact Reps.cons h2 (Reps.take n h3)
theorem Reps.drop : ∀ (n : Nat) {ps : List PV} {vs : List V}, Reps G H ps vs → Reps G H (ps.drop n) (vs.drop n)
  | 0, _, _, h => by simpa only [List.drop_zero] using h
  | n + 1, [], _, h => by simp only [Reps] at h; subst h; exact Reps.nil
  | n + 1, p :: ps, vs, h => by
    simp only [Reps] at h
    obtain ⟨x, ys, h1, h2, h3⟩ := h
    subst h1
    simp only [List.drop_succ_cons]
    exact Reps.drop n h3
theorem Reps.set : ∀ {ps : List PV} {vs : List V} (i : Nat) {p : PV} {v : V}, Reps G H ps vs → Rep G H p v → Reps G H (ps.set i p) (vs.set i v)
  | [], _, _, _, _, h, _ => by simp only [Reps] at h; subst h; simp only [List.set_nil]; exact Reps.nil
  | q :: ps, vs, 0, p, v, h, k => by
    simp only [Reps] at h
    obtain ⟨x, ys, h1, _, h3⟩ := h
    subst h1
    exact Reps.cons k h3
  | q :: ps, vs, i + 1, p, v, h, k => by
    simp only [Reps] at h
    obtain ⟨x, ys, h1, h2, h3⟩ := h
    subst h1
    exact Reps.cons h2 (Reps.set i h3 k)
theorem RepF.get : ∀ {ps : List (Str × PV)} {vs : List (Str × V)} {f : Str} {p : PV}, RepF G H ps vs → ps.lookup f = some p → ∃ v, vs.lookup f = some v ∧ Rep G H p v
  | [], _, _, _, _, e => by simp at e
  | (g, p) :: ps, vs, f, q, h, e => by
    simp only [RepF] at h
    obtain ⟨x, ys, h1, h2, h3⟩ := h
    subst h1
    by_cases c : (f == g) = true
    · simp only [List.lookup, c, Option.some.injEq] at e ⊢
      subst e
      exact ⟨x, rfl, h2⟩
    · have c' : (f == g) = false := by simpa using c
      simp only [List.lookup, c'] at e ⊢
      exact RepF.get h3 e
theorem RepF.none_of : ∀ {ps : List (Str × PV)} {vs : List (Str × V)} {f : Str}, RepF G H ps vs → ps.lookup f = none → vs.lookup f = none
  | [], _, _, h, _ => by simp only [RepF] at h; subst h; rfl
  | (g, p) :: ps, vs, f, h, e => by
    simp only [RepF] at h
    obtain ⟨x, ys, h1, h2, h3⟩ := h
    subst h1
    by_cases c : (f == g) = true
    · simp only [List.lookup, c] at e
      cases e
    · have c' : (f == g) = false := by simpa using c
      simp only [List.lookup, c'] at e ⊢
      exact RepF.none_of h3 e
theorem RepF.length : ∀ {ps : List (Str × PV)} {vs : List (Str × V)}, RepF G H ps vs → ps.length = vs.length
  | [], _, h => by simp only [RepF] at h; subst h; rfl
  | (_, p) :: ps, vs, h => by
    simp only [RepF] at h
    obtain ⟨x, ys, h1, _, h3⟩ := h
    subst h1
    simp only [List.length_cons, RepF.length h3]
end
/-! ### owned values: lists and instances that the def alone holds, and may change -/
inductive OV where
  | sh (p : PV) | own (l : List OV) | obj (c : Nat) (fs : List (Str × OV))
  deriving Inhabited
mutual
def OV.pv : OV → PV
  | .sh p => p
  | .own l => .lst (OV.pvs l)
  | .obj c fs => .ins c (OV.pvf fs)
def OV.pvs : List OV → List PV
  | [] => []
  | o :: l => o.pv :: OV.pvs l
def OV.pvf : List (Str × OV) → List (Str × PV)
  | [] => []
  | (f, o) :: l => (f, o.pv) :: OV.pvf l
end
mutual
/-- v stands for o; F: the places of what is owned -/
def OwnR (G : Gc) (H₀ H : Hp) : OV → V → List Addr → Prop
  | .sh p, v, F => Rep G H₀ p v ∧ F = []
  | .own l, v, F => ∃ a xs F', v = .ref a ∧ F = a :: F' ∧ H a = some (.lst xs) ∧ OwnRs G H₀ H l xs F'
  | .obj c fs, v, F => ∃ a dx vs F', v = .ref a ∧ F = a :: F' ∧ H a = some (.ins (G.CA c) dx vs) ∧ OwnRf G H₀ H fs vs F'
def OwnRs (G : Gc) (H₀ H : Hp) : List OV → List V → List Addr → Prop
  | [], xs, F => xs = [] ∧ F = []
  | o :: l, xs, F => ∃ x ys F1 F2, xs = x :: ys ∧ F = F1 ++ F2 ∧ OwnR G H₀ H o x F1 ∧ OwnRs G H₀ H l ys F2
def OwnRf (G : Gc) (H₀ H : Hp) : List (Str × OV) → List (Str × V) → List Addr → Prop
  | [], xs, F => xs = [] ∧ F = []
  | (f, o) :: l, xs, F => ∃ x ys F1 F2, xs = (f, x) :: ys ∧ F = F1 ++ F2 ∧ OwnR G H₀ H o x F1 ∧ OwnRf G H₀ H l ys F2
end
/-- the heap of what a def may read: what is frozen, and what it owns -/
def vw (H₀ H : Hp) (F : List Addr) : Hp := fun a => if a ∈ F then H a else H₀ a
section
variable {G : Gc} {H₀ H H₀' H' : Hp} {F : List Addr}
theorem same_vw (h : ∀ a ∈ F, H₀ a = none) : Same H₀ (vw H₀ H F) := fun a o e => by
  unfold vw
  rw [if_neg fun z => by rw [h a z] at e; cases e]
  exact e
theorem vw_same (z : Same H₀ H) : Same (vw H₀ H F) H := fun a o e => by
  unfold vw at e
  split at e
  · exact e
  · exact z a o e
mutual
/-- what is owned stands where it stood, if its places do -/
theorem OwnR.mono (e0 : Same H₀ H₀') : ∀ {o : OV} {v : V} {F : List Addr}, (∀ a ∈ F, H' a = H a) → OwnR G H₀ H o v F → OwnR G H₀' H' o v F
  | .sh p, v, F, _, h => by
    simp only [OwnR] at h ⊢
    exact ⟨Rep.mono e0 h.1, h.2⟩
  | .own l, v, F, k, h => by
    simp only [OwnR] at h ⊢
    obtain ⟨a, xs, F', h1, h2, h3, h4⟩ := h
    subst h2
    exact ⟨a, xs, F', h1, rfl, by rw [k a List.mem_cons_self]; exact h3, OwnRs.mono e0 (fun b hb => k b (List.mem_cons_of_mem _ hb)) h4⟩
  | .obj c fs, v, F, k, h => by
    simp only [OwnR] at h ⊢
    obtain ⟨a, dx, vs, F', h1, h2, h3, h4⟩ := h
    subst h2
    exact ⟨a, dx, vs, F', h1, rfl, by rw [k a List.mem_cons_self]; exact h3, OwnRf.mono e0 (fun b hb => k b (List.mem_cons_of_mem _ hb)) h4⟩
theorem OwnRs.mono (e0 : Same H₀ H₀') : ∀ {l : List OV} {xs : List V} {F : List Addr}, (∀ a ∈ F, H' a = H a) → OwnRs G H₀ H l xs F → OwnRs G H₀' H' l xs F
  | [], xs, F, _, h => by simpa only [OwnRs] using h
  | o :: l, xs, F, k, h => by
    simp only [OwnRs] at h ⊢
    obtain ⟨x, ys, F1, F2, h1, h2, h3, h4⟩ := h
    subst h2
    exact ⟨x, ys, F1, F2, h1, rfl, OwnR.mono e0 (fun b hb => k b (List.mem_append_left _ hb)) h3, OwnRs.mono e0 (fun b hb => k b (List.mem_append_right _ hb)) h4⟩
theorem OwnRf.mono (e0 : Same H₀ H₀') : ∀ {l : List (Str × OV)} {xs : List (Str × V)} {F : List Addr}, (∀ a ∈ F, H' a = H a) → OwnRf G H₀ H l xs F → OwnRf G H₀' H' l xs F
  | [], xs, F, _, h => by simpa only [OwnRf] using h
  | (f, o) :: l, xs, F, k, h => by
    simp only [OwnRf] at h ⊢
    obtain ⟨x, ys, F1, F2, h1, h2, h3, h4⟩ := h
    subst h2
    exact ⟨x, ys, F1, F2, h1, rfl, OwnR.mono e0 (fun b hb => k b (List.mem_append_left _ hb)) h3, OwnRf.mono e0 (fun b hb => k b (List.mem_append_right _ hb)) h4⟩
end
mutual
/-- an owned value's objects, read -/
theorem OwnR.rep {Hv : Hp} (e0 : Same H₀ Hv) : ∀ {o : OV} {v : V} {F : List Addr}, (∀ a ∈ F, Hv a = H a) → OwnR G H₀ H o v F → Rep G Hv o.pv v
  | .sh p, v, F, _, h => by
    simp only [OwnR] at h
    simp only [OV.pv]
    exact Rep.mono e0 h.1
  | .own l, v, F, k, h => by
    simp only [OwnR] at h
    simp only [OV.pv, Rep]
    obtain ⟨a, xs, F', h1, h2, h3, h4⟩ := h
    subst h2
    exact ⟨a, xs, h1, by rw [k a List.mem_cons_self]; exact h3, OwnRs.rep e0 (fun b hb => k b (List.mem_cons_of_mem _ hb)) h4⟩
  | .obj c fs, v, F, k, h => by
    simp only [OwnR] at h
    simp only [OV.pv, Rep]
    obtain ⟨a, dx, vs, F', h1, h2, h3, h4⟩ := h
    subst h2
    exact ⟨a, dx, vs, h1, by rw [k a List.mem_cons_self]; exact h3, OwnRf.rep e0 (fun b hb => k b (List.mem_cons_of_mem _ hb)) h4⟩
theorem OwnRs.rep {Hv : Hp} (e0 : Same H₀ Hv) : ∀ {l : List OV} {xs : List V} {F : List Addr}, (∀ a ∈ F, Hv a = H a) → OwnRs G H₀ H l xs F → Reps G Hv (OV.pvs l) xs
  | [], xs, F, _, h => by
    simp only [OwnRs] at h
    simp only [OV.pvs, Reps]
    exact h.1
  | o :: l, xs, F, k, h => by
    simp only [OwnRs] at h
    simp only [OV.pvs, Reps]
    obtain ⟨x, ys, F1, F2, h1, h2, h3, h4⟩ := h
    subst h2
    exact ⟨x, ys, h1, OwnR.rep e0 (fun b hb => k b (List.mem_append_left _ hb)) h3, OwnRs.rep e0 (fun b hb => k b (List.mem_append_right _ hb)) h4⟩
theorem OwnRf.rep {Hv : Hp} (e0 : Same H₀ Hv) : ∀ {l : List (Str × OV)} {xs : List (Str × V)} {F : List Addr}, (∀ a ∈ F, Hv a = H a) → OwnRf G H₀ H l xs F → RepF G Hv (OV.pvf l) xs
  | [], xs, F, _, h => by
    simp only [OwnRf] at h
    simp only [OV.pvf, RepF]
    exact h.1
  | (f, o) :: l, xs, F, k, h => by
    simp only [OwnRf] at h
    simp only [OV.pvf, RepF]
    obtain ⟨x, ys, F1, F2, h1, h2, h3, h4⟩ := h
    subst h2
    exact ⟨x, ys, h1, OwnR.rep e0 (fun b hb => k b (List.mem_append_left _ hb)) h3, OwnRf.rep e0 (fun b hb => k b (List.mem_append_right _ hb)) h4⟩
end
mutual
/-- the places stand in the heap -/
theorem OwnR.there : ∀ {o : OV} {v : V} {F : List Addr}, OwnR G H₀ H o v F → ∀ a ∈ F, ∃ u, H a = some u
  | .sh p, v, F, h, a, ha => by
    simp only [OwnR] at h
    rw [h.2] at ha
    cases ha
  | .own l, v, F, h, a, ha => by
    simp only [OwnR] at h
    obtain ⟨b, xs, F', h1, h2, h3, h4⟩ := h
    subst h2
    rcases List.mem_cons.mp ha with e | ha
    · rw [e]
      exact ⟨_, h3⟩
    · exact OwnRs.there h4 a ha
  | .obj c fs, v, F, h, a, ha => by
    simp only [OwnR] at h
    obtain ⟨b, dx, vs, F', h1, h2, h3, h4⟩ := h
    subst h2
    rcases List.mem_cons.mp ha with e | ha
    · rw [e]
      exact ⟨_, h3⟩
    · exact OwnRf.there h4 a ha
theorem OwnRs.there : ∀ {l : List OV} {xs : List V} {F : List Addr}, OwnRs G H₀ H l xs F → ∀ a ∈ F, ∃ u, H a = some u
  | [], xs, F, h, a, ha => by
    simp only [OwnRs] at h
    rw [h.2] at ha
    cases ha
  | o :: l, xs, F, h, a, ha => by
    simp only [OwnRs] at h
    obtain ⟨x, ys, F1, F2, h1, h2, h3, h4⟩ := h
    subst h2
    rcases List.mem_append.mp ha with ha | ha
    · exact OwnR.there h3 a ha
    · exact OwnRs.there h4 a ha
theorem OwnRf.there : ∀ {l : List (Str × OV)} {xs : List (Str × V)} {F : List Addr}, OwnRf G H₀ H l xs F → ∀ a ∈ F, ∃ u, H a = some u
  | [], xs, F, h, a, ha => by
    simp only [OwnRf] at h
    rw [h.2] at ha
    cases ha
  | (f, o) :: l, xs, F, h, a, ha => by
    simp only [OwnRf] at h
    obtain ⟨x, ys, F1, F2, h1, h2, h3, h4⟩ := h
    subst h2
    rcases List.mem_append.mp ha with ha | ha
    · exact OwnR.there h3 a ha
    · exact OwnRf.there h4 a ha
end
end
/-! ### environments -/
abbrev Env := List (Option OV)
def EnvR (G : Gc) (H₀ H : Hp) : Env → L2.St → List Addr → Prop
  | [], σ, F => σ = [] ∧ F = []
  | none :: ρ, σ, F => ∃ x τ, σ = x :: τ ∧ EnvR G H₀ H ρ τ F
  | some o :: ρ, σ, F => ∃ v τ F1 F2, σ = some v :: τ ∧ F = F1 ++ F2 ∧ OwnR G H₀ H o v F1 ∧ EnvR G H₀ H ρ τ F2
/-- a def's run: He what of the heap at its entry is to stay, Hz what was frozen there; fx: a slot that is to hold its value all along (self of an __init__, the exception of a suite); Hx: where that exception is seen -/
structure Fc where
  G : Gc
  He : Hp
  Hz : Hp
  fx : Option (Nat × V)
  Hx : Hp
/-- the state of a def's run: H₀ what is frozen now, F what it owns -/
structure SR (C : Fc) (H₀ : Hp) (F : List Addr) (ρ : Env) (σ : L2.St) (H : Hp) : Prop where
  e : Same C.He H
  z : Same H₀ H
  n : ∀ a, C.He a ≠ none → H₀ a = C.Hz a
  hz : Same C.Hz H₀
  env : EnvR C.G H₀ H ρ σ F
  nd : F.Nodup
  fr : ∀ a ∈ F, C.He a = none ∧ H₀ a = none
  fx : ∀ i v, C.fx = some (i, v) → σ[i]? = some (some v)
  hx : Same C.Hx H₀
/-- from one heap to a later one: nothing that stood is changed, what is frozen besides is new -/
structure Ext (H₀ H H₀' H' : Hp) : Prop where
  s : Same H H'
  s0 : Same H₀ H₀'
  z : Same H₀' H'
  n : ∀ a, H a ≠ none → H₀' a = H₀ a
theorem Ext.refl {H₀ H : Hp} (z : Same H₀ H) : Ext H₀ H H₀ H := ⟨Same.refl _, Same.refl _, z, fun _ _ => rfl⟩
theorem ne_none_of {H : Hp} {a : Addr} {o : HO} (h : H a = some o) : H a ≠ none := by rw [h]; exact fun z => nomatch z
theorem same_nn {H H' : Hp} (s : Same H H') {a : Addr} (h : H a ≠ none) : H' a ≠ none := by
  cases e : H a with
  | none => exact absurd e h
  | some o => rw [s a o e]; exact fun z => nomatch z
theorem Ext.trans {H₀ H H₁ H' H₂ H'' : Hp} (a : Ext H₀ H H₁ H') (b : Ext H₁ H' H₂ H'') : Ext H₀ H H₂ H'' :=
  ⟨a.s.trans b.s, a.s0.trans b.s0, b.z, fun c h => (b.n c (same_nn a.s h)).trans (a.n c h)⟩
section
variable {C : Fc} {G : Gc} {H₀ H₀' H H' : Hp} {F : List Addr} {ρ : Env} {σ : L2.St}
theorem EnvR.mono (e0 : Same H₀ H₀') : ∀ {ρ : Env} {σ : L2.St} {F : List Addr}, (∀ a ∈ F, H' a = H a) → EnvR G H₀ H ρ σ F → EnvR G H₀' H' ρ σ F
  | [], σ, F, _, h => h
  | none :: ρ, σ, F, k, h => by
    obtain ⟨x, τ, h1, h2⟩ := h
    exact ⟨x, τ, h1, EnvR.mono e0 k h2⟩
  | some o :: ρ, σ, F, k, h => by
    obtain ⟨v, τ, F1, F2, h1, h2, h3, h4⟩ := h
    subst h2
    exact ⟨v, τ, F1, F2, h1, rfl, OwnR.mono e0 (fun b hb => k b (List.mem_append_left _ hb)) h3, EnvR.mono e0 (fun b hb => k b (List.mem_append_right _ hb)) h4⟩
theorem EnvR.there : ∀ {ρ : Env} {σ : L2.St} {F : List Addr}, EnvR G H₀ H ρ σ F → ∀ a ∈ F, ∃ u, H a = some u
  | [], σ, F, h, a, ha => by rw [h.2] at ha; cases ha
  | none :: ρ, σ, F, h, a, ha => by
    obtain ⟨x, τ, h1, h2⟩ := h
    exact EnvR.there h2 a ha
  | some o :: ρ, σ, F, h, a, ha => by
    obtain ⟨v, τ, F1, F2, h1, h2, h3, h4⟩ := h
    subst h2
    rcases List.mem_append.mp ha with ha | ha
    · exact OwnR.there h3 a ha
    · exact EnvR.there h4 a ha
theorem SR.ext (S : SR C H₀ F ρ σ H) (E : Ext H₀ H H₀' H') : SR C H₀' F ρ σ H' := by
  have th := S.env.there
  refine ⟨S.e.trans E.s, E.z, fun a h => (E.n a (same_nn S.e h)).trans (S.n a h), S.hz.trans E.s0, EnvR.mono E.s0 (fun a ha => ?_) S.env, S.nd, fun a ha => ⟨(S.fr a ha).1, ?_⟩, S.fx, S.hx.trans E.s0⟩
  · obtain ⟨u, e⟩ := th a ha
    rw [e, E.s a u e]
  · obtain ⟨u, e⟩ := th a ha
    rw [E.n a (ne_none_of e)]
    exact (S.fr a ha).2
theorem SR.vz (S : SR C H₀ F ρ σ H) : Same H₀ (vw H₀ H F) := same_vw fun a ha => (S.fr a ha).2
theorem SR.vext (S : SR C H₀ F ρ σ H) (E : Ext H₀ H H₀' H') : Same (vw H₀ H F) (vw H₀' H' F) := fun a o e => by
  unfold vw at e ⊢
  by_cases ha : a ∈ F
  · rw [if_pos ha] at e ⊢
    exact E.s a o e
  · rw [if_neg ha] at e ⊢
    exact E.s0 a o e
/-- a slot's value -/
theorem EnvR.get : ∀ {ρ : Env} {σ : L2.St} {F : List Addr} {i : Nat} {o : OV}, EnvR G H₀ H ρ σ F → ρ[i]? = some (some o) → ∃ v F1, σ[i]? = some (some v) ∧ OwnR G H₀ H o v F1 ∧ ∀ a ∈ F1, a ∈ F
  | [], σ, F, i, o, h, e => by simp at e
  | none :: ρ, σ, F, 0, o, h, e => by simp at e
  | none :: ρ, σ, F, i + 1, o, h, e => by
    obtain ⟨x, τ, h1, h2⟩ := h
    obtain ⟨v, F1, e1, e2, e3⟩ := EnvR.get (i := i) h2 (by simpa using e)
    subst h1
    exact ⟨v, F1, by simpa using e1, e2, e3⟩
  | some o' :: ρ, σ, F, 0, o, h, e => by
    obtain ⟨v, τ, F1, F2, h1, h2, h3, h4⟩ := h
    subst h1 h2
    simp at e
    subst e
    exact ⟨v, F1, rfl, h3, fun a ha => List.mem_append_left _ ha⟩
  | some o' :: ρ, σ, F, i + 1, o, h, e => by
    obtain ⟨v, τ, F1, F2, h1, h2, h3, h4⟩ := h
    subst h1 h2
    obtain ⟨w, F3, e1, e2, e3⟩ := EnvR.get (i := i) h4 (by simpa using e)
    exact ⟨w, F3, by simpa using e1, e2, fun a ha => List.mem_append_right _ (e3 a ha)⟩
theorem EnvR.length : ∀ {ρ : Env} {σ : L2.St} {F : List Addr}, EnvR G H₀ H ρ σ F → ρ.length = σ.length
  | [], σ, F, h => by rw [h.1]; rfl
  | none :: ρ, σ, F, h => by
    obtain ⟨x, τ, h1, h2⟩ := h
    subst h1
    simp only [List.length_cons, EnvR.length h2]
  | some o :: ρ, σ, F, h => by
    obtain ⟨v, τ, F1, F2, h1, h2, h3, h4⟩ := h
    subst h1
    simp only [List.length_cons, EnvR.length h4]
/-- a slot gets a new value: its old places are given up -/
theorem EnvR.put : ∀ {ρ : Env} {σ : L2.St} {F : List Addr} (i : Nat) {o : OV} {v : V} {Fv : List Addr}, EnvR G H₀ H ρ σ F → OwnR G H₀ H o v Fv → F.Nodup → Fv.Nodup → (∀ a ∈ Fv, a ∉ F) →
    ∃ F', EnvR G H₀ H (ρ.set i (some o)) (σ.set i (some v)) F' ∧ F'.Nodup ∧ ∀ a ∈ F', a ∈ F ∨ a ∈ Fv
  | [], σ, F, i, o, v, Fv, h, r, nd, ndv, ap => by
    obtain ⟨h1, h2⟩ := h
    subst h1 h2
    exact ⟨[], ⟨by simp, rfl⟩, List.nodup_nil, fun a ha => by cases ha⟩
  | none :: ρ, σ, F, 0, o, v, Fv, h, r, nd, ndv, ap => by
    obtain ⟨x, τ, h1, h2⟩ := h
    subst h1
    exact ⟨Fv ++ F, ⟨v, τ, Fv, F, rfl, rfl, r, h2⟩, List.nodup_append.mpr ⟨ndv, nd, fun a ha b hb e => ap a ha (e ▸ hb)⟩, fun a ha => (List.mem_append.mp ha).symm⟩
  | some o' :: ρ, σ, F, 0, o, v, Fv, h, r, nd, ndv, ap => by
    obtain ⟨w, τ, F1, F2, h1, h2, h3, h4⟩ := h
    subst h1 h2
    have n2 := (List.nodup_append.mp nd).2.1
    exact ⟨Fv ++ F2, ⟨v, τ, Fv, F2, rfl, rfl, r, h4⟩, List.nodup_append.mpr ⟨ndv, n2, fun a ha b hb e => ap a ha (List.mem_append_right _ (e ▸ hb))⟩,
      fun a ha => (List.mem_append.mp ha).elim .inr fun z => .inl (List.mem_append_right _ z)⟩
  | none :: ρ, σ, F, i + 1, o, v, Fv, h, r, nd, ndv, ap => by
    obtain ⟨x, τ, h1, h2⟩ := h
    subst h1
    obtain ⟨F', e1, e2, e3⟩ := EnvR.put i h2 r nd ndv ap
    exact ⟨F', ⟨x, _, rfl, e1⟩, e2, e3⟩
  | some o' :: ρ, σ, F, i + 1, o, v, Fv, h, r, nd, ndv, ap => by
    obtain ⟨w, τ, F1, F2, h1, h2, h3, h4⟩ := h
    subst h1 h2
    obtain ⟨m1, m2, m3⟩ := List.nodup_append.mp nd
    obtain ⟨F', e1, e2, e3⟩ := EnvR.put i h4 r m2 ndv fun a ha z => ap a ha (List.mem_append_right _ z)
    refine ⟨F1 ++ F', ⟨w, _, F1, F', rfl, rfl, h3, e1⟩, List.nodup_append.mpr ⟨m1, e2, fun a ha b hb e => ?_⟩, fun a ha => ?_⟩
    · subst e
      rcases e3 a hb with z | z
      · exact m3 a ha a z rfl
      · exact ap a z (List.mem_append_left _ ha)
    · rcases List.mem_append.mp ha with z | z
      · exact .inl (List.mem_append_left _ z)
      · exact (e3 a z).imp (List.mem_append_right _) id
/-- a slot is forgotten -/
theorem EnvR.drop : ∀ {ρ : Env} {σ : L2.St} {F : List Addr} (i : Nat), EnvR G H₀ H ρ σ F → F.Nodup → ∃ F', EnvR G H₀ H (ρ.set i none) σ F' ∧ F'.Nodup ∧ ∀ a ∈ F', a ∈ F
  | [], σ, F, i, h, nd => ⟨F, by simpa using h, nd, fun _ ha => ha⟩
  | none :: ρ, σ, F, 0, h, nd => ⟨F, h, nd, fun _ ha => ha⟩
  | some o' :: ρ, σ, F, 0, h, nd => by
    obtain ⟨w, τ, F1, F2, h1, h2, h3, h4⟩ := h
    subst h2
    exact ⟨F2, ⟨_, τ, h1, h4⟩, (List.nodup_append.mp nd).2.1, fun a ha => List.mem_append_right _ ha⟩
  | none :: ρ, σ, F, i + 1, h, nd => by
    obtain ⟨x, τ, h1, h2⟩ := h
    obtain ⟨F', e1, e2, e3⟩ := EnvR.drop i h2 nd
    exact ⟨F', ⟨x, τ, h1, e1⟩, e2, e3⟩
  | some o' :: ρ, σ, F, i + 1, h, nd => by
    obtain ⟨w, τ, F1, F2, h1, h2, h3, h4⟩ := h
    subst h2
    obtain ⟨m1, m2, m3⟩ := List.nodup_append.mp nd
    obtain ⟨F', e1, e2, e3⟩ := EnvR.drop i h4 m2
    refine ⟨F1 ++ F', ⟨w, τ, F1, F', h1, rfl, h3, e1⟩, List.nodup_append.mpr ⟨m1, e2, fun a ha b hb e => m3 a ha b (e3 b hb) e⟩, fun a ha => ?_⟩
    rcases List.mem_append.mp ha with z | z
    · exact List.mem_append_left _ z
    · exact List.mem_append_right _ (e3 a z)
/-- a slot that is not known may hold anything -/
theorem EnvR.any : ∀ {ρ : Env} {σ : L2.St} {F : List Addr} (i : Nat) (x : Option V), EnvR G H₀ H ρ σ F → ρ[i]? = some none → EnvR G H₀ H ρ (σ.set i x) F
  | [], σ, F, i, x, h, e => by simp at e
  | none :: ρ, σ, F, 0, x, h, e => by
    obtain ⟨y, τ, h1, h2⟩ := h
    subst h1
    exact ⟨x, τ, rfl, h2⟩
  | some o' :: ρ, σ, F, 0, x, h, e => by simp at e
  | none :: ρ, σ, F, i + 1, x, h, e => by
    obtain ⟨y, τ, h1, h2⟩ := h
    subst h1
    exact ⟨y, _, rfl, EnvR.any i x h2 (by simpa using e)⟩
  | some o' :: ρ, σ, F, i + 1, x, h, e => by
    obtain ⟨w, τ, F1, F2, h1, h2, h3, h4⟩ := h
    subst h1 h2
    exact ⟨w, _, F1, F2, rfl, rfl, h3, EnvR.any i x h4 (by simpa using e)⟩
end
end L3

end
section
/-! L3. 2: outcomes, judgements, expressions -/
namespace L3
open PySem PySem.Spec PyProof.Rows L2
/-- an exception: its class's number, its fields -/
structure PX where
  c : Nat
  fs : List (Str × PV)
  deriving Inhabited
/-- a value, an exception, or: nothing is said -/
inductive R (α : Type) where
  | ok (a : α) | er (x : PX) | no
  deriving Inhabited
def R.bind {α β : Type} : R α → (α → R β) → R β
  | .ok a, f => f a
  | .er x, _ => .er x
  | .no, _ => .no
@[simp] theorem R.bind_ok {α β : Type} (a : α) (f : α → R β) : (R.ok a).bind f = f a := rfl
@[simp] theorem R.bind_er {α β : Type} (x : PX) (f : α → R β) : (R.er x).bind f = .er x := rfl
@[simp] theorem R.bind_no {α β : Type} (f : α → R β) : (R.no).bind f = .no := rfl
/-- of an option: nothing is said where there is none -/
def R.of {α : Type} : Option α → R α
  | some a => .ok a
  | none => .no
@[simp] theorem R.of_some {α : Type} (a : α) : R.of (some a) = .ok a := rfl
@[simp] theorem R.of_none {α : Type} : R.of (none : Option α) = .no := rfl
def RepX (G : Gc) (H : Hp) (x : PX) (cls : Value) (d : Option Addr) : Prop :=
  cls = .ref (G.CA x.c) ∧ ((x.fs = [] ∧ d = none) ∨ ∃ dd vs, d = some dd ∧ H dd = some (.xd vs) ∧ RepF G H x.fs vs)
/-- what an expression's value is seen in: what is frozen, or all that the def may read -/
def md (m : Bool) (H₀ H : Hp) (F : List Addr) : Hp := if m then H₀ else vw H₀ H F
section
variable {G : Gc} {m : Bool} {H₀ H H₀' H' : Hp} {F : List Addr} {p : Addr} {o : HO}
theorem md_H (z : Same H₀ H) : Same (md m H₀ H F) H := by
  unfold md
  cases m with
  | true => exact z
  | false => exact vw_same z
theorem z_md (fr : ∀ a ∈ F, H₀ a = none) : Same H₀ (md m H₀ H F) := by
  unfold md
  cases m with
  | true => exact Same.refl _
  | false => exact same_vw fr
theorem md_ext (E : Ext H₀ H H₀' H') : Same (md m H₀ H F) (md m H₀' H' F) := by
  unfold md
  cases m with
  | true => exact E.s0
  | false =>
    intro a o e
    change vw H₀ H F a = some o at e
    change vw H₀' H' F a = some o
    unfold vw at e ⊢
    by_cases ha : a ∈ F
    · rw [if_pos ha] at e ⊢
      exact E.s a o e
    · rw [if_neg ha] at e ⊢
      exact E.s0 a o e
theorem ext_new (z : Same H₀ H) (h : H p = none) : Ext H₀ H (upd H₀ p o) (upd H p o) := by
  have ne : ∀ b u, H b = some u → b ≠ p := fun b u e q => by rw [q, h] at e; cases e
  have ne0 : ∀ b u, H₀ b = some u → b ≠ p := fun b u e => ne b u (z b u e)
  refine ⟨fun b u e => by rw [upd_ne (ne b u e)]; exact e, fun b u e => by rw [upd_ne (ne0 b u e)]; exact e, fun b u e => ?_, fun b hb => ?_⟩
  · by_cases q : b = p
    · subst q
      rw [upd_same] at e ⊢
      exact e
    · rw [upd_ne q] at e ⊢
      exact z b u e
  · rw [upd_ne fun q => hb (by rw [q]; exact h)]
theorem md_new : md m (upd H₀ p o) (upd H p o) F p = some o := by
  unfold md
  cases m with
  | true => exact upd_same
  | false =>
    change vw _ _ F p = some o
    unfold vw
    by_cases hp : p ∈ F
    · rw [if_pos hp]; exact upd_same
    · rw [if_neg hp]; exact upd_same
end
/-! ### judgements -/
section
variable (C : Fc) (W : WX) (m : Bool)
/-- the transformer of an expression by its plain function -/
def tE (f : Env → R PV) : TE := fun σ H Q => ∃ H₀ F ρ, SR C H₀ F ρ σ H ∧ (match f ρ with
  | .ok p => ∀ v H' H₀', Ext H₀ H H₀' H' → Rep C.G (md m H₀' H' F) p v → Q v H'
  | .er x => ∀ cls d H' H₀', Ext H₀ H H₀' H' → RepX C.G H₀' x cls d → W cls d σ H'
  | .no => False)
def tTt (f : Env → R Bool) : TT := fun σ H Q => ∃ H₀ F ρ, SR C H₀ F ρ σ H ∧ (match f ρ with
  | .ok b => ∀ H' H₀', Ext H₀ H H₀' H' → Q b H'
  | .er x => ∀ cls d H' H₀', Ext H₀ H H₀' H' → RepX C.G H₀' x cls d → W cls d σ H'
  | .no => False)
def tAs (f : Env → R (List PV)) : TA := fun σ H Q => ∃ H₀ F ρ, SR C H₀ F ρ σ H ∧ (match f ρ with
  | .ok ps => ∀ vs H' H₀', Ext H₀ H H₀' H' → Reps C.G (md m H₀' H' F) ps vs → Q vs H'
  | .er x => ∀ cls d H' H₀', Ext H₀ H H₀' H' → RepX C.G H₀' x cls d → W cls d σ H'
  | .no => False)
/-- a new value that nothing else holds -/
def tF (f : Env → R OV) : TE := fun σ H Q => ∃ H₀ F ρ, SR C H₀ F ρ σ H ∧ (match f ρ with
  | .ok o => ∀ v H' H₀' Fv, Ext H₀ H H₀' H' → OwnR C.G H₀' H' o v Fv → Fv.Nodup → (∀ a ∈ Fv, H a = none ∧ H₀' a = none) → Q v H'
  | .er x => ∀ cls d H' H₀', Ext H₀ H H₀' H' → RepX C.G H₀' x cls d → W cls d σ H'
  | .no => False)
abbrev QE (X : Cx) (e : Expr) (f : Env → R PV) : Prop := PE X e (tE C W m f)
abbrev QT (X : Cx) (e : Expr) (f : Env → R Bool) : Prop := PT X e (tTt C W f)
abbrev QA (X : Cx) (es : List Expr) (f : Env → R (List PV)) : Prop := PA X es (tAs C W m f)
abbrev QF (X : Cx) (e : Expr) (f : Env → R OV) : Prop := PE X e (tF C W f)
end
theorem PE.imp {X : Cx} {e : Expr} {t t' : TE} (h : PE X e t) (k : ∀ σ H Q, t' σ H Q → t σ H Q) : PE X e t' := ⟨fun pins s σ H Q I q => h.run pins s σ H Q I (k _ _ _ q)⟩
theorem PT.imp {X : Cx} {e : Expr} {t t' : TT} (h : PT X e t) (k : ∀ σ H Q, t' σ H Q → t σ H Q) : PT X e t' := ⟨fun pins s σ H Q I q => h.run pins s σ H Q I (k _ _ _ q)⟩
theorem PW.imp {X : Cx} {e : Expr} {t t' : TT} (h : PW X e t) (k : ∀ σ H Q, t' σ H Q → t σ H Q) : PW X e t' := ⟨fun w pins s σ H Q I q => h.run w pins s σ H Q I (k _ _ _ q)⟩
theorem PA.imp {X : Cx} {es : List Expr} {t t' : TA} (h : PA X es t) (k : ∀ σ H Q, t' σ H Q → t σ H Q) : PA X es t' := ⟨fun pos pins s σ H Q I q => h.run pos pins s σ H Q I (k _ _ _ q)⟩
theorem PS.imp {X : Cx} {st : Stmt} {t t' : TS} (h : PS X st t) (k : ∀ D σ H, t' D σ H → t D σ H) : PS X st t' := ⟨fun pins s σ H D I q => h.run pins s σ H D I (k _ _ _ q)⟩
theorem PSs.imp {X : Cx} {st : List Stmt} {t t' : TS} (h : PSs X st t) (k : ∀ D σ H, t' D σ H → t D σ H) : PSs X st t' := ⟨fun pins s σ H D I q => h.run pins s σ H D I (k _ _ _ q)⟩
section
variable {C : Fc} {W : WX} {m : Bool} {X : Cx} {a b c : Expr} {pos : Pos} {σ : L2.St} {H : Hp}
/-! binding: one expression after another -/
theorem tE_bind {f : Env → R PV} {Q : VK} {g : Env → PV → R PV} {β : Prop} (h : ∃ H₀ F ρ, SR C H₀ F ρ σ H ∧
    (match f ρ with
    | .ok p => ∀ v H' H₀', Ext H₀ H H₀' H' → SR C H₀' F ρ σ H' → Rep C.G (md m H₀' H' F) p v → Q v H'
    | .er x => ∀ cls d H' H₀', Ext H₀ H H₀' H' → RepX C.G H₀' x cls d → W cls d σ H'
    | .no => False)) : tE C W m f σ H Q := by
  obtain ⟨H₀, F, ρ, S, h⟩ := h
  refine ⟨H₀, F, ρ, S, ?_⟩
  cases e : f ρ with
  | ok p =>
    rw [e] at h
    exact fun v H' H₀' E r => h v H' H₀' E (S.ext E) r
  | er x =>
    rw [e] at h
    exact h
  | no =>
    rw [e] at h
    exact h
/-- the outcome of f, gone on with by k -/
def Goes (Γ : Gc) (W : WX) {α : Type} (r : R α) (σ : L2.St) (H H₀ : Hp) (k : α → Prop) : Prop := match r with
  | .ok p => k p
  | .er x => ∀ cls d H' H₀', Ext H₀ H H₀' H' → RepX Γ H₀' x cls d → W cls d σ H'
  | .no => False
theorem Goes.bind {α β : Type} {r : R α} {g : α → R β} {H₀ : Hp} {k : β → Prop} : Goes C.G W (r.bind g) σ H H₀ k = Goes C.G W r σ H H₀ fun p => Goes C.G W (g p) σ H H₀ k := by
  cases r <;> rfl
theorem Goes.imp {α : Type} {r : R α} {H₀ : Hp} {k k' : α → Prop} (h : Goes C.G W r σ H H₀ k) (i : ∀ p, r = .ok p → k p → k' p) : Goes C.G W r σ H H₀ k' := by
  cases r with
  | ok p => exact i p rfl h
  | er x => exact h
  | no => exact h
theorem Goes.later {α : Type} {r : R α} {H₀ H' H₀' : Hp} {k : α → Prop} (E : Ext H₀ H H₀' H') (h : Goes C.G W r σ H H₀ k) : Goes C.G W r σ H' H₀' k := by
  cases r with
  | ok p => exact h
  | er x => exact fun cls d H2 H3 E2 => h cls d H2 H3 (E.trans E2)
  | no => exact h
theorem tE_iff {f : Env → R PV} {Q : VK} : tE C W m f σ H Q ↔ ∃ H₀ F ρ, SR C H₀ F ρ σ H ∧ Goes C.G W (f ρ) σ H H₀ fun p => ∀ v H' H₀', Ext H₀ H H₀' H' → Rep C.G (md m H₀' H' F) p v → Q v H' := by
  constructor <;>
  · rintro ⟨H₀, F, ρ, S, h⟩
    refine ⟨H₀, F, ρ, S, ?_⟩
    cases e : f ρ <;> (rw [e] at h; exact h)
theorem tT_iff {f : Env → R Bool} {Q : Bool → Hp → Prop} : tTt C W f σ H Q ↔ ∃ H₀ F ρ, SR C H₀ F ρ σ H ∧ Goes C.G W (f ρ) σ H H₀ fun b => ∀ H' H₀', Ext H₀ H H₀' H' → Q b H' := by
  constructor <;>
  · rintro ⟨H₀, F, ρ, S, h⟩
    refine ⟨H₀, F, ρ, S, ?_⟩
    cases e : f ρ <;> (rw [e] at h; exact h)
theorem tA_iff {f : Env → R (List PV)} {Q : List V → Hp → Prop} : tAs C W m f σ H Q ↔ ∃ H₀ F ρ, SR C H₀ F ρ σ H ∧ Goes C.G W (f ρ) σ H H₀ fun ps => ∀ vs H' H₀', Ext H₀ H H₀' H' → Reps C.G (md m H₀' H' F) ps vs → Q vs H' := by
  constructor <;>
  · rintro ⟨H₀, F, ρ, S, h⟩
    refine ⟨H₀, F, ρ, S, ?_⟩
    cases e : f ρ <;> (rw [e] at h; exact h)
theorem tF_iff {f : Env → R OV} {Q : VK} : tF C W f σ H Q ↔ ∃ H₀ F ρ, SR C H₀ F ρ σ H ∧ Goes C.G W (f ρ) σ H H₀ fun o => ∀ v H' H₀' Fv, Ext H₀ H H₀' H' → OwnR C.G H₀' H' o v Fv → Fv.Nodup → (∀ a ∈ Fv, H a = none ∧ H₀' a = none) → Q v H' := by
  constructor <;>
  · rintro ⟨H₀, F, ρ, S, h⟩
    refine ⟨H₀, F, ρ, S, ?_⟩
    cases e : f ρ <;> (rw [e] at h; exact h)
/-! ### leaves -/
/-- a name: what is frozen -/
def eVar (i : Nat) : Env → R PV := fun ρ => match ρ[i]? with
  | some (some (.sh p)) => .ok p
  | _ => .no
/-- a name: what is owned, looked at -/
def eOwn (i : Nat) : Env → R PV := fun ρ => match ρ[i]? with
  | some (some o) => .ok o.pv
  | _ => .no
def eCst (p : PV) : Env → R PV := fun _ => .ok p
theorem qVar (i : Nat) {x : Str} (hN : X.N[i]? = some x := by rfl) (hv : Vis X.env.scope x := by first | exact Or.inl rfl | exact Or.inr (Or.inl rfl) | exact Or.inr (Or.inr rfl)) (hd : (x == ("__debug__" : Str)) = false := by decide)
    (hcd : (x == ("__classdict__" : Str)) = false := by decide) : QE C W m X (.Name x pos) (eVar i) := by
  refine PE.imp (pe_var hN hv hd hcd) fun σ H Q h => ?_
  obtain ⟨H₀, F, ρ, S, h⟩ := h
  unfold eVar at h
  cases e : ρ[i]? with
  | none => rw [e] at h; exact h.elim
  | some o =>
    rw [e] at h
    match o, e, h with
    | none, _, h => exact h.elim
    | some (.own l), _, h => exact h.elim
    | some (.obj c fs), _, h => exact h.elim
    | some (.sh p), e, h =>
      obtain ⟨v, F1, e1, e2, _⟩ := S.env.get e
      simp only [OwnR] at e2
      exact ⟨v, e1, h v H H₀ (Ext.refl S.z) (Rep.mono (z_md fun a ha => (S.fr a ha).2) e2.1)⟩
theorem qOwn (i : Nat) {x : Str} (hN : X.N[i]? = some x := by rfl) (hv : Vis X.env.scope x := by first | exact Or.inl rfl | exact Or.inr (Or.inl rfl) | exact Or.inr (Or.inr rfl)) (hd : (x == ("__debug__" : Str)) = false := by decide)
    (hcd : (x == ("__classdict__" : Str)) = false := by decide) : QE C W false X (.Name x pos) (eOwn i) := by
  refine PE.imp (pe_var hN hv hd hcd) fun σ H Q h => ?_
  obtain ⟨H₀, F, ρ, S, h⟩ := h
  unfold eOwn at h
  cases e : ρ[i]? with
  | none => rw [e] at h; exact h.elim
  | some o =>
    rw [e] at h
    cases o with
    | none => exact h.elim
    | some o =>
      obtain ⟨v, F1, e1, e2, e3⟩ := S.env.get e
      refine ⟨v, e1, h v H H₀ (Ext.refl S.z) ?_⟩
      exact OwnR.rep (z_md (m := false) fun a ha => (S.fr a ha).2) (fun a ha => by change vw H₀ H F a = H a; unfold vw; rw [if_pos (e3 a ha)]) e2
theorem qInt {i : Int} {j} : QE C W m X (.Constant (.int i) j pos) (eCst (.int i)) := PE.imp pe_int fun σ H Q ⟨H₀, F, ρ, S, h⟩ => h _ H H₀ (Ext.refl S.z) (by simp only [Rep])
theorem qStr {x : Str} {j} : QE C W m X (.Constant (.str x) j pos) (eCst (.str x)) := PE.imp pe_str fun σ H Q ⟨H₀, F, ρ, S, h⟩ => h _ H H₀ (Ext.refl S.z) (by simp only [Rep])
theorem qBl {x : Bool} {j} : QE C W m X (.Constant (.bool x) j pos) (eCst (.bl x)) := PE.imp pe_bl fun σ H Q ⟨H₀, F, ρ, S, h⟩ => h _ H H₀ (Ext.refl S.z) (by simp only [Rep])
theorem qNon {j} : QE C W m X (.Constant .none j pos) (eCst .non) := PE.imp pe_non fun σ H Q ⟨H₀, F, ρ, S, h⟩ => h _ H H₀ (Ext.refl S.z) (by simp only [Rep])
/-- a constant of the module -/
theorem qGlob {x : Str} {v : V} {u : Value} {p : PV} (hm : X.mg x = some u) (r : RelV v u) (hp : ∀ H, Rep C.G H p v) (hg : Gl X x := by rfl) (hd : (x == ("__debug__" : Str)) = false := by decide) : QE C W m X (.Name x pos) (eCst p) :=
  PE.imp (pe_glob hg hm r hd) fun σ H Q ⟨H₀, F, ρ, S, h⟩ => h _ H H₀ (Ext.refl S.z) (hp _)
/-! ### operators -/
/-- what an operator by values must do -/
def Op2 (Γ : Gc) (r : R2) (g : PV → PV → R PV) : Prop := ∀ (m : Bool) (H₀ H : Hp) (F : List Addr) (p q z : PV) (x y : V) (Q : VK), Same H₀ H → Rep Γ (md m H₀ H F) p x → Rep Γ (md m H₀ H F) q y → g p q = .ok z →
  (∀ v H' H₀', Ext H₀ H H₀' H' → Rep Γ (md m H₀' H' F) z v → Q v H') → r x y H Q
/-- an operator that raises nothing -/
def Calm2 (g : PV → PV → R PV) : Prop := ∀ p q x, g p q ≠ .er x
def eBin (g : PV → PV → R PV) (fa fb : Env → R PV) : Env → R PV := fun ρ => (fa ρ).bind fun p => (fb ρ).bind fun q => g p q
theorem op2_go {r : R2} {g : PV → PV → R PV} {fa fb : Env → R PV} (hg : Calm2 g) (ho : Op2 C.G r g) {Q : VK} (h : tE C W m (eBin g fa fb) σ H Q) :
    tE C W m fa σ H fun x H1 => tE C W m fb σ H1 fun y H2 => r x y H2 Q := by
  rw [tE_iff] at h ⊢
  obtain ⟨H₀, F, ρ, S, h⟩ := h
  unfold eBin at h
  rw [Goes.bind] at h
  refine ⟨H₀, F, ρ, S, h.imp fun p _ h v H1 H₁ E1 r1 => ?_⟩
  rw [Goes.bind] at h
  rw [tE_iff]
  refine ⟨H₁, F, ρ, S.ext E1, (h.later E1).imp fun q _ h w H2 H₂ E2 r2 => ?_⟩
  cases e : g p q with
  | ok z =>
    rw [e] at h
    exact ho m H₂ H2 F p q z v w Q E2.z (Rep.mono (md_ext E2) r1) r2 e fun u H' H₀' E r => h u H' H₀' ((E1.trans E2).trans E) r
  | er x => exact absurd e (hg p q x)
  | no =>
    rw [e] at h
    exact h.elim
theorem qBin {op : Operator} {r : R2} {g : PV → PV → R PV} {fa fb : Env → R PV} (ho : OpR X (binaryOp op) r) (hg : Calm2 g) (hr : Op2 C.G r g) (ha : QE C W m X a fa) (hb : QE C W m X b fb) : QE C W m X (.BinOp a op b pos) (eBin g fa fb) :=
  PE.imp (pe_op ho ha hb) fun σ H Q h => op2_go hg hr h
theorem qCmp {op : CmpOp} {r : R2} {g : PV → PV → R PV} {fa fb : Env → R PV} (ho : OpR X (compareOp op) r) (hg : Calm2 g) (hr : Op2 C.G r g) (ha : QE C W m X a fa) (hb : QE C W m X b fb) (hm : behindInMarks op b = false := by first | exact nomark _ | rfl) : QE C W m X (.Compare a [op] [b] pos) (eBin g fa fb) :=
  PE.imp (pe_cmpR ho ha hb hm) fun σ H Q h => op2_go hg hr h
/-- a value as a test's answer -/
def eTst (f : Env → R PV) : Env → R Bool := fun ρ => (f ρ).bind fun p => match p with
  | .bl b => .ok b
  | _ => .no
theorem tst_go {f : Env → R PV} {Q : Bool → Hp → Prop} (h : tTt C W (eTst f) σ H Q) : tE C W m f σ H fun x H' => ∃ k, x = .bl k ∧ Q k H' := by
  rw [tT_iff] at h
  rw [tE_iff]
  obtain ⟨H₀, F, ρ, S, h⟩ := h
  unfold eTst at h
  rw [Goes.bind] at h
  refine ⟨H₀, F, ρ, S, h.imp fun p _ h v H1 H₁ E1 r1 => ?_⟩
  cases p with
  | bl b =>
    simp only [Rep] at r1
    exact ⟨b, r1, h H1 H₁ E1⟩
  | _ => exact (show False from h).elim
theorem qtCmp {op : CmpOp} {r : R2} {g : PV → PV → R PV} {fa fb : Env → R PV} (ho : OpR X (compareOp op) r) (hg : Calm2 g) (hr : Op2 C.G r g) (ha : QE C W m X a fa) (hb : QE C W m X b fb) (hm : behindInMarks op b = false := by first | exact nomark _ | rfl) : QT C W X (.Compare a [op] [b] pos) (eTst (eBin g fa fb)) :=
  PT.imp (pt_cmpR ho ha hb hm) fun σ H Q h => op2_go hg hr (tst_go h)
/-- any expression whose value is a bool, as a test -/
theorem qtVal {e : Expr} {f : Env → R PV} (h : QE C W m X e f) (he : ∀ whole, isTrue e X.env whole = (do let v ← whole; standAt e.pos; holding [v] (truthy v)) := by intro _; rfl) : QT C W X e (eTst f) :=
  PT.imp (pt_val h he) fun σ H Q h => tst_go h
/-- truth of any value -/
def truthR : PV → R Bool
  | .non => .ok false
  | .bl b => .ok b
  | .int i => .ok (i != 0)
  | .str s => if s.length ≤ sizeLine then .ok ((s.length : Int) != 0) else .no
  | .lst l => .ok (!l.isEmpty)
  | .scr l => .ok (!l.isEmpty)
  | .tup l => .ok (!l.isEmpty)
  | .ins _ _ => .no
def eTru (f : Env → R PV) : Env → R Bool := fun ρ => (f ρ).bind truthR
theorem qtTru {e : Expr} {f : Env → R PV} (hK : X.K = C.G.K) (h : QE C W m X e f) (he : ∀ whole, isTrue e X.env whole = (do let v ← whole; standAt e.pos; holding [v] (truthy v)) := by intro _; rfl) : QT C W X e (eTru f) := by
  refine PT.imp (pt_truth h he) fun σ H Q h => ?_
  rw [tT_iff] at h
  rw [tE_iff]
  obtain ⟨H₀, F, ρ, S, h⟩ := h
  unfold eTru at h
  rw [Goes.bind] at h
  refine ⟨H₀, F, ρ, S, h.imp fun p _ h v H1 H₁ E1 r1 => ?_⟩
  have r2 : Rep C.G H1 p v := Rep.mono (md_H E1.z) r1
  have emp : ∀ {ps : List PV} {vs : List V}, Reps C.G H1 ps vs → (!ps.isEmpty) = !vs.isEmpty := fun {ps vs} r => by
    cases ps with
    | nil => simp only [Reps] at r; subst r; rfl
    | cons p ps => simp only [Reps] at r; obtain ⟨x, ys, h1, _⟩ := r; subst h1; rfl
  rw [hK]
  cases p with
  | non => simp only [Rep] at r2; subst r2; exact ⟨false, rfl, h H1 H₁ E1⟩
  | bl b => simp only [Rep] at r2; subst r2; exact ⟨b, rfl, h H1 H₁ E1⟩
  | int i => simp only [Rep] at r2; subst r2; exact ⟨_, rfl, h H1 H₁ E1⟩
  | str s =>
    simp only [Rep] at r2
    subst r2
    simp only [truthR] at h
    split at h
    · rename_i hs
      exact ⟨_, ⟨hs, rfl⟩, h H1 H₁ E1⟩
    · exact h.elim
  | lst l =>
    simp only [Rep] at r2
    obtain ⟨a, xs, h1, h2, h3⟩ := r2
    subst h1
    exact ⟨_, .inl ⟨xs, SqL.of h2, rfl⟩, by rw [← emp h3]; exact h H1 H₁ E1⟩
  | scr l =>
    simp only [Rep] at r2
    obtain ⟨a, xs, h1, h2, h3⟩ := r2
    subst h1
    exact ⟨_, .inl ⟨xs, h2, rfl⟩, by rw [← emp h3]; exact h H1 H₁ E1⟩
  | tup l =>
    simp only [Rep] at r2
    obtain ⟨a, xs, h1, h2, h3⟩ := r2
    subst h1
    exact ⟨_, .inr (.inl ⟨xs, h2, rfl⟩), by rw [← emp h3]; exact h H1 H₁ E1⟩
  | ins c fs => exact h.elim
/-! and, or, not -/
def bAnd (fa fb : Env → R Bool) : Env → R Bool := fun ρ => (fa ρ).bind fun c => if c = true then fb ρ else .ok false
def bOr (fa fb : Env → R Bool) : Env → R Bool := fun ρ => (fa ρ).bind fun c => if c = true then .ok true else fb ρ
def bNot (fa : Env → R Bool) : Env → R Bool := fun ρ => (fa ρ).bind fun c => .ok (!c)
abbrev QW (C : Fc) (W : WX) (X : Cx) (e : Expr) (f : Env → R Bool) : Prop := PW X e (tTt C W f)
theorem qw_and1 {fa : Env → R Bool} (ha : QT C W X a fa) : QW C W X (.BoolOp .And [a] pos) fa := pw_and1 ha
theorem qw_or1 {fa : Env → R Bool} (ha : QT C W X a fa) : QW C W X (.BoolOp .Or [a] pos) fa := pw_or1 ha
theorem qw_and {rest : List Expr} {fa fb : Env → R Bool} (ha : QT C W X a fa) (hb : QW C W X (.BoolOp .And (b :: rest) pos) fb) : QW C W X (.BoolOp .And (a :: b :: rest) pos) (bAnd fa fb) := by
  refine PW.imp (pw_and ha hb) fun σ H Q h => ?_
  show tTt C W fa σ H fun c H1 => if c = true then tTt C W fb σ H1 Q else Q false H1
  rw [tT_iff] at h ⊢
  obtain ⟨H₀, F, ρ, S, h⟩ := h
  unfold bAnd at h
  rw [Goes.bind] at h
  refine ⟨H₀, F, ρ, S, h.imp fun c _ h H1 H₁ E1 => ?_⟩
  cases c with
  | true =>
    rw [if_pos rfl] at h ⊢
    rw [tT_iff]
    exact ⟨H₁, F, ρ, S.ext E1, (h.later E1).imp fun d _ h H2 H₂ E2 => h H2 H₂ (E1.trans E2)⟩
  | false =>
    rw [if_neg Bool.false_ne_true] at h ⊢
    exact h H1 H₁ E1
theorem qw_or {rest : List Expr} {fa fb : Env → R Bool} (ha : QT C W X a fa) (hb : QW C W X (.BoolOp .Or (b :: rest) pos) fb) : QW C W X (.BoolOp .Or (a :: b :: rest) pos) (bOr fa fb) := by
  refine PW.imp (pw_or ha hb) fun σ H Q h => ?_
  show tTt C W fa σ H fun c H1 => if c = true then Q true H1 else tTt C W fb σ H1 Q
  rw [tT_iff] at h ⊢
  obtain ⟨H₀, F, ρ, S, h⟩ := h
  unfold bOr at h
  rw [Goes.bind] at h
  refine ⟨H₀, F, ρ, S, h.imp fun c _ h H1 H₁ E1 => ?_⟩
  cases c with
  | true =>
    rw [if_pos rfl] at h ⊢
    exact h H1 H₁ E1
  | false =>
    rw [if_neg Bool.false_ne_true] at h ⊢
    rw [tT_iff]
    exact ⟨H₁, F, ρ, S.ext E1, (h.later E1).imp fun d _ h H2 H₂ E2 => h H2 H₂ (E1.trans E2)⟩
theorem qt_w {e : Expr} {f : Env → R Bool} (h : QW C W X e f) : QT C W X e f := h.pt
theorem qt_not {fa : Env → R Bool} (ha : QT C W X a fa) : QT C W X (.UnaryOp .Not a pos) (bNot fa) := by
  refine PT.imp (pt_not ha) fun σ H Q h => ?_
  show tTt C W fa σ H fun c H1 => Q (!c) H1
  rw [tT_iff] at h ⊢
  obtain ⟨H₀, F, ρ, S, h⟩ := h
  unfold bNot at h
  rw [Goes.bind] at h
  exact ⟨H₀, F, ρ, S, h.imp fun c _ h H1 H₁ E1 => h H1 H₁ E1⟩
/-! as values -/
def eAnd (fa fb : Env → R PV) : Env → R PV := fun ρ => (fa ρ).bind fun p => match p with
  | .bl true => fb ρ
  | .bl false => .ok (.bl false)
  | _ => .no
def eOr (fa fb : Env → R PV) : Env → R PV := fun ρ => (fa ρ).bind fun p => match p with
  | .bl true => .ok (.bl true)
  | .bl false => fb ρ
  | _ => .no
def eNot (fa : Env → R PV) : Env → R PV := fun ρ => (fa ρ).bind fun p => match p with
  | .bl b => .ok (.bl (!b))
  | _ => .no
theorem qOne {op} {f : Env → R PV} (h : QE C W m X a f) : QE C W m X (.BoolOp op [a] pos) f := pe_one h
theorem qAnd {rest : List Expr} {fa fb : Env → R PV} (ha : QE C W m X a fa) (hb : QE C W m X (.BoolOp .And (b :: rest) pos) fb) : QE C W m X (.BoolOp .And (a :: b :: rest) pos) (eAnd fa fb) := by
  refine PE.imp (pe_and ha hb) fun σ H Q h => ?_
  show tE C W m fa σ H fun x H1 => ∃ c, x = .bl c ∧ if c = true then tE C W m fb σ H1 Q else Q (.bl false) H1
  rw [tE_iff] at h ⊢
  obtain ⟨H₀, F, ρ, S, h⟩ := h
  unfold eAnd at h
  rw [Goes.bind] at h
  refine ⟨H₀, F, ρ, S, h.imp fun p _ h v H1 H₁ E1 r1 => ?_⟩
  match p, h, r1 with
  | .bl true, h, r1 =>
    simp only [Rep] at r1
    refine ⟨true, r1, ?_⟩
    rw [if_pos rfl, tE_iff]
    exact ⟨H₁, F, ρ, S.ext E1, (h.later E1).imp fun d _ h w H2 H₂ E2 => h w H2 H₂ (E1.trans E2)⟩
  | .bl false, h, r1 =>
    simp only [Rep] at r1
    refine ⟨false, r1, ?_⟩
    rw [if_neg Bool.false_ne_true]
    exact h _ H1 H₁ E1 (by simp only [Rep])
theorem qOr {rest : List Expr} {fa fb : Env → R PV} (ha : QE C W m X a fa) (hb : QE C W m X (.BoolOp .Or (b :: rest) pos) fb) : QE C W m X (.BoolOp .Or (a :: b :: rest) pos) (eOr fa fb) := by
  refine PE.imp (pe_or ha hb) fun σ H Q h => ?_
  show tE C W m fa σ H fun x H1 => ∃ c, x = .bl c ∧ if c = true then Q (.bl true) H1 else tE C W m fb σ H1 Q
  rw [tE_iff] at h ⊢
  obtain ⟨H₀, F, ρ, S, h⟩ := h
  unfold eOr at h
  rw [Goes.bind] at h
  refine ⟨H₀, F, ρ, S, h.imp fun p _ h v H1 H₁ E1 r1 => ?_⟩
  match p, h, r1 with
  | .bl false, h, r1 =>
    simp only [Rep] at r1
    refine ⟨false, r1, ?_⟩
    rw [if_neg Bool.false_ne_true, tE_iff]
    exact ⟨H₁, F, ρ, S.ext E1, (h.later E1).imp fun d _ h w H2 H₂ E2 => h w H2 H₂ (E1.trans E2)⟩
  | .bl true, h, r1 =>
    simp only [Rep] at r1
    refine ⟨true, r1, ?_⟩
    rw [if_pos rfl]
    exact h _ H1 H₁ E1 (by simp only [Rep])
theorem qNot {fa : Env → R PV} (ha : QE C W m X a fa) : QE C W m X (.UnaryOp .Not a pos) (eNot fa) := by
  refine PE.imp (pe_not ha) fun σ H Q h => ?_
  show tE C W m fa σ H fun x H1 => ∃ c, x = .bl c ∧ Q (.bl (!c)) H1
  rw [tE_iff] at h ⊢
  obtain ⟨H₀, F, ρ, S, h⟩ := h
  unfold eNot at h
  rw [Goes.bind] at h
  refine ⟨H₀, F, ρ, S, h.imp fun p _ h v H1 H₁ E1 r1 => ?_⟩
  cases p with
  | bl b =>
    simp only [Rep] at r1
    exact ⟨b, r1, h _ H1 H₁ E1 (by simp only [Rep])⟩
  | _ => exact (show False from h).elim
def eIf (fc : Env → R Bool) (fa fb : Env → R PV) : Env → R PV := fun ρ => (fc ρ).bind fun c => if c = true then fa ρ else fb ρ
theorem qIf {fc : Env → R Bool} {fa fb : Env → R PV} (hc : QT C W X c fc) (ha : QE C W m X a fa) (hb : QE C W m X b fb) : QE C W m X (.IfExp c a b pos) (eIf fc fa fb) := by
  refine PE.imp (pe_ifExp hc ha hb) fun σ H Q h => ?_
  show tTt C W fc σ H fun c H1 => if c = true then tE C W m fa σ H1 Q else tE C W m fb σ H1 Q
  rw [tE_iff] at h
  rw [tT_iff]
  obtain ⟨H₀, F, ρ, S, h⟩ := h
  unfold eIf at h
  rw [Goes.bind] at h
  refine ⟨H₀, F, ρ, S, h.imp fun d _ h H1 H₁ E1 => ?_⟩
  cases d with
  | true =>
    rw [if_pos rfl] at h ⊢
    rw [tE_iff]
    exact ⟨H₁, F, ρ, S.ext E1, (h.later E1).imp fun d _ h w H2 H₂ E2 => h w H2 H₂ (E1.trans E2)⟩
  | false =>
    rw [if_neg Bool.false_ne_true] at h ⊢
    rw [tE_iff]
    exact ⟨H₁, F, ρ, S.ext E1, (h.later E1).imp fun d _ h w H2 H₂ E2 => h w H2 H₂ (E1.trans E2)⟩
/-- a scalar may leave what is only looked at -/
def scalarR : PV → R PV
  | .lst _ => .no
  | .scr _ => .no
  | .tup _ => .no
  | .ins _ _ => .no
  | p => .ok p
def eSca (f : Env → R PV) : Env → R PV := fun ρ => (f ρ).bind scalarR
theorem qSca {f : Env → R PV} (h : QE C W false X a f) : QE C W m X a (eSca f) := by
  refine PE.imp h fun σ H Q h => ?_
  rw [tE_iff] at h ⊢
  obtain ⟨H₀, F, ρ, S, h⟩ := h
  unfold eSca at h
  rw [Goes.bind] at h
  refine ⟨H₀, F, ρ, S, h.imp fun p _ h v H1 H₁ E1 r1 => ?_⟩
  cases p with
  | lst l => exact h.elim
  | scr l => exact h.elim
  | tup l => exact h.elim
  | ins c fs => exact h.elim
  | non => exact h v H1 H₁ E1 (by simpa only [Rep] using r1)
  | bl b => exact h v H1 H₁ E1 (by simpa only [Rep] using r1)
  | int b => exact h v H1 H₁ E1 (by simpa only [Rep] using r1)
  | str b => exact h v H1 H₁ E1 (by simpa only [Rep] using r1)
/-- what is frozen may be looked at -/
theorem qBor {f : Env → R PV} (h : QE C W true X a f) : QE C W false X a f := by
  refine PE.imp h fun σ H Q h => ?_
  rw [tE_iff] at h ⊢
  obtain ⟨H₀, F, ρ, S, h⟩ := h
  exact ⟨H₀, F, ρ, S, h.imp fun p _ h v H1 H₁ E1 r1 => h v H1 H₁ E1 (Rep.mono (z_md (m := false) fun a ha => ((S.ext E1).fr a ha).2) r1)⟩
/-! ### argument lists, displays -/
def aNil : Env → R (List PV) := fun _ => .ok []
def aCons (f : Env → R PV) (r : Env → R (List PV)) : Env → R (List PV) := fun ρ => (f ρ).bind fun p => (r ρ).bind fun ps => .ok (p :: ps)
theorem qaNil : QA C W m X [] aNil := PA.imp pa_nil fun σ H Q ⟨H₀, F, ρ, S, h⟩ => h _ H H₀ (Ext.refl S.z) Reps.nil
theorem qaCons {es : List Expr} {f : Env → R PV} {r : Env → R (List PV)} (ha : QE C W m X a f) (hr : QA C W m X es r) (hs : starEach (a :: es) X.env = (false, eval a X.env) :: starEach es X.env := by rfl) : QA C W m X (a :: es) (aCons f r) := by
  refine PA.imp (pa_cons ha hr hs) fun σ H Q h => ?_
  show tE C W m f σ H fun x H1 => tAs C W m r σ H1 fun xs H2 => Q (x :: xs) H2
  rw [tA_iff] at h
  rw [tE_iff]
  obtain ⟨H₀, F, ρ, S, h⟩ := h
  unfold aCons at h
  rw [Goes.bind] at h
  refine ⟨H₀, F, ρ, S, h.imp fun p _ h v H1 H₁ E1 r1 => ?_⟩
  rw [Goes.bind] at h
  rw [tA_iff]
  exact ⟨H₁, F, ρ, S.ext E1, (h.later E1).imp fun ps _ h ws H2 H₂ E2 r2 => h (v :: ws) H2 H₂ (E1.trans E2) (Reps.cons (Rep.mono (md_ext E2) r1) r2)⟩
def mkTup (ps : List PV) : R PV := if ps.length ≤ sizeLine then .ok (.tup ps) else .no
def mkLst (ps : List PV) : R OV := if ps.length ≤ sizeLine then .ok (.own (ps.map .sh)) else .no
def eTup (r : Env → R (List PV)) : Env → R PV := fun ρ => (r ρ).bind mkTup
def fLst (r : Env → R (List PV)) : Env → R OV := fun ρ => (r ρ).bind mkLst
theorem qTup {es : List Expr} {x1} {r : Env → R (List PV)} (h : QA C W m X es r) : QE C W m X (.Tuple es x1 pos) (eTup r) := by
  refine PE.imp (pe_tup h) fun σ H Q h => ?_
  show tAs C W m r σ H fun xs H1 => xs.length ≤ sizeLine ∧ ∀ p, H1 p = none → Q (.ref p) (upd H1 p (.tup xs))
  rw [tE_iff] at h
  rw [tA_iff]
  obtain ⟨H₀, F, ρ, S, h⟩ := h
  unfold eTup at h
  rw [Goes.bind] at h
  refine ⟨H₀, F, ρ, S, h.imp fun ps _ h vs H1 H₁ E1 r1 => ?_⟩
  unfold mkTup at h
  split at h
  · rename_i hs
    refine ⟨by rw [← r1.length]; exact hs, fun p hp => ?_⟩
    have E2 : Ext H₁ H1 (upd H₁ p (.tup vs)) (upd H1 p (.tup vs)) := ext_new E1.z hp
    exact h _ _ _ (E1.trans E2) (by simp only [Rep]; exact ⟨p, vs, rfl, SqT.of md_new, Reps.mono (md_ext E2) r1⟩)
  · exact h.elim
theorem ownRs_sh : ∀ {ps : List PV} {vs : List V} {H₀ H : Hp}, Reps C.G H₀ ps vs → OwnRs C.G H₀ H (ps.map .sh) vs []
  | [], vs, H₀, H, h => by simp only [Reps] at h; subst h; simp [OwnRs]
  | p :: ps, vs, H₀, H, h => by
    simp only [Reps] at h
    obtain ⟨x, ys, h1, h2, h3⟩ := h
    subst h1
    simp only [List.map_cons, OwnRs]
    exact ⟨x, ys, [], [], rfl, rfl, by simp only [OwnR]; exact ⟨h2, trivial⟩, ownRs_sh h3⟩
/-- a new list of frozen things -/
theorem own_new {ps : List PV} {vs : List V} {H₀ H : Hp} {p : Addr} (z : Same H₀ H) (hp : H p = none) (r : Reps C.G H₀ ps vs) :
    Ext H₀ H H₀ (upd H p (.lst vs)) ∧ OwnR C.G H₀ (upd H p (.lst vs)) (.own (ps.map .sh)) (.ref p) [p] ∧ ([p] : List Addr).Nodup ∧ ∀ a ∈ [p], H a = none ∧ H₀ a = none := by
  have h0 : H₀ p = none := Same.free z hp
  refine ⟨⟨fun b u e => ?_, Same.refl _, fun b u e => ?_, fun _ _ => rfl⟩, ?_, by simp, fun a ha => ?_⟩
  · rw [upd_ne fun q => by rw [q, hp] at e; cases e]; exact e
  · rw [upd_ne fun q => by rw [q, h0] at e; cases e]; exact z b u e
  · simp only [OwnR]
    exact ⟨p, vs, [], rfl, rfl, upd_same, ownRs_sh r⟩
  · rw [List.mem_singleton.mp ha]; exact ⟨hp, h0⟩
theorem qLst {es : List Expr} {r : Env → R (List PV)} (h : QA C W true X es r) : QF C W X (.List es pos) (fLst r) := by
  refine PE.imp (pe_lst h) fun σ H Q h => ?_
  show tAs C W true r σ H fun xs H1 => xs.length ≤ sizeLine ∧ ∀ p, H1 p = none → Q (.ref p) (upd H1 p (.lst xs))
  rw [tF_iff] at h
  rw [tA_iff]
  obtain ⟨H₀, F, ρ, S, h⟩ := h
  unfold fLst at h
  rw [Goes.bind] at h
  refine ⟨H₀, F, ρ, S, h.imp fun ps _ h vs H1 H₁ E1 r1 => ?_⟩
  unfold mkLst at h
  split at h
  · rename_i hs
    refine ⟨by rw [← r1.length]; exact hs, fun p hp => ?_⟩
    obtain ⟨E2, o2, n2, f2⟩ := own_new (C := C) E1.z hp r1
    exact h _ _ _ _ (E1.trans E2) o2 n2 fun a ha => ⟨Same.free E1.s (f2 a ha).1, (f2 a ha).2⟩
  · exact h.elim
/-- what is new may be frozen -/
def eFz (f : Env → R OV) : Env → R PV := fun ρ => (f ρ).bind fun o => .ok o.pv
theorem frz_ext {o : OV} {v : V} {H H' H₀ H₀' : Hp} {Fv : List Addr} (E : Ext H₀ H H₀' H') (r : OwnR C.G H₀' H' o v Fv) (fr : ∀ a ∈ Fv, H a = none ∧ H₀' a = none) :
    Ext H₀ H (vw H₀' H' Fv) H' ∧ Rep C.G (vw H₀' H' Fv) o.pv v := by
  have z0 : Same H₀' (vw H₀' H' Fv) := same_vw fun a ha => (fr a ha).2
  refine ⟨⟨E.s, E.s0.trans z0, vw_same E.z, fun a ha => ?_⟩, OwnR.rep z0 (fun a ha => by unfold vw; rw [if_pos ha]) r⟩
  unfold vw
  rw [if_neg fun q => ha (fr a q).1]
  exact E.n a ha
theorem qFz {f : Env → R OV} (h : QF C W X a f) : QE C W m X a (eFz f) := by
  refine PE.imp h fun σ H Q h => ?_
  rw [tE_iff] at h
  rw [tF_iff]
  obtain ⟨H₀, F, ρ, S, h⟩ := h
  unfold eFz at h
  rw [Goes.bind] at h
  refine ⟨H₀, F, ρ, S, h.imp fun o _ h v H1 H₁ Fv E1 r1 n1 f1 => ?_⟩
  obtain ⟨E2, r2⟩ := frz_ext E1 r1 f1
  exact h v H1 _ E2 (Rep.mono (z_md fun a ha => ((S.ext E2).fr a ha).2) r2)
/-- what is frozen, as a new value -/
def fSh (f : Env → R PV) : Env → R OV := fun ρ => (f ρ).bind fun p => .ok (.sh p)
theorem qSh {f : Env → R PV} (h : QE C W true X a f) : QF C W X a (fSh f) := by
  refine PE.imp h fun σ H Q h => ?_
  rw [tF_iff] at h
  rw [tE_iff]
  obtain ⟨H₀, F, ρ, S, h⟩ := h
  unfold fSh at h
  rw [Goes.bind] at h
  exact ⟨H₀, F, ρ, S, h.imp fun p _ h v H1 H₁ E1 r1 => h v H1 H₁ [] E1 (by simp only [OwnR]; exact ⟨r1, trivial⟩) List.nodup_nil fun a ha => by cases ha⟩
end
end L3

end
section
/-! L3. 3: operators, subscripts, built-ins by values -/
namespace L3
open PySem PySem.Spec PyProof.Rows L2
section
variable {G : Gc} {K : PySem.W.Frag}
theorem rep_up {m : Bool} {H₀ H : Hp} {F : List Addr} {p : PV} {v : V} (z : Same H₀ H) (r : Rep G (md m H₀ H F) p v) : Rep G H p v := Rep.mono (md_H z) r
/-! ### ints -/
def intOp (c : Int → Int → Bool) (f : Int → Int → Int) : PV → PV → R PV
  | .int i, .int j => if c i j then .ok (.int (f i j)) else .no
  | _, _ => .no
theorem intOp_calm {c : Int → Int → Bool} {f : Int → Int → Int} : Calm2 (intOp c f) := by
  intro p q x
  unfold intOp
  split
  · split <;> exact fun z => nomatch z
  · exact fun z => nomatch z
theorem intOp_ok {Cn : Int → Int → Prop} {c : Int → Int → Bool} {f : Int → Int → Int} (h : ∀ i j, c i j = true → Cn i j) : Op2 G (rI Cn fun i j => .int (f i j)) (intOp c f) := by
  intro m H₀ H F p q z x y Q zz rp rq e k
  unfold intOp at e
  split at e
  · rename_i i j
    simp only [Rep] at rp rq
    split at e
    · rename_i hc
      cases e
      exact ⟨i, j, rp, rq, h i j hc, k _ H H₀ (Ext.refl zz) (by simp only [Rep])⟩
    · cases e
  · cases e
def mulOk (i j : Int) : Bool := decide (-(2 ^ 64) < i ∧ i < 2 ^ 64) || decide (-(2 ^ 64) < j ∧ j < 2 ^ 64) || decide (i.natAbs.log2 + j.natAbs.log2 < 1000000)
def pySub : PV → PV → R PV := intOp (fun _ _ => true) fun i j => i - j
def pyFdiv : PV → PV → R PV := intOp (fun _ j => decide (0 < j) && decide (j.natAbs.log2 < 9000)) fun i j => i / j
def pyMod : PV → PV → R PV := intOp (fun _ j => decide (0 < j)) fun i j => i % j
def pyPow : PV → PV → R PV := intOp (fun i j => decide (0 ≤ j) && decide (j ≤ 1000000) && decide (i.natAbs < 2 ^ 64)) fun i j => i ^ j.toNat
theorem sub_ok : Op2 G (rI (fun _ _ => True) fun i j => .int (i - j)) pySub := intOp_ok fun _ _ _ => trivial
theorem op_sub' {X : Cx} : OpR X (binaryOp .Sub) (rI (fun _ _ => True) fun i j => .int (i - j)) := by
  intro pins s σ H x y v u Q I rx ry h
  obtain ⟨i, j, h1, h2, _, q⟩ := h
  exact op_sub pins s σ H x y v u Q I rx ry ⟨i, j, h1, h2, q⟩
theorem fdiv_ok : Op2 G (rI CDivW fun i j => .int (i / j)) pyFdiv := intOp_ok fun i j h => by
  simp only [Bool.and_eq_true, decide_eq_true_eq] at h
  exact h
theorem mod_ok : Op2 G (rI (fun _ j => 0 < j) fun i j => .int (i % j)) pyMod := intOp_ok fun i j h => by simpa using h
theorem pow_ok : Op2 G (rI CPow fun i j => .int (i ^ j.toNat)) pyPow := intOp_ok fun i j h => by
  simp only [Bool.and_eq_true, decide_eq_true_eq] at h
  exact ⟨h.1.1, h.1.2, h.2⟩
theorem calm_fdiv : Calm2 pyFdiv := intOp_calm
theorem calm_mod : Calm2 pyMod := intOp_calm
theorem calm_pow : Calm2 pyPow := intOp_calm
theorem calm_sub : Calm2 pySub := intOp_calm
def intCmp (f : Int → Int → Bool) : PV → PV → R PV
  | .int i, .int j => .ok (.bl (f i j))
  | _, _ => .no
theorem intCmp_calm {f : Int → Int → Bool} : Calm2 (intCmp f) := by
  intro p q x
  unfold intCmp
  split <;> exact fun z => nomatch z
theorem intCmp_ok {f : Int → Int → Bool} : Op2 G (rI0 fun i j => .bl (f i j)) (intCmp f) := by
  intro m H₀ H F p q z x y Q zz rp rq e k
  unfold intCmp at e
  split at e
  · rename_i i j
    simp only [Rep] at rp rq
    cases e
    exact ⟨i, j, rp, rq, k _ H H₀ (Ext.refl zz) (by simp only [Rep])⟩
  · cases e
def pyLt : PV → PV → R PV := intCmp fun i j => decide (i < j)
def pyLe : PV → PV → R PV := intCmp fun i j => decide (i ≤ j)
def pyGt : PV → PV → R PV := intCmp fun i j => decide (j < i)
def pyGe : PV → PV → R PV := intCmp fun i j => decide (j ≤ i)
/-! ### + and * of ints, texts, lists, tuples -/
def pyAdd : PV → PV → R PV
  | .int i, .int j => .ok (.int (i + j))
  | .str a, .str b => if a.length + b.length ≤ sizeLine then .ok (.str (a ++ b)) else .no
  | .lst a, .lst b => if a.length + b.length ≤ sizeLine then .ok (.lst (a ++ b)) else .no
  | .tup a, .tup b => if a.length + b.length ≤ sizeLine then .ok (.tup (a ++ b)) else .no
  | _, _ => .no
def rAddAll (K : PySem.W.Frag) : R2 := fun x y H Q => (∃ i j, x = .int i ∧ y = .int j ∧ Q (.int (i + j)) H) ∨ (∃ i j, x = .str i ∧ y = .str j ∧ i.length + j.length ≤ sizeLine ∧ Q (.str (i ++ j)) H) ∨ rCat x y H Q ∨ rCatA K x y H Q
theorem op_addAll {X : Cx} : OpR X (binaryOp .Add) (rAddAll X.K) := by
  intro pins s σ H x y v u Q I rx ry h
  rcases h with h | h | h | h
  · exact op_add pins s σ H x y v u Q I rx ry h
  · exact op_add_str pins s σ H x y v u Q I rx ry h
  · exact op_cat pins s σ H x y v u Q I rx ry h
  · exact op_catA pins s σ H x y v u Q I rx ry h
theorem calm_add : Calm2 pyAdd := by
  intro p q x
  unfold pyAdd
  split <;> first | (intro z; cases z; done) | (split <;> (intro z; cases z))
theorem rep_lst_new {m : Bool} {H₀ H : Hp} {F : List Addr} {p : Addr} {l : List PV} {xs : List V} (z : Same H₀ H) (hp : H p = none) (r : Reps G (md m H₀ H F) l xs) :
    Ext H₀ H (upd H₀ p (.lst xs)) (upd H p (.lst xs)) ∧ Rep G (md m (upd H₀ p (.lst xs)) (upd H p (.lst xs)) F) (.lst l) (.ref p) := by
  have E := ext_new (o := .lst xs) z hp
  refine ⟨E, ?_⟩
  simp only [Rep]
  exact ⟨p, xs, rfl, md_new, Reps.mono (md_ext E) r⟩
theorem rep_tup_new {m : Bool} {H₀ H : Hp} {F : List Addr} {p : Addr} {l : List PV} {xs : List V} (z : Same H₀ H) (hp : H p = none) (r : Reps G (md m H₀ H F) l xs) :
    Ext H₀ H (upd H₀ p (.tup xs)) (upd H p (.tup xs)) ∧ Rep G (md m (upd H₀ p (.tup xs)) (upd H p (.tup xs)) F) (.tup l) (.ref p) := by
  have E := ext_new (o := .tup xs) z hp
  refine ⟨E, ?_⟩
  simp only [Rep]
  exact ⟨p, xs, rfl, SqT.of md_new, Reps.mono (md_ext E) r⟩
theorem Reps.nil_iff {H : Hp} {l : List PV} {xs : List V} (r : Reps G H l xs) : l = [] ↔ xs = [] := by
  cases l with
  | nil => simp only [Reps] at r; simp [r]
  | cons p ps => simp only [Reps] at r; obtain ⟨x, ys, h1, _⟩ := r; subst h1; simp
theorem add_ok : Op2 G (rAddAll G.K) pyAdd := by
  intro m H₀ H F p q z x y Q zz rp rq e k
  unfold pyAdd at e
  split at e
  · simp only [Rep] at rp rq
    cases e
    exact .inl ⟨_, _, rp, rq, k _ H H₀ (Ext.refl zz) (by simp only [Rep])⟩
  · simp only [Rep] at rp rq
    split at e
    · rename_i hs
      cases e
      exact .inr (.inl ⟨_, _, rp, rq, hs, k _ H H₀ (Ext.refl zz) (by simp only [Rep])⟩)
    · cases e
  · simp only [Rep] at rp rq
    obtain ⟨a, xs, h1, h2, h3⟩ := rp
    obtain ⟨b, ys, g1, g2, g3⟩ := rq
    split at e
    · rename_i hs
      cases e
      refine .inr (.inr (.inl ⟨a, b, xs, ys, h1, g1, md_H zz _ _ h2, md_H zz _ _ g2, by rw [← h3.length, ← g3.length]; exact hs, fun r hr => ?_⟩))
      obtain ⟨E, rr⟩ := rep_lst_new (m := m) (F := F) zz hr (h3.append g3)
      exact k _ _ _ E rr
    · cases e
  · rename_i l1 l2
    simp only [Rep] at rp rq
    obtain ⟨a, xs, h1, h2, h3⟩ := rp
    obtain ⟨b, ys, g1, g2, g3⟩ := rq
    split at e
    · rename_i hs
      cases e
      refine .inr (.inr (.inr ⟨a, b, xs, ys, h1, g1, Same.seqT (md_H zz) h2, Same.seqT (md_H zz) g2, by rw [← h3.length, ← g3.length]; exact hs, fun hx => ?_, fun hx hy => ?_, fun _ _ r hr => ?_⟩))
      · have e1 : l1 = [] := h3.nil_iff.mpr hx
        subst e1
        refine k _ H H₀ (Ext.refl zz) ?_
        simp only [Rep, List.nil_append]
        exact ⟨b, ys, rfl, g2, g3⟩
      · have e1 : l2 = [] := g3.nil_iff.mpr hy
        subst e1
        refine k _ H H₀ (Ext.refl zz) ?_
        simp only [Rep, List.append_nil]
        exact ⟨a, xs, rfl, h2, h3⟩
      · obtain ⟨E, rr⟩ := rep_tup_new (m := m) (F := F) zz hr (h3.append g3)
        exact k _ _ _ E rr
    · cases e
  · cases e
def strRep (x : Str) (n : Int) : Str := if n < 1 then Str.empty else if (n == 1 || x.length == 0) = true then x else ⟨(List.replicate n.toNat x.cps).foldl (· ++ ·) #[]⟩
def rRepS : R2 := fun x y H Q => ∃ i n, x = .str i ∧ y = .int n ∧ -1000 ≤ n ∧ n ≤ 1000 ∧ i.length ≤ 1000 ∧ (strRep i n).length ≤ sizeLine ∧ Q (.str (strRep i n)) H
theorem op_repS {X : Cx} : OpR X (binaryOp .Mult) rRepS := by
  intro pins s σ H x y v u Q I rx ry h
  obtain ⟨i, n, rfl, rfl, h1, h2, h3, h4, q⟩ := h
  obtain ⟨t, rfl⟩ := rx
  obtain ⟨t', rfl⟩ := ry
  refine PySem.P.mul_str ?_ (fun k1 k2 => ?_) (fun k1 k2 => ?_) ?_
  · have e1 : ¬ n < -(2 ^ 63 : Int) := by omega
    have e2 : ¬ n ≥ 2 ^ 63 := by omega
    rw [decide_eq_false e1, decide_eq_false e2]; rfl
  · have : (1000 : Int) < (2 ^ 63 - 1) / n := by
      refine Int.lt_of_lt_of_le (show (1000 : Int) < (2 ^ 63 - 1) / 1000 by decide) ?_
      have hn : 0 < n := by omega
      rw [Int.le_ediv_iff_mul_le hn]
      have : (2 ^ 63 - 1) / 1000 * n ≤ (2 ^ 63 - 1) / 1000 * 1000 := Int.mul_le_mul_of_nonneg_left h2 (by decide)
      refine Int.le_trans this (by decide)
    omega
  · have hm : i.length * n.toNat ≤ 1000 * 1000 := Nat.mul_le_mul h3 (by omega)
    unfold Builtin.Str.tooLong
    refine decide_eq_false ?_
    have := sizeLine_eq
    omega
  · unfold strRep at q h4
    split
    · rename_i hn
      rw [if_pos hn] at q h4
      exact ⟨by decide, ⟨.str Str.empty, H, I.tok _, ⟨_, rfl⟩, q⟩⟩
    · rename_i hn
      rw [if_neg hn] at q h4
      split
      · rename_i hc
        rw [if_pos hc] at q
        exact ⟨.str i, H, I, ⟨_, rfl⟩, q⟩
      · rename_i hc
        rw [if_neg hc] at q h4
        exact ⟨h4, ⟨.str _, H, I.tok _, ⟨_, rfl⟩, q⟩⟩
def pyMul : PV → PV → R PV
  | .str x, .int n => if -1000 ≤ n ∧ n ≤ 1000 ∧ x.length ≤ 1000 ∧ (strRep x n).length ≤ sizeLine then .ok (.str (strRep x n)) else .no
  | .int i, .int j => if mulOk i j then .ok (.int (i * j)) else .no
  | .lst l, .int k => if -(2 ^ 63) ≤ k ∧ k < 2 ^ 63 ∧ l.length * k.toNat ≤ sizeLine then .ok (.lst (List.replicate k.toNat l).flatten) else .no
  | _, _ => .no
def rMulAll : R2 := fun x y H Q => rI CMul (fun i j => .int (i * j)) x y H Q ∨ rI CMulW (fun i j => .int (i * j)) x y H Q ∨ rRep x y H Q ∨ rRepS x y H Q
theorem op_mulAll {X : Cx} : OpR X (binaryOp .Mult) rMulAll := by
  intro pins s σ H x y v u Q I rx ry h
  rcases h with h | h | h | h
  · exact op_mul pins s σ H x y v u Q I rx ry h
  · exact op_mulW pins s σ H x y v u Q I rx ry h
  · exact op_rep pins s σ H x y v u Q I rx ry h
  · exact op_repS pins s σ H x y v u Q I rx ry h
theorem calm_mul : Calm2 pyMul := by
  intro p q x
  unfold pyMul
  split <;> first | (intro z; cases z; done) | (split <;> (intro z; cases z))
theorem Reps.rep {H : Hp} {l : List PV} {xs : List V} (r : Reps G H l xs) : ∀ n : Nat, Reps G H (List.replicate n l).flatten (List.replicate n xs).flatten
  | 0 => by simp only [List.replicate_zero, List.flatten_nil]; exact Reps.nil
  | n + 1 => by simp only [List.replicate_succ, List.flatten_cons]; exact r.append (Reps.rep r n)
theorem mul_ok : Op2 G rMulAll pyMul := by
  intro m H₀ H F p q z x y Q zz rp rq e k
  unfold pyMul at e
  split at e
  · simp only [Rep] at rp rq
    split at e
    · rename_i hc
      cases e
      exact .inr (.inr (.inr ⟨_, _, rp, rq, hc.1, hc.2.1, hc.2.2.1, hc.2.2.2, k _ H H₀ (Ext.refl zz) (by simp only [Rep])⟩))
    · cases e
  · rename_i i j
    simp only [Rep] at rp rq
    split at e
    · rename_i hc
      cases e
      have kk := k (.int (i * j)) H H₀ (Ext.refl zz) (by simp only [Rep])
      unfold mulOk at hc
      simp only [Bool.or_eq_true, decide_eq_true_eq] at hc
      rcases hc with hc | hc
      · exact .inl ⟨i, j, rp, rq, hc, kk⟩
      · exact .inr (.inl ⟨i, j, rp, rq, hc, kk⟩)
    · cases e
  · rename_i l j
    simp only [Rep] at rp rq
    obtain ⟨a, xs, h1, h2, h3⟩ := rp
    split at e
    · rename_i hc
      cases e
      refine .inr (.inr (.inl ⟨a, j, xs, h1, rq, md_H zz _ _ h2, hc.1, hc.2.1, by rw [← h3.length]; exact hc.2.2, fun r hr => ?_⟩))
      obtain ⟨E, rr⟩ := rep_lst_new (m := m) (F := F) zz hr (h3.rep j.toNat)
      exact k _ _ _ E rr
    · cases e
  · cases e
/-! ### equality -/
mutual
def toPD : PV → Option PyData
  | .non => some .none
  | .bl b => some (.bool b)
  | .int i => some (.int i)
  | .str s => some (.str s)
  | .lst l => (toPDs l).map .list
  | .scr l => (toPDs l).map .list
  | .tup l => (toPDs l).map .tuple
  | .ins _ _ => none
def toPDs : List PV → Option (List PyData)
  | [] => some []
  | p :: ps => (toPD p).bind fun d => (toPDs ps).map fun ds => d :: ds
end
mutual
theorem dp_of {H : Hp} : ∀ {p : PV} {v : V} {d : PyData}, Rep G H p v → toPD p = some d → Dp G.K H v d
  | .non, v, d, r, e => by simp only [Rep] at r; simp only [toPD] at e; subst r; cases e; exact .non
  | .bl b, v, d, r, e => by simp only [Rep] at r; simp only [toPD] at e; subst r; cases e; exact .bl b
  | .int b, v, d, r, e => by simp only [Rep] at r; simp only [toPD] at e; subst r; cases e; exact .int b
  | .str b, v, d, r, e => by simp only [Rep] at r; simp only [toPD] at e; subst r; cases e; exact .str b
  | .lst l, v, d, r, e => by
    simp only [Rep] at r
    simp only [toPD] at e
    obtain ⟨a, xs, h1, h2, h3⟩ := r
    subst h1
    cases q : toPDs l with
    | none => rw [q] at e; cases e
    | some ds => rw [q] at e; cases e; exact .lst (SqL.of h2) (dps_of h3 q)
  | .scr l, v, d, r, e => by
    simp only [Rep] at r
    simp only [toPD] at e
    obtain ⟨a, xs, h1, h2, h3⟩ := r
    subst h1
    cases q : toPDs l with
    | none => rw [q] at e; cases e
    | some ds => rw [q] at e; cases e; exact .lst h2 (dps_of h3 q)
  | .tup l, v, d, r, e => by
    simp only [Rep] at r
    simp only [toPD] at e
    obtain ⟨a, xs, h1, h2, h3⟩ := r
    subst h1
    cases q : toPDs l with
    | none => rw [q] at e; cases e
    | some ds => rw [q] at e; cases e; exact .tup h2 (dps_of h3 q)
  | .ins c fs, v, d, r, e => by simp only [toPD] at e; cases e
theorem dps_of {H : Hp} : ∀ {l : List PV} {vs : List V} {ds : List PyData}, Reps G H l vs → toPDs l = some ds → DpAll G.K H vs ds
  | [], vs, ds, r, e => by simp only [Reps] at r; simp only [toPDs] at e; subst r; cases e; exact .nil
  | p :: ps, vs, ds, r, e => by
    simp only [Reps] at r
    simp only [toPDs] at e
    obtain ⟨x, ys, h1, h2, h3⟩ := r
    subst h1
    cases q : toPD p with
    | none => rw [q] at e; cases e
    | some d =>
      cases q2 : toPDs ps with
      | none => rw [q, q2] at e; cases e
      | some es => rw [q, q2] at e; cases e; exact .cons (dp_of h2 q) (dps_of h3 q2)
end
/-- the scalars that == tells apart by what they are -/
def scalP : PV → PV → Option Bool
  | .non, .non => some true
  | .non, .int _ => some false | .int _, .non => some false | .non, .bl _ => some false | .bl _, .non => some false | .non, .str _ => some false | .str _, .non => some false
  | .int i, .int j => some (decide (i = j)) | .bl i, .bl j => some (decide (i = j)) | .str i, .str j => some (decide (i = j))
  | .int _, .str _ => some false | .str _, .int _ => some false | .bl _, .str _ => some false | .str _, .bl _ => some false
  | _, _ => none
theorem scalP_ok {H : Hp} {p q : PV} {x y : V} {b : Bool} (rp : Rep G H p x) (rq : Rep G H q y) (e : scalP p q = some b) : scal x y = true ∧ decide (x = y) = b := by
  unfold scalP at e
  split at e <;> first
    | (cases e; simp only [Rep] at rp rq; subst rp; subst rq; exact ⟨rfl, by simp⟩)
    | cases e
def eqR (p q : PV) : R Bool := match scalP p q with
  | some b => .ok b
  | none => match toPD p, toPD q with
    | some d, some e => if SeqAt.shaped d = true ∧ SeqAt.shaped e = true then .ok (PyData.eqv d e) else .no
    | _, _ => .no
def pyEq (p q : PV) : R PV := (eqR p q).bind fun b => .ok (.bl b)
def pyNe (p q : PV) : R PV := (eqR p q).bind fun b => .ok (.bl (!b))
theorem eqR_calm {p q : PV} {x : PX} : eqR p q ≠ .er x := by
  unfold eqR
  split
  · exact fun z => nomatch z
  · split
    · split <;> exact fun z => nomatch z
    · exact fun z => nomatch z
theorem calm_eq : Calm2 pyEq := fun p q x => by
  unfold pyEq
  cases e : eqR p q with
  | ok b => exact fun z => nomatch z
  | er x => exact absurd e eqR_calm
  | no => exact fun z => nomatch z
theorem calm_ne : Calm2 pyNe := fun p q x => by
  unfold pyNe
  cases e : eqR p q with
  | ok b => exact fun z => nomatch z
  | er x => exact absurd e eqR_calm
  | no => exact fun z => nomatch z
def rEqAll (K : PySem.W.Frag) : R2 := fun x y H Q => rEq x y H Q ∨ rEqD K x y H Q
def rNeAll (K : PySem.W.Frag) : R2 := fun x y H Q => rNe x y H Q ∨ rNeD K x y H Q
theorem op_eqAll {X : Cx} (hu : X.A.units + 64 < cLine) : OpR X (compareOp .Eq) (rEqAll X.K) := OpR.or op_eq (op_eqD hu)
theorem op_neAll {X : Cx} (hu : X.A.units + 64 < cLine) : OpR X (compareOp .NotEq) (rNeAll X.K) := OpR.or op_ne (op_neD hu)
theorem eqR_ok {H : Hp} {p q : PV} {x y : V} {b : Bool} (rp : Rep G H p x) (rq : Rep G H q y) (e : eqR p q = .ok b) : (scal x y = true ∧ decide (x = y) = b) ∨ ∃ d f, Dp G.K H x d ∧ Dp G.K H y f ∧ SeqAt.shaped d = true ∧ SeqAt.shaped f = true ∧ PyData.eqv d f = b := by
  unfold eqR at e
  split at e
  · rename_i b' hb
    cases e
    exact .inl (scalP_ok rp rq hb)
  · split at e
    · rename_i d f h1 h2
      split at e
      · rename_i hs
        cases e
        exact .inr ⟨d, f, dp_of rp h1, dp_of rq h2, hs.1, hs.2, rfl⟩
      · cases e
    · cases e
theorem eq_ok : Op2 G (rEqAll G.K) pyEq := by
  intro m H₀ H F p q z x y Q zz rp rq e k
  unfold pyEq at e
  cases h : eqR p q with
  | er x => exact absurd h eqR_calm
  | no => rw [h] at e; cases e
  | ok b =>
    rw [h] at e
    cases e
    have kk := k (.bl b) H H₀ (Ext.refl zz) (by simp only [Rep])
    rcases eqR_ok (rep_up zz rp) (rep_up zz rq) h with ⟨h1, h2⟩ | ⟨d, f, h1, h2, h3, h4, h5⟩
    · exact .inl ⟨h1, by rw [h2]; exact kk⟩
    · exact .inr ⟨d, f, h1, h2, h3, h4, by rw [h5]; exact kk⟩
theorem ne_ok : Op2 G (rNeAll G.K) pyNe := by
  intro m H₀ H F p q z x y Q zz rp rq e k
  unfold pyNe at e
  cases h : eqR p q with
  | er x => exact absurd h eqR_calm
  | no => rw [h] at e; cases e
  | ok b =>
    rw [h] at e
    cases e
    have kk := k (.bl (!b)) H H₀ (Ext.refl zz) (by simp only [Rep])
    rcases eqR_ok (rep_up zz rp) (rep_up zz rq) h with ⟨h1, h2⟩ | ⟨d, f, h1, h2, h3, h4, h5⟩
    · exact .inl ⟨h1, by rw [h2]; exact kk⟩
    · exact .inr ⟨d, f, h1, h2, h3, h4, by rw [h5]; exact kk⟩
/-! ### in -/
def flatP : PV → Bool
  | .non | .bl _ | .int _ | .str _ => true
  | _ => false
def toV : PV → V
  | .non => .non
  | .bl b => .bl b
  | .int i => .int i
  | .str s => .str s
  | _ => .non
theorem flat_ok {H : Hp} {p : PV} {v : V} (r : Rep G H p v) (f : flatP p = true) : v = toV p ∧ flatV v = true := by
  unfold flatP at f
  split at f <;> first | (simp only [Rep] at r; subst r; exact ⟨rfl, rfl⟩) | cases f
theorem flats_ok {H : Hp} : ∀ {l : List PV} {vs : List V}, Reps G H l vs → l.all flatP = true → vs = l.map toV ∧ vs.all flatV = true
  | [], vs, r, _ => by simp only [Reps] at r; subst r; exact ⟨rfl, rfl⟩
  | p :: ps, vs, r, f => by
    simp only [Reps] at r
    obtain ⟨x, ys, h1, h2, h3⟩ := r
    subst h1
    simp only [List.all_cons, Bool.and_eq_true] at f
    obtain ⟨e1, e2⟩ := flat_ok h2 f.1
    obtain ⟨e3, e4⟩ := flats_ok h3 f.2
    refine ⟨by rw [List.map_cons, ← e1, ← e3], by rw [List.all_cons, e2, e4]; rfl⟩
/-- x in y -/
def inR : PV → PV → R Bool
  | .str a, .str b => .ok (!(Builtin.Str.occurrences b a 0 b.length 1).isEmpty)
  | p, .tup l => if flatP p = true ∧ l.all flatP = true then .ok (inV (toV p) (l.map toV)) else .no
  | p, .lst l => if flatP p = true ∧ l.all flatP = true then .ok (inV (toV p) (l.map toV)) else match toPD p, toPDs l with
    | some d, some ds => if SeqAt.shaped d = true ∧ SeqAt.shaped (.list ds) = true then .ok (ds.any fun z => PyData.eqv z d) else .no
    | _, _ => .no
  | _, _ => .no
def rInAll (K : PySem.W.Frag) (neg : Bool) : R2 := fun x y H Q => (∃ i j, x = .str i ∧ y = .str j ∧ Q (.bl (if neg then !(!(Builtin.Str.occurrences j i 0 j.length 1).isEmpty) else !(Builtin.Str.occurrences j i 0 j.length 1).isEmpty)) H) ∨ rIn K neg x y H Q ∨
  ∃ d ds, Dp K H x d ∧ Dp K H y (.list ds) ∧ SeqAt.shaped d = true ∧ SeqAt.shaped (.list ds) = true ∧ Q (.bl (if neg then !(ds.any fun z => PyData.eqv z d) else ds.any fun z => PyData.eqv z d)) H
theorem op_inAll {X : Cx} (hu : X.A.units + 65 < cLine) : OpR X (compareOp .In) (rInAll X.K false) := by
  intro pins s σ H x y v u Q I rx ry h
  rcases h with h | h | h
  · exact op_in_str pins s σ H x y v u Q I rx ry h
  · exact op_in_seq pins s σ H x y v u Q I rx ry h
  · exact op_inD hu pins s σ H x y v u Q I rx ry h
theorem op_notInAll {X : Cx} (hu : X.A.units + 65 < cLine) : OpR X (compareOp .NotIn) (rInAll X.K true) := by
  intro pins s σ H x y v u Q I rx ry h
  rcases h with h | h | h
  · exact op_notin_str pins s σ H x y v u Q I rx ry h
  · exact op_notIn_seq pins s σ H x y v u Q I rx ry h
  · exact op_notInD hu pins s σ H x y v u Q I rx ry h
def pyIn (neg : Bool) (p q : PV) : R PV := (inR p q).bind fun b => .ok (.bl (if neg then !b else b))
theorem inR_calm {p q : PV} {x : PX} : inR p q ≠ .er x := by
  unfold inR
  split
  · exact fun z => nomatch z
  · split <;> exact fun z => nomatch z
  · split
    · exact fun z => nomatch z
    · split
      · split <;> exact fun z => nomatch z
      · exact fun z => nomatch z
  · exact fun z => nomatch z
theorem calm_in {neg : Bool} : Calm2 (pyIn neg) := fun p q x => by
  unfold pyIn
  cases e : inR p q with
  | ok b => exact fun z => nomatch z
  | er x => exact absurd e inR_calm
  | no => exact fun z => nomatch z
theorem in_ok {neg : Bool} : Op2 G (rInAll G.K neg) (pyIn neg) := by
  intro m H₀ H F p q z x y Q zz rp0 rq0 e k
  have rp := rep_up zz rp0
  have rq := rep_up zz rq0
  unfold pyIn at e
  cases h : inR p q with
  | er x => exact absurd h inR_calm
  | no => rw [h] at e; cases e
  | ok b =>
    rw [h] at e
    cases e
    have kk := k (.bl (if neg then !b else b)) H H₀ (Ext.refl zz) (by simp only [Rep])
    unfold inR at h
    split at h
    · simp only [Rep] at rp rq
      cases h
      exact .inl ⟨_, _, rp, rq, kk⟩
    · simp only [Rep] at rq
      obtain ⟨a, xs, h1, h2, h3⟩ := rq
      split at h
      · rename_i hf
        cases h
        obtain ⟨e1, e2⟩ := flat_ok rp hf.1
        obtain ⟨e3, e4⟩ := flats_ok h3 hf.2
        refine .inr (.inl ⟨a, xs, h1, .inr h2, e2, e4, ?_⟩)
        rw [e1, e3]
        exact kk
      · cases h
    · simp only [Rep] at rq
      have rq' := rq
      obtain ⟨a, xs, h1, h2, h3⟩ := rq
      split at h
      · rename_i hf
        cases h
        obtain ⟨e1, e2⟩ := flat_ok rp hf.1
        obtain ⟨e3, e4⟩ := flats_ok h3 hf.2
        refine .inr (.inl ⟨a, xs, h1, .inl (SqL.of h2), e2, e4, ?_⟩)
        rw [e1, e3]
        exact kk
      · split at h
        · rename_i d ds q1 q2
          split at h
          · rename_i hs
            cases h
            subst h1
            exact .inr (.inr ⟨d, ds, dp_of rp q1, .lst (SqL.of h2) (dps_of h3 q2), hs.1, hs.2, kk⟩)
          · cases h
        · cases h
    · cases h
/-! ### subscripts -/
def idxR : PV → PV → R PV
  | .lst l, .int i => R.of (atI l i)
  | .scr l, .int i => R.of (atI l i)
  | .tup l, .int i => R.of (atI l i)
  | .str z, .int i => if z.length ≤ sizeLine then R.of ((atI z.cps.toList i).map fun c => .str ⟨#[c]⟩) else .no
  | _, _ => .no
theorem R.of_calm {α : Type} {o : Option α} {x : PX} : R.of o ≠ .er x := by cases o <;> exact fun z => nomatch z
theorem calm_idx : Calm2 idxR := by
  intro p q x
  unfold idxR
  split <;> first | exact R.of_calm | (intro z; cases z; done) | (split <;> first | exact R.of_calm | (intro z; cases z; done))
def rIxAll (K : PySem.W.Frag) : R2 := fun x y H Q => rIxL K x y H Q ∨ rIxT K x y H Q ∨ rIxS x y H Q
theorem ix_all {X : Cx} : IxR X (rIxAll X.K) := IxR.or ix_list (IxR.or ix_tup ix_str)
theorem Reps.atI {H : Hp} {l : List PV} {xs : List V} {i : Int} {p : PV} (r : Reps G H l xs) (e : L2.atI l i = some p) : ∃ v, L2.atI xs i = some v ∧ Rep G H p v := by
  unfold L2.atI at e ⊢
  rw [← r.length]
  cases q : ixN l.length i with
  | none => rw [q] at e; cases e
  | some j =>
    rw [q] at e
    exact r.get e
theorem idx_ok : Op2 G (rIxAll G.K) idxR := by
  intro m H₀ H F p q z x y Q zz rp rq e k
  unfold idxR at e
  split at e
  · rename_i l i
    simp only [Rep] at rp rq
    obtain ⟨a, xs, h1, h2, h3⟩ := rp
    cases q : L2.atI l i with
    | none => rw [q] at e; cases e
    | some w =>
      rw [q] at e
      cases e
      obtain ⟨v, e1, e2⟩ := h3.atI q
      exact .inl ⟨a, xs, i, v, h1, rq, SqL.of (md_H zz _ _ h2), e1, k v H H₀ (Ext.refl zz) e2⟩
  · rename_i l i
    simp only [Rep] at rp rq
    obtain ⟨a, xs, h1, h2, h3⟩ := rp
    cases q : L2.atI l i with
    | none => rw [q] at e; cases e
    | some w =>
      rw [q] at e
      cases e
      obtain ⟨v, e1, e2⟩ := h3.atI q
      exact .inl ⟨a, xs, i, v, h1, rq, (md_H zz).seq h2, e1, k v H H₀ (Ext.refl zz) e2⟩
  · rename_i l i
    simp only [Rep] at rp rq
    obtain ⟨a, xs, h1, h2, h3⟩ := rp
    cases q : L2.atI l i with
    | none => rw [q] at e; cases e
    | some w =>
      rw [q] at e
      cases e
      obtain ⟨v, e1, e2⟩ := h3.atI q
      exact .inr (.inl ⟨a, xs, i, v, h1, rq, Same.seqT (md_H zz) h2, e1, k v H H₀ (Ext.refl zz) e2⟩)
  · rename_i s i
    simp only [Rep] at rp rq
    split at e
    · rename_i hs
      cases q : L2.atI s.cps.toList i with
      | none => rw [q] at e; cases e
      | some w =>
        rw [q] at e
        cases e
        exact .inr (.inr ⟨s, i, w, rp, rq, hs, q, k _ H H₀ (Ext.refl zz) (by simp only [Rep])⟩)
    · cases e
  · cases e
end
section
variable {C : Fc} {W : WX} {m : Bool} {X : Cx} {a b c : Expr} {pos : Pos} {fa fb : Env → R PV}
def eIdx (fa fb : Env → R PV) : Env → R PV := eBin idxR fa fb
theorem qIdx (hK : X.K = C.G.K) (ha : QE C W m X a fa) (hb : QE C W m X b fb) (hs : PlainIx b := by exact fun _ _ => rfl) : QE C W m X (.Subscript a b pos) (eIdx fa fb) :=
  PE.imp (pe_ix ix_all ha hb hs) fun σ H Q h => op2_go calm_idx (by rw [hK]; exact idx_ok) h
theorem qAdd (hK : X.K = C.G.K) (ha : QE C W m X a fa) (hb : QE C W m X b fb) : QE C W m X (.BinOp a .Add b pos) (eBin pyAdd fa fb) := qBin op_addAll calm_add (by rw [hK]; exact add_ok) ha hb
theorem qSub (ha : QE C W m X a fa) (hb : QE C W m X b fb) : QE C W m X (.BinOp a .Sub b pos) (eBin pySub fa fb) := qBin op_sub' calm_sub sub_ok ha hb
theorem qMul (ha : QE C W m X a fa) (hb : QE C W m X b fb) : QE C W m X (.BinOp a .Mult b pos) (eBin pyMul fa fb) := qBin op_mulAll calm_mul mul_ok ha hb
theorem qFdiv (ha : QE C W m X a fa) (hb : QE C W m X b fb) : QE C W m X (.BinOp a .FloorDiv b pos) (eBin pyFdiv fa fb) := qBin op_fdivW calm_fdiv fdiv_ok ha hb
theorem qMod (ha : QE C W m X a fa) (hb : QE C W m X b fb) : QE C W m X (.BinOp a .Mod b pos) (eBin pyMod fa fb) := qBin op_mod calm_mod mod_ok ha hb
theorem qPow (ha : QE C W m X a fa) (hb : QE C W m X b fb) : QE C W m X (.BinOp a .Pow b pos) (eBin pyPow fa fb) := qBin op_pow calm_pow pow_ok ha hb
theorem qLt (ha : QE C W m X a fa) (hb : QE C W m X b fb) : QE C W m X (.Compare a [.Lt] [b] pos) (eBin pyLt fa fb) := qCmp op_lt intCmp_calm intCmp_ok ha hb
theorem qLe (ha : QE C W m X a fa) (hb : QE C W m X b fb) : QE C W m X (.Compare a [.LtE] [b] pos) (eBin pyLe fa fb) := qCmp op_le intCmp_calm intCmp_ok ha hb
theorem qGt (ha : QE C W m X a fa) (hb : QE C W m X b fb) : QE C W m X (.Compare a [.Gt] [b] pos) (eBin pyGt fa fb) := qCmp op_gt intCmp_calm intCmp_ok ha hb
theorem qGe (ha : QE C W m X a fa) (hb : QE C W m X b fb) : QE C W m X (.Compare a [.GtE] [b] pos) (eBin pyGe fa fb) := qCmp op_ge intCmp_calm intCmp_ok ha hb
theorem tLt (ha : QE C W m X a fa) (hb : QE C W m X b fb) : QT C W X (.Compare a [.Lt] [b] pos) (eTst (eBin pyLt fa fb)) := qtCmp op_lt intCmp_calm intCmp_ok ha hb
theorem tLe (ha : QE C W m X a fa) (hb : QE C W m X b fb) : QT C W X (.Compare a [.LtE] [b] pos) (eTst (eBin pyLe fa fb)) := qtCmp op_le intCmp_calm intCmp_ok ha hb
theorem tGt (ha : QE C W m X a fa) (hb : QE C W m X b fb) : QT C W X (.Compare a [.Gt] [b] pos) (eTst (eBin pyGt fa fb)) := qtCmp op_gt intCmp_calm intCmp_ok ha hb
theorem tGe (ha : QE C W m X a fa) (hb : QE C W m X b fb) : QT C W X (.Compare a [.GtE] [b] pos) (eTst (eBin pyGe fa fb)) := qtCmp op_ge intCmp_calm intCmp_ok ha hb
theorem qEq (hK : X.K = C.G.K) (hu : X.A.units + 65 < cLine) (ha : QE C W m X a fa) (hb : QE C W m X b fb) : QE C W m X (.Compare a [.Eq] [b] pos) (eBin pyEq fa fb) := qCmp (op_eqAll (by omega)) calm_eq (by rw [hK]; exact eq_ok) ha hb
theorem qNe (hK : X.K = C.G.K) (hu : X.A.units + 65 < cLine) (ha : QE C W m X a fa) (hb : QE C W m X b fb) : QE C W m X (.Compare a [.NotEq] [b] pos) (eBin pyNe fa fb) := qCmp (op_neAll (by omega)) calm_ne (by rw [hK]; exact ne_ok) ha hb
theorem tEq (hK : X.K = C.G.K) (hu : X.A.units + 65 < cLine) (ha : QE C W m X a fa) (hb : QE C W m X b fb) : QT C W X (.Compare a [.Eq] [b] pos) (eTst (eBin pyEq fa fb)) := qtCmp (op_eqAll (by omega)) calm_eq (by rw [hK]; exact eq_ok) ha hb
theorem tNe (hK : X.K = C.G.K) (hu : X.A.units + 65 < cLine) (ha : QE C W m X a fa) (hb : QE C W m X b fb) : QT C W X (.Compare a [.NotEq] [b] pos) (eTst (eBin pyNe fa fb)) := qtCmp (op_neAll (by omega)) calm_ne (by rw [hK]; exact ne_ok) ha hb
theorem qIn (hK : X.K = C.G.K) (hu : X.A.units + 65 < cLine) (ha : QE C W m X a fa) (hb : QE C W m X b fb) (hm : behindInMarks .In b = false := by rfl) : QE C W m X (.Compare a [.In] [b] pos) (eBin (pyIn false) fa fb) := qCmp (op_inAll hu) calm_in (by rw [hK]; exact in_ok) ha hb hm
theorem qNotIn (hK : X.K = C.G.K) (hu : X.A.units + 65 < cLine) (ha : QE C W m X a fa) (hb : QE C W m X b fb) (hm : behindInMarks .NotIn b = false := by rfl) : QE C W m X (.Compare a [.NotIn] [b] pos) (eBin (pyIn true) fa fb) := qCmp (op_notInAll hu) calm_in (by rw [hK]; exact in_ok) ha hb hm
theorem tIn (hK : X.K = C.G.K) (hu : X.A.units + 65 < cLine) (ha : QE C W m X a fa) (hb : QE C W m X b fb) (hm : behindInMarks .In b = false := by rfl) : QT C W X (.Compare a [.In] [b] pos) (eTst (eBin (pyIn false) fa fb)) := qtCmp (op_inAll hu) calm_in (by rw [hK]; exact in_ok) ha hb hm
theorem tNotIn (hK : X.K = C.G.K) (hu : X.A.units + 65 < cLine) (ha : QE C W m X a fa) (hb : QE C W m X b fb) (hm : behindInMarks .NotIn b = false := by rfl) : QT C W X (.Compare a [.NotIn] [b] pos) (eTst (eBin (pyIn true) fa fb)) := qtCmp (op_notInAll hu) calm_in (by rw [hK]; exact in_ok) ha hb hm
/-! is None -/
def isN : PV → Bool
  | .non => true
  | _ => false
theorem isN_ok {G : Gc} {H : Hp} {p : PV} {v : V} (r : Rep G H p v) : decide (v = .non) = isN p := by
  cases p with
  | non => simp only [Rep] at r; subst r; rfl
  | bl b => simp only [Rep] at r; subst r; rfl
  | int b => simp only [Rep] at r; subst r; rfl
  | str b => simp only [Rep] at r; subst r; rfl
  | lst l => simp only [Rep] at r; obtain ⟨a, xs, h1, _⟩ := r; subst h1; rfl
  | scr l => simp only [Rep] at r; obtain ⟨a, xs, h1, _⟩ := r; subst h1; rfl
  | tup l => simp only [Rep] at r; obtain ⟨a, xs, h1, _⟩ := r; subst h1; rfl
  | ins c fs => simp only [Rep] at r; obtain ⟨a, dx, xs, h1, _⟩ := r; subst h1; rfl
def eIsN (f : Env → R PV) : Env → R PV := fun ρ => (f ρ).bind fun p => .ok (.bl (isN p))
def eNotN (f : Env → R PV) : Env → R PV := fun ρ => (f ρ).bind fun p => .ok (.bl (!isN p))
theorem isN_go {σ : L2.St} {H : Hp} {Q : VK} (g : Bool → Bool) (h : tE C W m (fun ρ => (fa ρ).bind fun p => .ok (.bl (g (isN p)))) σ H Q) : tE C W m fa σ H fun x H1 => Q (.bl (g (decide (x = .non)))) H1 := by
  rw [tE_iff] at h ⊢
  obtain ⟨H₀, F, ρ, S, h⟩ := h
  rw [Goes.bind] at h
  refine ⟨H₀, F, ρ, S, h.imp fun p _ h v H1 H₁ E1 r1 => ?_⟩
  rw [isN_ok r1]
  exact h _ H1 H₁ E1 (by simp only [Rep])
theorem qIsN {j pos'} (ha : QE C W m X a fa) : QE C W m X (.Compare a [.Is] [.Constant .none j pos'] pos) (eIsN fa) := PE.imp (pe_cmp (pc_isN ha)) fun σ H Q h => isN_go (fun b => b) h
theorem qNotN {j pos'} (ha : QE C W m X a fa) : QE C W m X (.Compare a [.IsNot] [.Constant .none j pos'] pos) (eNotN fa) := PE.imp (pe_cmp (pc_notN ha)) fun σ H Q h => isN_go (fun b => !b) h
theorem tst_isN {σ : L2.St} {H : Hp} {Q : Bool → Hp → Prop} (g : Bool → Bool) (h : tTt C W (eTst (fun ρ => (fa ρ).bind fun p => .ok (.bl (g (isN p))))) σ H Q) : tE C W m fa σ H fun x H1 => ∃ c, V.bl (g (decide (x = .non))) = .bl c ∧ Q c H1 :=
  isN_go (m := m) (Q := fun x H1 => ∃ c, x = .bl c ∧ Q c H1) g (tst_go h)
theorem tIsN {j pos'} (ha : QE C W m X a fa) : QT C W X (.Compare a [.Is] [.Constant .none j pos'] pos) (eTst (eIsN fa)) := PT.imp (pt_cmp (pc_isN ha)) fun σ H Q h => tst_isN (fun b => b) h
theorem tNotN {j pos'} (ha : QE C W m X a fa) : QT C W X (.Compare a [.IsNot] [.Constant .none j pos'] pos) (eTst (eNotN fa)) := PT.imp (pt_cmp (pc_notN ha)) fun σ H Q h => tst_isN (fun b => !b) h
/-! -x -/
def pyNeg : PV → R PV
  | .int i => .ok (.int (-i))
  | _ => .no
def eUn (g : PV → R PV) (f : Env → R PV) : Env → R PV := fun ρ => (f ρ).bind g
theorem qNeg (ha : QE C W m X a fa) : QE C W m X (.UnaryOp .USub a pos) (eUn pyNeg fa) := by
  refine PE.imp (pe_un un_neg ha) fun σ H Q h => ?_
  show tE C W m fa σ H fun x H1 => ∃ i, x = .int i ∧ Q (.int (-i)) H1
  rw [tE_iff] at h ⊢
  obtain ⟨H₀, F, ρ, S, h⟩ := h
  unfold eUn at h
  rw [Goes.bind] at h
  refine ⟨H₀, F, ρ, S, h.imp fun p _ h v H1 H₁ E1 r1 => ?_⟩
  cases p with
  | int i =>
    simp only [Rep] at r1
    exact ⟨i, r1, h _ H1 H₁ E1 (by simp only [Rep])⟩
  | _ => exact (show False from h).elim
end
end L3

end
section
/-! L3. 4: built-ins, slices, fields, isinstance -/
namespace L3
open PySem PySem.Spec PyProof.Rows L2
/-! ### built-ins by values -/
def OpC (Γ : Gc) (r : List V → Hp → VK → Prop) (g : List PV → R PV) : Prop := ∀ (m : Bool) (H₀ H : Hp) (F : List Addr) (ps : List PV) (z : PV) (vs : List V) (Q : VK), Same H₀ H → Reps Γ (md m H₀ H F) ps vs → g ps = .ok z →
  (∀ v H' H₀', Ext H₀ H H₀' H' → Rep Γ (md m H₀' H' F) z v → Q v H') → r vs H Q
def OpF (Γ : Gc) (r : List V → Hp → VK → Prop) (g : List PV → R OV) : Prop := ∀ (H₀ H : Hp) (ps : List PV) (o : OV) (vs : List V) (Q : VK), Same H₀ H → Reps Γ H₀ ps vs → g ps = .ok o →
  (∀ v H' H₀' Fv, Ext H₀ H H₀' H' → OwnR Γ H₀' H' o v Fv → Fv.Nodup → (∀ a ∈ Fv, H a = none ∧ H₀' a = none) → Q v H') → r vs H Q
def CalmC {α : Type} (g : List PV → R α) : Prop := ∀ ps x, g ps ≠ .er x
def eB (g : List PV → R PV) (fas : Env → R (List PV)) : Env → R PV := fun ρ => (fas ρ).bind g
def fB (g : List PV → R OV) (fas : Env → R (List PV)) : Env → R OV := fun ρ => (fas ρ).bind g
section
variable {C : Fc} {W : WX} {m : Bool} {X : Cx} {a b c e : Expr} {es : List Expr} {pos p : Pos} {x : Str} {fas : Env → R (List PV)} {fa : Env → R PV} {σ : L2.St} {H : Hp}
theorem opC_go {r : List V → Hp → VK → Prop} {g : List PV → R PV} (hg : CalmC g) (ho : OpC C.G r g) {Q : VK} (h : tE C W m (eB g fas) σ H Q) : tAs C W m fas σ H fun vs H1 => r vs H1 Q := by
  rw [tE_iff] at h
  rw [tA_iff]
  obtain ⟨H₀, F, ρ, S, h⟩ := h
  unfold eB at h
  rw [Goes.bind] at h
  refine ⟨H₀, F, ρ, S, h.imp fun ps _ h vs H1 H₁ E1 r1 => ?_⟩
  cases q : g ps with
  | ok z =>
    rw [q] at h
    exact ho m H₁ H1 F ps z vs Q E1.z r1 q fun v H2 H₂ E2 r2 => h v H2 H₂ (E1.trans E2) r2
  | er x => exact absurd q (hg ps x)
  | no =>
    rw [q] at h
    exact h.elim
theorem opF_go {r : List V → Hp → VK → Prop} {g : List PV → R OV} (hg : CalmC g) (ho : OpF C.G r g) {Q : VK} (h : tF C W (fB g fas) σ H Q) : tAs C W true fas σ H fun vs H1 => r vs H1 Q := by
  rw [tF_iff] at h
  rw [tA_iff]
  obtain ⟨H₀, F, ρ, S, h⟩ := h
  unfold fB at h
  rw [Goes.bind] at h
  refine ⟨H₀, F, ρ, S, h.imp fun ps _ h vs H1 H₁ E1 r1 => ?_⟩
  cases q : g ps with
  | ok z =>
    rw [q] at h
    exact ho H₁ H1 ps z vs Q E1.z r1 q fun v H2 H₂ Fv E2 r2 n2 f2 => h v H2 H₂ Fv (E1.trans E2) r2 n2 fun a ha => ⟨Same.free E1.s (f2 a ha).1, (f2 a ha).2⟩
  | er x => exact absurd q (hg ps x)
  | no =>
    rw [q] at h
    exact h.elim
theorem qB {id : String} {r : List V → Hp → VK → Prop} {g : List PV → R PV} (hc : CallR X (.builtin id) r) (hg : CalmC g) (ho : OpC C.G r g) (hm : X.mg x = none) (hv : bootBuiltins x = some (.builtin id)) (ha : QA C W m X (e :: es) fas)
    (hgl : Gl X x := by rfl) (hn : x ≠ "__name__" := by decide) (hdb : (x == ("__debug__" : Str)) = false := by decide) (he : starEach (e :: es) X.env = (false, eval e X.env) :: starEach es X.env := by rfl) (hpl : (backTo pos (starEach es X.env)).any (·.1) = false := by rfl) :
    QE C W m X (.Call (.Name x p) (e :: es) [] pos) (eB g fas) := PE.imp (pe_callB hc hgl hm hv ha hn hdb he hpl) fun σ H Q h => opC_go hg ho h
theorem qBty {id : String} {r : List V → Hp → VK → Prop} {g : List PV → R PV} (hc : CallR X (.type id) r) (hg : CalmC g) (ho : OpC C.G r g) (hm : X.mg x = none) (hv : bootBuiltins x = some (.type id)) (ha : QA C W m X (e :: es) fas)
    (hgl : Gl X x := by rfl) (hn : x ≠ "__name__" := by decide) (hdb : (x == ("__debug__" : Str)) = false := by decide) (he : starEach (e :: es) X.env = (false, eval e X.env) :: starEach es X.env := by rfl) (hpl : (backTo pos (starEach es X.env)).any (·.1) = false := by rfl) :
    QE C W m X (.Call (.Name x p) (e :: es) [] pos) (eB g fas) := PE.imp (pe_callTy hc hgl hm hv ha hn hdb he hpl) fun σ H Q h => opC_go hg ho h
theorem qFB {id : String} {r : List V → Hp → VK → Prop} {g : List PV → R OV} (hc : CallR X (.builtin id) r) (hg : CalmC g) (ho : OpF C.G r g) (hm : X.mg x = none) (hv : bootBuiltins x = some (.builtin id)) (ha : QA C W true X (e :: es) fas)
    (hgl : Gl X x := by rfl) (hn : x ≠ "__name__" := by decide) (hdb : (x == ("__debug__" : Str)) = false := by decide) (he : starEach (e :: es) X.env = (false, eval e X.env) :: starEach es X.env := by rfl) (hpl : (backTo pos (starEach es X.env)).any (·.1) = false := by rfl) :
    QF C W X (.Call (.Name x p) (e :: es) [] pos) (fB g fas) := PE.imp (pe_callB hc hgl hm hv ha hn hdb he hpl) fun σ H Q h => opF_go hg ho h
theorem qFBty {id : String} {r : List V → Hp → VK → Prop} {g : List PV → R OV} (hc : CallR X (.type id) r) (hg : CalmC g) (ho : OpF C.G r g) (hm : X.mg x = none) (hv : bootBuiltins x = some (.type id)) (ha : QA C W true X (e :: es) fas)
    (hgl : Gl X x := by rfl) (hn : x ≠ "__name__" := by decide) (hdb : (x == ("__debug__" : Str)) = false := by decide) (he : starEach (e :: es) X.env = (false, eval e X.env) :: starEach es X.env := by rfl) (hpl : (backTo pos (starEach es X.env)).any (·.1) = false := by rfl) :
    QF C W X (.Call (.Name x p) (e :: es) [] pos) (fB g fas) := PE.imp (pe_callTy hc hgl hm hv ha hn hdb he hpl) fun σ H Q h => opF_go hg ho h
end
/-! the functions -/
def bLen : List PV → R PV
  | [.lst l] => .ok (.int l.length)
  | [.scr l] => .ok (.int l.length)
  | [.tup l] => .ok (.int l.length)
  | [.str z] => if z.length ≤ sizeLine then .ok (.int z.length) else .no
  | _ => .no
def bAbs : List PV → R PV
  | [.int i] => .ok (.int (if i < 0 then -i else i))
  | _ => .no
def bInt : List PV → R PV
  | [.int i] => .ok (.int i)
  | [.bl b] => .ok (.int (if b then 1 else 0))
  | _ => .no
def bStr : List PV → R PV
  | [.int i] => if i.natAbs.log2 < 1920 then .ok (.str (toString i)) else .no
  | [.str s] => .ok (.str s)
  | _ => .no
def toInts : List PV → Option (List Int)
  | [] => some []
  | .int i :: r => (toInts r).map (i :: ·)
  | _ => none
def toBls : List PV → Option (List Bool)
  | [] => some []
  | .bl i :: r => (toBls r).map (i :: ·)
  | _ => none
def maxL : List Int → Int
  | [] => 0
  | [a] => a
  | a :: r => max a (maxL r)
def minL : List Int → Int
  | [] => 0
  | [a] => a
  | a :: r => min a (minL r)
def bMax : List PV → R PV
  | [.int i, .int j] => .ok (.int (if j > i then j else i))
  | [.lst l] => match toInts l with
    | some (n :: ns) => .ok (.int (maxL (n :: ns)))
    | _ => .no
  | _ => .no
def bMin : List PV → R PV
  | [.int i, .int j] => .ok (.int (if j < i then j else i))
  | [.lst l] => match toInts l with
    | some (n :: ns) => .ok (.int (minL (n :: ns)))
    | _ => .no
  | _ => .no
def bSum : List PV → R PV
  | [.lst l] => match toInts l with
    | some ns => .ok (.int ns.sum)
    | _ => .no
  | _ => .no
def bAll : List PV → R PV
  | [.lst l] => match toBls l with
    | some bs => .ok (.bl (bs.all id))
    | _ => .no
  | _ => .no
def bAny : List PV → R PV
  | [.lst l] => match toBls l with
    | some bs => .ok (.bl (bs.any id))
    | _ => .no
  | _ => .no
def bTuple : List PV → R PV
  | [.lst l] => .ok (.tup l)
  | [.tup l] => .ok (.tup l)
  | _ => .no
/-- a new list -/
def bList : List PV → R OV
  | [.lst l] => .ok (.own (l.map .sh))
  | [.tup l] => .ok (.own (l.map .sh))
  | _ => .no
section
variable {G : Gc} {X : Cx}
theorem R.not_er {α : Type} {P : Prop} [Decidable P] {a : α} {x : PX} : (if P then R.ok a else R.no) ≠ .er x := by
  split <;> (intro z; cases z)
theorem calm_len : CalmC bLen := fun ps x => by unfold bLen; split <;> first | exact R.not_er | (intro z; cases z)
theorem calm_abs : CalmC bAbs := fun ps x => by unfold bAbs; split <;> (intro z; cases z)
theorem calm_int : CalmC bInt := fun ps x => by unfold bInt; split <;> (intro z; cases z)
theorem calm_str : CalmC bStr := fun ps x => by unfold bStr; split <;> first | exact R.not_er | (intro z; cases z)
theorem calm_max : CalmC bMax := fun ps x => by unfold bMax; split <;> first | (intro z; cases z; done) | (split <;> (intro z; cases z))
theorem calm_min : CalmC bMin := fun ps x => by unfold bMin; split <;> first | (intro z; cases z; done) | (split <;> (intro z; cases z))
theorem calm_sum : CalmC bSum := fun ps x => by unfold bSum; split <;> first | (intro z; cases z; done) | (split <;> (intro z; cases z))
theorem calm_all : CalmC bAll := fun ps x => by unfold bAll; split <;> first | (intro z; cases z; done) | (split <;> (intro z; cases z))
theorem calm_any : CalmC bAny := fun ps x => by unfold bAny; split <;> first | (intro z; cases z; done) | (split <;> (intro z; cases z))
theorem calm_tuple : CalmC bTuple := fun ps x => by unfold bTuple; split <;> (intro z; cases z)
theorem calm_list : CalmC bList := fun ps x => by unfold bList; split <;> (intro z; cases z)
theorem reps1 {H : Hp} {p : PV} {vs : List V} (r : Reps G H [p] vs) : ∃ v, vs = [v] ∧ Rep G H p v := by
  simp only [Reps] at r
  obtain ⟨x, ys, h1, h2, h3⟩ := r
  subst h3
  exact ⟨x, h1, h2⟩
theorem reps2 {H : Hp} {p q : PV} {vs : List V} (r : Reps G H [p, q] vs) : ∃ v w, vs = [v, w] ∧ Rep G H p v ∧ Rep G H q w := by
  simp only [Reps] at r
  obtain ⟨x, ys, h1, h2, y, zs, h3, h4, h5⟩ := r
  subst h5 h3
  exact ⟨x, y, h1, h2, h4⟩
theorem ints_ok {H : Hp} : ∀ {l : List PV} {ns : List Int} {xs : List V}, Reps G H l xs → toInts l = some ns → xs = ns.map V.int
  | [], ns, xs, r, e => by simp only [Reps] at r; subst r; cases e; rfl
  | p :: ps, ns, xs, r, e => by
    simp only [Reps] at r
    obtain ⟨x, ys, h1, h2, h3⟩ := r
    subst h1
    cases p <;> try (cases e; done)
    rename_i i
    simp only [toInts] at e
    cases q : toInts ps with
    | none => rw [q] at e; cases e
    | some ms =>
      rw [q] at e
      cases e
      simp only [Rep] at h2
      rw [h2, ints_ok h3 q]
      rfl
theorem bls_ok {H : Hp} : ∀ {l : List PV} {ns : List Bool} {xs : List V}, Reps G H l xs → toBls l = some ns → xs = ns.map V.bl
  | [], ns, xs, r, e => by simp only [Reps] at r; subst r; cases e; rfl
  | p :: ps, ns, xs, r, e => by
    simp only [Reps] at r
    obtain ⟨x, ys, h1, h2, h3⟩ := r
    subst h1
    cases p <;> try (cases e; done)
    rename_i i
    simp only [toBls] at e
    cases q : toBls ps with
    | none => rw [q] at e; cases e
    | some ms =>
      rw [q] at e
      cases e
      simp only [Rep] at h2
      rw [h2, bls_ok h3 q]
      rfl
theorem maxL_is : ∀ (n : Int) (ns : List Int) (k : Int), k ∈ n :: ns → (∀ y, y ∈ n :: ns → y ≤ k) → k = maxL (n :: ns)
  | n, [], k, h, _ => by simpa [maxL] using h
  | n, a :: r, k, h, u => by
    show k = max n (maxL (a :: r))
    have mem : ∀ (a : Int) (r : List Int), maxL (a :: r) ∈ a :: r := by
      intro a r
      induction r generalizing a with
      | nil => simp [maxL]
      | cons b t ih =>
        show max a (maxL (b :: t)) ∈ _
        rcases Int.le_total a (maxL (b :: t)) with z | z
        · rw [Int.max_eq_right z]; exact List.mem_cons_of_mem _ (ih b)
        · rw [Int.max_eq_left z]; exact List.mem_cons_self
    have up : ∀ (a : Int) (r : List Int) (y : Int), y ∈ a :: r → y ≤ maxL (a :: r) := by
      intro a r
      induction r generalizing a with
      | nil => intro y hy; simp at hy; simp [maxL, hy]
      | cons b t ih =>
        intro y hy
        show y ≤ max a (maxL (b :: t))
        rcases List.mem_cons.mp hy with e | hy
        · omega
        · have := ih b y hy; omega
    have h1 := u n List.mem_cons_self
    have h2 := u _ (List.mem_cons_of_mem _ (mem a r))
    rcases List.mem_cons.mp h with e | hk
    · omega
    · have := up a r k hk; omega
theorem minL_is : ∀ (n : Int) (ns : List Int) (k : Int), k ∈ n :: ns → (∀ y, y ∈ n :: ns → k ≤ y) → k = minL (n :: ns)
  | n, [], k, h, _ => by simpa [minL] using h
  | n, a :: r, k, h, u => by
    show k = min n (minL (a :: r))
    have mem : ∀ (a : Int) (r : List Int), minL (a :: r) ∈ a :: r := by
      intro a r
      induction r generalizing a with
      | nil => simp [minL]
      | cons b t ih =>
        show min a (minL (b :: t)) ∈ _
        rcases Int.le_total a (minL (b :: t)) with z | z
        · rw [Int.min_eq_left z]; exact List.mem_cons_self
        · rw [Int.min_eq_right z]; exact List.mem_cons_of_mem _ (ih b)
    have up : ∀ (a : Int) (r : List Int) (y : Int), y ∈ a :: r → minL (a :: r) ≤ y := by
      intro a r
      induction r generalizing a with
      | nil => intro y hy; simp at hy; simp [minL, hy]
      | cons b t ih =>
        intro y hy
        show min a (minL (b :: t)) ≤ y
        rcases List.mem_cons.mp hy with e | hy
        · omega
        · have := ih b y hy; omega
    have h1 := u n List.mem_cons_self
    have h2 := u _ (List.mem_cons_of_mem _ (mem a r))
    rcases List.mem_cons.mp h with e | hk
    · omega
    · have := up a r k hk; omega
def rLenAll (K : PySem.W.Frag) : List V → Hp → VK → Prop := fun xs H Q => (∃ p ys, xs = [.ref p] ∧ (SqL K H p ys ∨ SqT K H p ys) ∧ Q (.int ys.length) H) ∨ ∃ z, xs = [.str z] ∧ z.length ≤ sizeLine ∧ Q (.int z.length) H
theorem cr_lenAll : CallR X (.builtin "len") (rLenAll X.K) := CallR.or call_len_seq call_len_str
theorem len_ok : OpC G (rLenAll G.K) bLen := by
  intro m H₀ H F ps z vs Q zz rs e k
  unfold bLen at e
  split at e
  · obtain ⟨v, e1, r⟩ := reps1 rs
    simp only [Rep] at r
    obtain ⟨a, xs, h1, h2, h3⟩ := r
    cases e
    subst h1
    refine .inl ⟨a, xs, e1, .inl (SqL.of (md_H zz _ _ h2)), ?_⟩
    rw [← h3.length]
    exact k _ H H₀ (Ext.refl zz) (by simp only [Rep])
  · obtain ⟨v, e1, r⟩ := reps1 rs
    simp only [Rep] at r
    obtain ⟨a, xs, h1, h2, h3⟩ := r
    cases e
    subst h1
    refine .inl ⟨a, xs, e1, .inl ((md_H zz).seq h2), ?_⟩
    rw [← h3.length]
    exact k _ H H₀ (Ext.refl zz) (by simp only [Rep])
  · obtain ⟨v, e1, r⟩ := reps1 rs
    simp only [Rep] at r
    obtain ⟨a, xs, h1, h2, h3⟩ := r
    cases e
    subst h1
    refine .inl ⟨a, xs, e1, .inr (Same.seqT (md_H zz) h2), ?_⟩
    rw [← h3.length]
    exact k _ H H₀ (Ext.refl zz) (by simp only [Rep])
  · obtain ⟨v, e1, r⟩ := reps1 rs
    simp only [Rep] at r
    split at e
    · rename_i hs
      cases e
      subst r
      exact .inr ⟨_, e1, hs, k _ H H₀ (Ext.refl zz) (by simp only [Rep])⟩
    · cases e
  · cases e
theorem abs_ok : OpC G (fun xs H Q => ∃ i, xs = [.int i] ∧ Q (.int (if i < 0 then -i else i)) H) bAbs := by
  intro m H₀ H F ps z vs Q zz rs e k
  unfold bAbs at e
  split at e
  · obtain ⟨v, e1, r⟩ := reps1 rs
    simp only [Rep] at r
    subst r
    cases e
    exact ⟨_, e1, k _ H H₀ (Ext.refl zz) (by simp only [Rep])⟩
  · cases e
theorem int_ok : OpC G (fun xs H Q => (∃ i, xs = [.int i] ∧ Q (.int i) H) ∨ ∃ k, xs = [.bl k] ∧ Q (.int (if k then 1 else 0)) H) bInt := by
  intro m H₀ H F ps z vs Q zz rs e k
  unfold bInt at e
  split at e
  · obtain ⟨v, e1, r⟩ := reps1 rs
    simp only [Rep] at r
    subst r
    cases e
    exact .inl ⟨_, e1, k _ H H₀ (Ext.refl zz) (by simp only [Rep])⟩
  · obtain ⟨v, e1, r⟩ := reps1 rs
    simp only [Rep] at r
    subst r
    cases e
    exact .inr ⟨_, e1, k _ H H₀ (Ext.refl zz) (by simp only [Rep])⟩
  · cases e
def rMaxAll (K : PySem.W.Frag) : List V → Hp → VK → Prop := fun xs H Q => (∃ i j, xs = [.int i, .int j] ∧ Q (.int (if j > i then j else i)) H) ∨ rMax K xs H Q
def rMinAll (K : PySem.W.Frag) : List V → Hp → VK → Prop := fun xs H Q => (∃ i j, xs = [.int i, .int j] ∧ Q (.int (if j < i then j else i)) H) ∨ rMin K xs H Q
theorem cr_maxAll (hc : X.calm = true) : CallR X (.builtin "max") (rMaxAll X.K) := CallR.or (call_max2 hc) (cr_max hc)
theorem cr_minAll (hc : X.calm = true) : CallR X (.builtin "min") (rMinAll X.K) := CallR.or (call_min2 hc) (cr_min hc)
theorem max_ok : OpC G (rMaxAll G.K) bMax := by
  intro m H₀ H F ps z vs Q zz rs e k
  unfold bMax at e
  split at e
  · obtain ⟨v, w, e1, r, r'⟩ := reps2 rs
    simp only [Rep] at r r'
    subst r r'
    cases e
    exact .inl ⟨_, _, e1, k _ H H₀ (Ext.refl zz) (by simp only [Rep])⟩
  · obtain ⟨v, e1, r⟩ := reps1 rs
    simp only [Rep] at r
    obtain ⟨a, xs, h1, h2, h3⟩ := r
    subst h1
    split at e
    · rename_i n ns hi
      cases e
      have ex := ints_ok h3 hi
      subst ex
      refine .inr ⟨a, n :: ns, e1, SqL.of (md_H zz _ _ h2), by simp, fun j hj hu => ?_⟩
      rw [maxL_is n ns j hj hu]
      exact k _ H H₀ (Ext.refl zz) (by simp only [Rep])
    · cases e
  · cases e
theorem min_ok : OpC G (rMinAll G.K) bMin := by
  intro m H₀ H F ps z vs Q zz rs e k
  unfold bMin at e
  split at e
  · obtain ⟨v, w, e1, r, r'⟩ := reps2 rs
    simp only [Rep] at r r'
    subst r r'
    cases e
    exact .inl ⟨_, _, e1, k _ H H₀ (Ext.refl zz) (by simp only [Rep])⟩
  · obtain ⟨v, e1, r⟩ := reps1 rs
    simp only [Rep] at r
    obtain ⟨a, xs, h1, h2, h3⟩ := r
    subst h1
    split at e
    · rename_i n ns hi
      cases e
      have ex := ints_ok h3 hi
      subst ex
      refine .inr ⟨a, n :: ns, e1, SqL.of (md_H zz _ _ h2), by simp, fun j hj hu => ?_⟩
      rw [minL_is n ns j hj hu]
      exact k _ H H₀ (Ext.refl zz) (by simp only [Rep])
    · cases e
  · cases e
theorem sum_ok : OpC G (rSum G.K) bSum := by
  intro m H₀ H F ps z vs Q zz rs e k
  unfold bSum at e
  split at e
  · obtain ⟨v, e1, r⟩ := reps1 rs
    simp only [Rep] at r
    obtain ⟨a, xs, h1, h2, h3⟩ := r
    subst h1
    split at e
    · rename_i ns hi
      cases e
      have ex := ints_ok h3 hi
      subst ex
      exact ⟨a, ns, e1, SqL.of (md_H zz _ _ h2), k _ H H₀ (Ext.refl zz) (by simp only [Rep])⟩
    · cases e
  · cases e
theorem all_ok : OpC G (rAll G.K) bAll := by
  intro m H₀ H F ps z vs Q zz rs e k
  unfold bAll at e
  split at e
  · obtain ⟨v, e1, r⟩ := reps1 rs
    simp only [Rep] at r
    obtain ⟨a, xs, h1, h2, h3⟩ := r
    subst h1
    split at e
    · rename_i ns hi
      cases e
      have ex := bls_ok h3 hi
      subst ex
      exact ⟨a, ns, e1, SqL.of (md_H zz _ _ h2), k _ H H₀ (Ext.refl zz) (by simp only [Rep])⟩
    · cases e
  · cases e
theorem any_ok : OpC G (rAny G.K) bAny := by
  intro m H₀ H F ps z vs Q zz rs e k
  unfold bAny at e
  split at e
  · obtain ⟨v, e1, r⟩ := reps1 rs
    simp only [Rep] at r
    obtain ⟨a, xs, h1, h2, h3⟩ := r
    subst h1
    split at e
    · rename_i ns hi
      cases e
      have ex := bls_ok h3 hi
      subst ex
      exact ⟨a, ns, e1, SqL.of (md_H zz _ _ h2), k _ H H₀ (Ext.refl zz) (by simp only [Rep])⟩
    · cases e
  · cases e
theorem tuple_ok : OpC G (fun xs H Q => ∃ p ys, xs = [.ref p] ∧ ((SqL G.K H p ys ∧ ∀ l, H l = none → Q (.ref l) (upd H l (.tup ys))) ∨ (SqT G.K H p ys ∧ Q (.ref p) H))) bTuple := by
  intro m H₀ H F ps z vs Q zz rs e k
  unfold bTuple at e
  split at e
  · obtain ⟨v, e1, r⟩ := reps1 rs
    simp only [Rep] at r
    obtain ⟨a, xs, h1, h2, h3⟩ := r
    subst h1
    cases e
    refine ⟨a, xs, e1, .inl ⟨SqL.of (md_H zz _ _ h2), fun l hl => ?_⟩⟩
    obtain ⟨E, rr⟩ := rep_tup_new (m := m) (F := F) zz hl h3
    exact k _ _ _ E rr
  · obtain ⟨v, e1, r⟩ := reps1 rs
    have r' := r
    simp only [Rep] at r
    obtain ⟨a, xs, h1, h2, h3⟩ := r
    subst h1
    cases e
    exact ⟨a, xs, e1, .inr ⟨Same.seqT (md_H zz) h2, k _ H H₀ (Ext.refl zz) r'⟩⟩
  · cases e
theorem list_ok : OpF G (fun xs H Q => ∃ p ys, xs = [.ref p] ∧ (SqL G.K H p ys ∨ SqT G.K H p ys) ∧ ∀ l, H l = none → Q (.ref l) (upd H l (.lst ys))) bList := by
  intro H₀ H ps o vs Q zz rs e k
  unfold bList at e
  have go : ∀ {l : List PV} {xs : List V} {p : Addr}, Reps G H₀ l xs → H p = none → o = .own (l.map .sh) → Q (.ref p) (upd H p (.lst xs)) := fun {l xs p} r hp eo => by
    subst eo
    have h0 : H₀ p = none := Same.free zz hp
    refine k (.ref p) (upd H p (.lst xs)) H₀ [p] ⟨fun b u q => ?_, Same.refl _, fun b u q => ?_, fun _ _ => rfl⟩ ?_ (by simp) fun a ha => ?_
    · rw [upd_ne fun z => by rw [z, hp] at q; cases q]; exact q
    · rw [upd_ne fun z => by rw [z, h0] at q; cases q]; exact zz b u q
    · simp only [OwnR]
      exact ⟨p, xs, [], rfl, rfl, upd_same, ownRs_sh (C := ⟨G, H, H, none, H⟩) r⟩
    · rw [List.mem_singleton.mp ha]; exact ⟨hp, h0⟩
  split at e
  · obtain ⟨v, e1, r⟩ := reps1 rs
    simp only [Rep] at r
    obtain ⟨a, xs, h1, h2, h3⟩ := r
    subst h1
    cases e
    exact ⟨a, xs, e1, .inl (SqL.of (zz _ _ h2)), fun l hl => go h3 hl rfl⟩
  · obtain ⟨v, e1, r⟩ := reps1 rs
    simp only [Rep] at r
    obtain ⟨a, xs, h1, h2, h3⟩ := r
    subst h1
    cases e
    exact ⟨a, xs, e1, .inr (Same.seqT zz h2), fun l hl => go h3 hl rfl⟩
  · cases e
theorem bt_len : bootBuiltins "len" = some (.builtin "len") := by decide +kernel
theorem bt_abs : bootBuiltins "abs" = some (.builtin "abs") := by decide +kernel
theorem bt_max : bootBuiltins "max" = some (.builtin "max") := by decide +kernel
theorem bt_min : bootBuiltins "min" = some (.builtin "min") := by decide +kernel
theorem bt_sum : bootBuiltins "sum" = some (.builtin "sum") := by decide +kernel
theorem bt_all : bootBuiltins "all" = some (.builtin "all") := by decide +kernel
theorem bt_any : bootBuiltins "any" = some (.builtin "any") := by decide +kernel
theorem bt_isi : bootBuiltins "isinstance" = some (.builtin "isinstance") := by decide +kernel
theorem bt_int : bootBuiltins "int" = some (.type "int") := by decide +kernel
theorem bt_bool : bootBuiltins "bool" = some (.type "bool") := by decide +kernel
theorem bt_str : bootBuiltins "str" = some (.type "str") := by decide +kernel
theorem bt_tuple : bootBuiltins "tuple" = some (.type "tuple") := by decide +kernel
theorem bt_list : bootBuiltins "list" = some (.type "list") := by decide +kernel
theorem bt_ve : bootBuiltins "ValueError" = some (.type "ValueError") := by decide +kernel
end
section
variable {C : Fc} {W : WX} {m : Bool} {X : Cx} {a b c e : Expr} {es : List Expr} {pos p p2 : Pos} {x : Str} {fas : Env → R (List PV)} {fa : Env → R PV}
theorem qLen (hK : X.K = C.G.K) (hm : X.mg "len" = none) (ha : QA C W m X [e] fas) (hgl : Gl X "len" := by rfl) (he : starEach (e :: []) X.env = (false, eval e X.env) :: starEach [] X.env := by rfl) : QE C W m X (.Call (.Name "len" p) [e] [] pos) (eB bLen fas) := qB cr_lenAll calm_len (by rw [hK]; exact len_ok) hm bt_len ha hgl (by decide) (by decide) he rfl
theorem qAbs (hm : X.mg "abs" = none) (ha : QA C W m X [e] fas) (hgl : Gl X "abs" := by rfl) (he : starEach (e :: []) X.env = (false, eval e X.env) :: starEach [] X.env := by rfl) : QE C W m X (.Call (.Name "abs" p) [e] [] pos) (eB bAbs fas) := qB call_abs calm_abs abs_ok hm bt_abs ha hgl (by decide) (by decide) he rfl
theorem qIntB (hm : X.mg "int" = none) (ha : QA C W m X [e] fas) (hgl : Gl X "int" := by rfl) (he : starEach (e :: []) X.env = (false, eval e X.env) :: starEach [] X.env := by rfl) : QE C W m X (.Call (.Name "int" p) [e] [] pos) (eB bInt fas) := qBty call_int1 calm_int int_ok hm bt_int ha hgl (by decide) (by decide) he rfl
theorem qMax (hK : X.K = C.G.K) (hc : X.calm = true) (hm : X.mg "max" = none) (ha : QA C W m X (e :: es) fas) (hgl : Gl X "max" := by rfl) (he : starEach (e :: es) X.env = (false, eval e X.env) :: starEach es X.env := by rfl) (hpl : (backTo pos (starEach es X.env)).any (·.1) = false := by rfl) : QE C W m X (.Call (.Name "max" p) (e :: es) [] pos) (eB bMax fas) :=
  qB (cr_maxAll hc) calm_max (by rw [hK]; exact max_ok) hm bt_max ha hgl (by decide) (by decide) he hpl
theorem qMin (hK : X.K = C.G.K) (hc : X.calm = true) (hm : X.mg "min" = none) (ha : QA C W m X (e :: es) fas) (hgl : Gl X "min" := by rfl) (he : starEach (e :: es) X.env = (false, eval e X.env) :: starEach es X.env := by rfl) (hpl : (backTo pos (starEach es X.env)).any (·.1) = false := by rfl) : QE C W m X (.Call (.Name "min" p) (e :: es) [] pos) (eB bMin fas) :=
  qB (cr_minAll hc) calm_min (by rw [hK]; exact min_ok) hm bt_min ha hgl (by decide) (by decide) he hpl
theorem qSum (hK : X.K = C.G.K) (hc : X.calm = true) (hm : X.mg "sum" = none) (ha : QA C W m X [e] fas) (hgl : Gl X "sum" := by rfl) (he : starEach (e :: []) X.env = (false, eval e X.env) :: starEach [] X.env := by rfl) : QE C W m X (.Call (.Name "sum" p) [e] [] pos) (eB bSum fas) := qB (cr_sum hc) calm_sum (by rw [hK]; exact sum_ok) hm bt_sum ha hgl (by decide) (by decide) he rfl
theorem qAll (hK : X.K = C.G.K) (hc : X.calm = true) (hm : X.mg "all" = none) (ha : QA C W m X [e] fas) (hgl : Gl X "all" := by rfl) (he : starEach (e :: []) X.env = (false, eval e X.env) :: starEach [] X.env := by rfl) : QE C W m X (.Call (.Name "all" p) [e] [] pos) (eB bAll fas) := qB (cr_all hc) calm_all (by rw [hK]; exact all_ok) hm bt_all ha hgl (by decide) (by decide) he rfl
theorem qAny (hK : X.K = C.G.K) (hc : X.calm = true) (hm : X.mg "any" = none) (ha : QA C W m X [e] fas) (hgl : Gl X "any" := by rfl) (he : starEach (e :: []) X.env = (false, eval e X.env) :: starEach [] X.env := by rfl) : QE C W m X (.Call (.Name "any" p) [e] [] pos) (eB bAny fas) := qB (cr_any hc) calm_any (by rw [hK]; exact any_ok) hm bt_any ha hgl (by decide) (by decide) he rfl
theorem qTuple (hK : X.K = C.G.K) (hm : X.mg "tuple" = none) (ha : QA C W m X [e] fas) (hgl : Gl X "tuple" := by rfl) (he : starEach (e :: []) X.env = (false, eval e X.env) :: starEach [] X.env := by rfl) : QE C W m X (.Call (.Name "tuple" p) [e] [] pos) (eB bTuple fas) := qBty call_tuple_of calm_tuple (by rw [hK]; exact tuple_ok) hm bt_tuple ha hgl (by decide) (by decide) he rfl
theorem qList (hK : X.K = C.G.K) (hm : X.mg "list" = none) (ha : QA C W true X [e] fas) (hgl : Gl X "list" := by rfl) (he : starEach (e :: []) X.env = (false, eval e X.env) :: starEach [] X.env := by rfl) : QF C W X (.Call (.Name "list" p) [e] [] pos) (fB bList fas) := qFBty call_list_of calm_list (by rw [hK]; exact list_ok) hm bt_list ha hgl (by decide) (by decide) he rfl
/-! ### slices -/
def tOp3 (C : Fc) (W : WX) (m : Bool) (f : Env → R (Option Int)) : L2.TO := fun σ H Q => ∃ H₀ F ρ, SR C H₀ F ρ σ H ∧ Goes C.G W (f ρ) σ H H₀ fun i => ∀ H' H₀', Ext H₀ H H₀' H' → Q i H'
abbrev QO (C : Fc) (W : WX) (m : Bool) (X : Cx) (e : Option Expr) (f : Env → R (Option Int)) : Prop := PO X e (tOp3 C W m f)
def oNone : Env → R (Option Int) := fun _ => .ok none
def oSome (f : Env → R PV) : Env → R (Option Int) := fun ρ => (f ρ).bind fun p => match p with
  | .int i => .ok (some i)
  | _ => .no
theorem PO.imp {X : Cx} {e : Option Expr} {t t' : L2.TO} (h : PO X e t) (k : ∀ σ H Q, t' σ H Q → t σ H Q) : PO X e t' := ⟨fun pins s σ H Q I q => h.run pins s σ H Q I (k _ _ _ q)⟩
theorem qoNone : QO C W m X none oNone := PO.imp po_none fun σ H Q ⟨H₀, F, ρ, S, h⟩ => h H H₀ (Ext.refl S.z)
theorem qoSome (ha : QE C W m X e fa) : QO C W m X (some e) (oSome fa) := by
  refine PO.imp (po_some ha) fun σ H Q h => ?_
  show tE C W m fa σ H fun x H1 => ∃ i, x = .int i ∧ Q (some i) H1
  rw [tE_iff]
  obtain ⟨H₀, F, ρ, S, h⟩ := h
  unfold oSome at h
  rw [Goes.bind] at h
  refine ⟨H₀, F, ρ, S, h.imp fun p _ h v H1 H₁ E1 r1 => ?_⟩
  cases p with
  | int i =>
    simp only [Rep] at r1
    exact ⟨i, r1, h H1 H₁ E1⟩
  | _ => exact (show False from h).elim
def slR (p : PV) (lo hi : Option Int) : R PV := match p with
  | .str z => if z.length ≤ sizeLine then .ok (.str (cutS z lo hi)) else .no
  | .tup l => if HT.sIx l.length 0 lo = 0 ∧ HT.sIx l.length l.length hi = l.length then .no else .ok (.tup (cutVP l lo hi))
  | .lst l => .ok (.lst (cutVP l lo hi))
  | _ => .no
where cutVP (xs : List PV) (lo hi : Option Int) : List PV := (xs.drop (HT.sIx xs.length 0 lo)).take (HT.sIx xs.length xs.length hi - HT.sIx xs.length 0 lo)
def eSl (f : Env → R PV) (l h : Env → R (Option Int)) : Env → R PV := fun ρ => (f ρ).bind fun p => (l ρ).bind fun lo => (h ρ).bind fun hi => slR p lo hi
def rSlAll (K : PySem.W.Frag) : V → Option Int → Option Int → Hp → VK → Prop := fun x lo hi H Q => rSlL K x lo hi H Q ∨ rSlT K x lo hi H Q ∨ rSlS x lo hi H Q
theorem sl_all {X : Cx} : L2.SlR X (rSlAll X.K) := by
  intro pins s σ H x v vl vu lo hi sl Q I rx hs pl pu h
  rcases h with h | h | h
  · exact sl_list pins s σ H x v vl vu lo hi sl Q I rx hs pl pu h
  · exact sl_tup pins s σ H x v vl vu lo hi sl Q I rx hs pl pu h
  · exact sl_str pins s σ H x v vl vu lo hi sl Q I rx hs pl pu h
theorem cut_ok {G : Gc} {H : Hp} {l : List PV} {xs : List V} (r : Reps G H l xs) (lo hi : Option Int) : Reps G H (slR.cutVP l lo hi) (cutV xs lo hi) := by
  unfold slR.cutVP cutV
  rw [r.length]
  exact (r.drop _).take _
theorem slR_ok {G : Gc} {H₀ H : Hp} {F : List Addr} {p z : PV} {v : V} {lo hi : Option Int} {Q : VK} (zz : Same H₀ H) (r : Rep G (md m H₀ H F) p v) (e : slR p lo hi = .ok z) (k : ∀ v H' H₀', Ext H₀ H H₀' H' → Rep G (md m H₀' H' F) z v → Q v H') :
    rSlAll G.K v lo hi H Q := by
  unfold slR at e
  split at e
  · simp only [Rep] at r
    split at e
    · rename_i hs
      cases e
      exact .inr (.inr ⟨_, r, hs, k _ H H₀ (Ext.refl zz) (by simp only [Rep])⟩)
    · cases e
  · simp only [Rep] at r
    obtain ⟨a, xs, h1, h2, h3⟩ := r
    split at e
    · cases e
    · rename_i hs
      cases e
      refine .inr (.inl ⟨a, xs, h1, Same.seqT (md_H zz) h2, by rw [← h3.length]; exact hs, fun q hq => ?_⟩)
      obtain ⟨E, rr⟩ := rep_tup_new (m := m) (F := F) zz hq (cut_ok h3 lo hi)
      exact k _ _ _ E rr
  · simp only [Rep] at r
    obtain ⟨a, xs, h1, h2, h3⟩ := r
    cases e
    refine .inl ⟨a, xs, h1, SqL.of (md_H zz _ _ h2), fun q hq => ?_⟩
    obtain ⟨E, rr⟩ := rep_lst_new (m := m) (F := F) zz hq (cut_ok h3 lo hi)
    exact k _ _ _ E rr
  · cases e
theorem qSl {lo hi : Option Expr} {fl fh : Env → R (Option Int)} (hK : X.K = C.G.K) (ha : QE C W m X a fa) (hl : QO C W m X lo fl) (hh : QO C W m X hi fh) : QE C W m X (.Subscript a (.Slice lo hi none p2) pos) (eSl fa fl fh) := by
  refine PE.imp (pe_slice sl_all ha hl hh) fun σ H Q h => ?_
  show tE C W m fa σ H fun x H1 => tOp3 C W m fl σ H1 fun l H2 => tOp3 C W m fh σ H2 fun u H3 => rSlAll X.K x l u H3 Q
  rw [tE_iff] at h ⊢
  obtain ⟨H₀, F, ρ, S, h⟩ := h
  unfold eSl at h
  rw [Goes.bind] at h
  refine ⟨H₀, F, ρ, S, h.imp fun p _ h v H1 H₁ E1 r1 => ?_⟩
  rw [Goes.bind] at h
  refine ⟨H₁, F, ρ, S.ext E1, (h.later E1).imp fun lo _ h H2 H₂ E2 => ?_⟩
  rw [Goes.bind] at h
  refine ⟨H₂, F, ρ, (S.ext E1).ext E2, (h.later (E1.trans E2)).imp fun hi _ h H3 H₃ E3 => ?_⟩
  have E := (E1.trans E2).trans E3
  cases q : slR p lo hi with
  | ok z =>
    rw [q] at h
    rw [hK]
    exact slR_ok (m := m) (F := F) E3.z (Rep.mono ((md_ext E2).trans (md_ext E3)) r1) q fun w H' H₀' E4 r4 => h w H' H₀' (E.trans E4) r4
  | er x =>
    exfalso
    revert q
    unfold slR
    split <;> first | (intro z; cases z; done) | (split <;> (intro z; cases z))
  | no =>
    rw [q] at h
    exact h.elim
/-! ### fields -/
def eFld (f : Str) (ok : Nat → Bool) (fa : Env → R PV) : Env → R PV := fun ρ => (fa ρ).bind fun p => match p with
  | .ins c fs => if ok c then R.of (fs.lookup f) else .no
  | _ => .no
theorem qFld {f : Str} {ok : Nat → Bool} (hK : X.K = C.G.K) (T : ∀ c, ok c = true → Cls C.G.K (C.G.CA c) ∧ NoAttr C.G.K (C.G.CA c) f) (ha : QE C W m X a fa) (hb : attributeBase a f X.env (eval a X.env) = eval a X.env := by rfl) :
    QE C W m X (.Attribute a f pos) (eFld f ok fa) := by
  refine PE.imp (pe_fld ha hb) fun σ H Q h => ?_
  show tE C W m fa σ H fun x H1 => ∃ a C dx fs v, x = .ref a ∧ H1 a = some (.ins C dx fs) ∧ Cls X.K C ∧ NoAttr X.K C f ∧ fs.lookup f = some v ∧ Q v H1
  rw [tE_iff] at h ⊢
  obtain ⟨H₀, F, ρ, S, h⟩ := h
  unfold eFld at h
  rw [Goes.bind] at h
  refine ⟨H₀, F, ρ, S, h.imp fun p _ h v H1 H₁ E1 r1 => ?_⟩
  cases p with
  | ins c fs =>
    simp only [Rep] at r1
    obtain ⟨a, dx, vs, h1, h2, h3⟩ := r1
    by_cases hc : ok c = true
    · simp only [hc, if_true] at h
      cases q : fs.lookup f with
      | none => rw [q] at h; exact h.elim
      | some w =>
        rw [q] at h
        obtain ⟨u, e1, e2⟩ := h3.get q
        obtain ⟨t1, t2⟩ := T c hc
        rw [hK]
        exact ⟨a, _, dx, vs, u, h1, md_H E1.z _ _ h2, t1, t2, e1, h u H1 H₁ E1 e2⟩
    · simp only [hc, if_false] at h
      exact h.elim
  | _ => exact (show False from h).elim
/-! ### isinstance -/
def isiP (tb : String → Option Bool) (ib : Nat → Option Bool) : PV → R PV := fun p => R.of ((match p with
  | .non => tb "NoneType"
  | .bl _ => tb "bool"
  | .int _ => tb "int"
  | .str _ => tb "str"
  | .lst _ => tb "list"
  | .tup _ => tb "tuple"
  | .ins c _ => ib c
  | .scr _ => none).map PV.bl)
/-- what the own class at A must have for its instances' isinstance -/
structure IsC (K : PySem.W.Frag) (A : Addr) : Prop where
  cl : Cls K A
  ha : PySem.W.findIn K (.ref A) "__class__" = some (some (.builtin "object.__class__"))
  hn : PySem.W.specialIn K (.builtin "object.__class__") "__get__" = some (some (.builtin "getset_descriptor.__get__"))
  ht : PySem.W.takesIn K (.builtin "object.__class__") = some true
  hm : PySem.W.mroIn K A (.type "object") = some true
def eIsi (tb : String → Option Bool) (ib : Nat → Option Bool) (fa : Env → R PV) : Env → R PV := eUn (isiP tb ib) fa
theorem tup_ty {K : PySem.W.Frag} {H : Hp} {t : Addr} {xs : List V} (h : SqT K H t xs) : TyX K H (.ref t) (.type "tuple") := by
  rcases h with (h | ⟨o, h⟩) | ⟨o, its, n, h, hc, _⟩
  · exact .base (.tup h)
  · exact .fTuple h
  · exact .kTuple h hc
theorem isi_go {tb : String → Option Bool} {ib : Nat → Option Bool} {cv : V} {u : Value} (hcl : ClsV cv u) (ht : ∀ t b, tb t = some b → PySem.W.kitOne C.G.K (.type t) u = some b) (hi : ∀ c b, ib c = some b → IsC C.G.K (C.G.CA c) ∧ PySem.W.kitOne C.G.K (.ref (C.G.CA c)) u = some b)
    {σ : L2.St} {H : Hp} {Q : VK} (h : tE C W m (eIsi tb ib fa) σ H Q) : tE C W m fa σ H fun x H1 => rIsi C.G.K [x, cv] H1 Q := by
  rw [tE_iff] at h ⊢
  obtain ⟨H₀, F, ρ, S, h⟩ := h
  unfold eIsi eUn at h
  rw [Goes.bind] at h
  refine ⟨H₀, F, ρ, S, h.imp fun p _ h v H1 H₁ E1 r1 => ?_⟩
  have r2 := rep_up E1.z r1
  have fin : ∀ {b : Bool} {t : Value}, TyX C.G.K H1 v t → PySem.W.kitOne C.G.K t u = some b → Goes C.G W (R.of ((some b).map PV.bl)) σ H H₀ (fun p => ∀ v H' H₀', Ext H₀ H H₀' H' → Rep C.G (md m H₀' H' F) p v → Q v H') → rIsi C.G.K [v, cv] H1 Q :=
    fun {b t} ty ki g => ⟨v, cv, t, u, b, rfl, hcl, ty, ki, g (.bl b) H1 H₁ E1 (by simp only [Rep])⟩
  unfold isiP at h
  cases p with
  | non => simp only [Rep] at r2; subst r2; cases q : tb "NoneType" with
    | none => simp only [q, Option.map_none] at h; exact h.elim
    | some b => simp only [q] at h; exact fin (.base .non) (ht _ _ q) h
  | bl b => simp only [Rep] at r2; subst r2; cases q : tb "bool" with
    | none => simp only [q, Option.map_none] at h; exact h.elim
    | some b => simp only [q] at h; exact fin (.base (.bl _)) (ht _ _ q) h
  | int b => simp only [Rep] at r2; subst r2; cases q : tb "int" with
    | none => simp only [q, Option.map_none] at h; exact h.elim
    | some b => simp only [q] at h; exact fin (.base (.int _)) (ht _ _ q) h
  | str b => simp only [Rep] at r2; subst r2; cases q : tb "str" with
    | none => simp only [q, Option.map_none] at h; exact h.elim
    | some b => simp only [q] at h; exact fin (.base (.str _)) (ht _ _ q) h
  | lst l => simp only [Rep] at r2; obtain ⟨a, xs, h1, h2, h3⟩ := r2; subst h1; cases q : tb "list" with
    | none => simp only [q, Option.map_none] at h; exact h.elim
    | some b => simp only [q] at h; exact fin (.base (.lst h2)) (ht _ _ q) h
  | scr l => exact h.elim
  | tup l => simp only [Rep] at r2; obtain ⟨a, xs, h1, h2, h3⟩ := r2; subst h1; cases q : tb "tuple" with
    | none => simp only [q, Option.map_none] at h; exact h.elim
    | some b => simp only [q] at h; exact fin (tup_ty h2) (ht _ _ q) h
  | ins c fs => simp only [Rep] at r2; obtain ⟨a, dx, xs, h1, h2, h3⟩ := r2; subst h1; cases q : ib c with
    | none => simp only [q, Option.map_none] at h; exact h.elim
    | some b =>
      simp only [q] at h
      obtain ⟨I, ki⟩ := hi c b q
      exact fin (.base (.ins h2 I.cl I.ha I.hn I.ht I.hm)) ki h
/-- isinstance(a, T), T a built-in class -/
theorem qIsiT {T : Str} {t : String} {tb : String → Option Bool} {ib : Nat → Option Bool} (hK : X.K = C.G.K) (hm : X.mg "isinstance" = none) (hT : X.mg T = none) (hv : bootBuiltins T = some (.type t)) (ht : ∀ s b, tb s = some b → kitB s t = some b)
    (hi : ∀ c b, ib c = some b → IsC C.G.K (C.G.CA c) ∧ PySem.W.kitOne C.G.K (.ref (C.G.CA c)) (.type t) = some b) (ha : QE C W m X a fa) (hgl : Gl X "isinstance" := by rfl) (hgT : Gl X T := by rfl) (hn : T ≠ "__name__" := by decide) (hd : (T == ("__debug__" : Str)) = false := by decide)
    (h1 : starEach (a :: [.Name T p2]) X.env = (false, eval a X.env) :: starEach [.Name T p2] X.env := by rfl) (h2 : starEach (.Name T p2 :: []) X.env = (false, eval (.Name T p2) X.env) :: starEach [] X.env := by rfl) (h3 : (backTo pos (starEach [.Name T p2] X.env)).any (·.1) = false := by rfl) :
    QE C W m X (.Call (.Name "isinstance" p) [a, .Name T p2] [] pos) (eIsi tb ib fa) := by
  refine PE.imp (pe_callB call_isi hgl hm bt_isi (pa_cons ha (pa_cons (pe_bltn (v := .ty t) hgT hT hv rfl hn hd) pa_nil h2) h1) (by decide) (by decide) h1 h3) fun σ H Q h => ?_
  rw [hK]
  exact isi_go (C := C) (.ty t) (fun s b q => kit_ty (ht s b q)) hi h
/-- .. T an own class -/
theorem qIsiC {T : Str} {A : Addr} {tb : String → Option Bool} {ib : Nat → Option Bool} (hK : X.K = C.G.K) (hm : X.mg "isinstance" = none) (hT : X.mg T = some (.ref A)) (ht : ∀ s b, tb s = some b → PySem.W.kitOne C.G.K (.type s) (.ref A) = some b)
    (hi : ∀ c b, ib c = some b → IsC C.G.K (C.G.CA c) ∧ PySem.W.kitOne C.G.K (.ref (C.G.CA c)) (.ref A) = some b) (ha : QE C W m X a fa) (hgl : Gl X "isinstance" := by rfl) (hgT : Gl X T := by rfl) (hd : (T == ("__debug__" : Str)) = false := by decide)
    (h1 : starEach (a :: [.Name T p2]) X.env = (false, eval a X.env) :: starEach [.Name T p2] X.env := by rfl) (h2 : starEach (.Name T p2 :: []) X.env = (false, eval (.Name T p2) X.env) :: starEach [] X.env := by rfl) (h3 : (backTo pos (starEach [.Name T p2] X.env)).any (·.1) = false := by rfl) :
    QE C W m X (.Call (.Name "isinstance" p) [a, .Name T p2] [] pos) (eIsi tb ib fa) := by
  refine PE.imp (pe_callB call_isi hgl hm bt_isi (pa_cons ha (pa_cons (pe_glob (v := .ref A) hgT hT rfl hd) pa_nil h2) h1) (by decide) (by decide) h1 h3) fun σ H Q h => ?_
  rw [hK]
  exact isi_go (C := C) (.own A) ht hi h
end
end L3

end
section
/-! L3. 5: what is walked, targets, comprehensions -/
namespace L3
open PySem PySem.Spec PyProof.Rows L2
/-! ### what is walked -/
structure ItP (Γ : Gc) (J : It) (Hv : Hp) (ps : List PV) : Prop where
  stop : ∀ i H, Same Hv H → ps.length ≤ i → J.stop i H
  go : ∀ i H p, Same Hv H → ps[i]? = some p → J.go i H ∧ ∀ x H', J.yld i H x H' → H' = H ∧ Rep Γ Hv p x
def tI (C : Fc) (W : WX) (m : Bool) (f : Env → R (List PV)) : TI := fun σ H Rr => ∃ H₀ F ρ, SR C H₀ F ρ σ H ∧ Goes C.G W (f ρ) σ H H₀ fun ps => ∀ J H' H₀', Ext H₀ H H₀' H' → ItP C.G J (md m H₀' H' F) ps → Rr J H'
abbrev QI (C : Fc) (W : WX) (m : Bool) (X : Cx) (tg e : Expr) (f : Env → R (List PV)) : Prop := PI X tg e (tI C W m f)
theorem PI.imp {X : Cx} {tg e : Expr} {t t' : TI} (h : PI X tg e t) (k : ∀ σ H Q, t' σ H Q → t σ H Q) : PI X tg e t' := ⟨fun pins s σ H Q I q => h.run pins s σ H Q I (k _ _ _ q)⟩
theorem PI.or {X : Cx} {tg e : Expr} {t t' : TI} (h : PI X tg e t) (h' : PI X tg e t') : PI X tg e (fun σ H Q => t σ H Q ∨ t' σ H Q) := ⟨fun pins s σ H Q I q => q.elim (h.run pins s σ H Q I) (h'.run pins s σ H Q I)⟩
def seqR : PV → R (List PV)
  | .lst l => .ok l
  | .scr l => .ok l
  | .tup l => .ok l
  | .str z => .ok (z.cps.toList.map fun c => .str ⟨#[c]⟩)
  | _ => .no
def iSeq (f : Env → R PV) : Env → R (List PV) := fun ρ => (f ρ).bind seqR
section
variable {C : Fc} {W : WX} {m : Bool} {X : Cx} {tg a b e : Expr} {es : List Expr} {pos p : Pos} {fa fb : Env → R PV} {fas : Env → R (List PV)} {σ : L2.St} {H H₀ : Hp} {F : List Addr} {ρ : Env}
theorem rep_of_get {G : Gc} {Hv : Hp} {l : List PV} {xs : List V} {i : Nat} {x : V} (r : Reps G Hv l xs) {p : PV} (e : l[i]? = some p) (ex : xs[i]? = some x) : Rep G Hv p x := by
  obtain ⟨v, e1, e2⟩ := r.get e
  rw [ex] at e1
  cases e1
  exact e2
theorem itp_list {G : Gc} {Hv : Hp} {a : Addr} {l : List PV} {xs : List V} (h : SqL G.K Hv a xs) (r : Reps G Hv l xs) : ItP G (Itl G.K a) Hv l := by
  refine ⟨fun i H s hi => ⟨xs, s.seq h, by rw [← r.length]; exact hi⟩, fun i H p s e => ?_⟩
  obtain ⟨v, e1, e2⟩ := r.get e
  exact ⟨⟨xs, v, s.seq h, e1⟩, fun x H' y => ⟨y.1, rep_of_get r e (y.2 xs (s.seq h))⟩⟩
theorem itp_tup {G : Gc} {Hv : Hp} {a : Addr} {l : List PV} {xs : List V} (h : SqT G.K Hv a xs) (r : Reps G Hv l xs) : ItP G (Itt G.K a) Hv l := by
  refine ⟨fun i H s hi => ⟨xs, Same.seqT s h, by rw [← r.length]; exact hi⟩, fun i H p s e => ?_⟩
  obtain ⟨v, e1, e2⟩ := r.get e
  exact ⟨⟨xs, v, Same.seqT s h, e1⟩, fun x H' y => ⟨y.1, rep_of_get r e (y.2 xs (Same.seqT s h))⟩⟩
theorem itp_str {G : Gc} {Hv : Hp} {z : Str} : ItP G (Its z) Hv (z.cps.toList.map fun c => .str ⟨#[c]⟩) := by
  refine ⟨fun i H s hi => by simpa [Its] using hi, fun i H p s e => ?_⟩
  rw [List.getElem?_map] at e
  cases q : z.cps.toList[i]? with
  | none => rw [q] at e; cases e
  | some c =>
    rw [q] at e
    cases e
    have q' : z.cps[i]? = some c := by simpa using q
    refine ⟨(Array.getElem?_eq_some_iff.mp q').1, fun x H' y => ⟨y.1, ?_⟩⟩
    obtain ⟨c', h1, h2⟩ := y.2
    rw [q'] at h1
    cases h1
    simp only [Rep]
    exact h2
theorem qiSeq (hK : X.K = C.G.K) (ha : QE C W m X a fa) : QI C W m X tg a (iSeq fa) := by
  refine PI.imp (PI.or (pi_list ha) (PI.or (pi_tup ha) (pi_str ha))) fun σ H Q h => ?_
  obtain ⟨H₀, F, ρ, S, h⟩ := h
  unfold iSeq at h
  rw [Goes.bind] at h
  have key : ∀ (R1 : VK), (∀ p, fa ρ = .ok p → Goes C.G W (seqR p) σ H H₀ (fun ps => ∀ J H' H₀', Ext H₀ H H₀' H' → ItP C.G J (md m H₀' H' F) ps → Q J H') → ∀ v H1 H₁, Ext H₀ H H₁ H1 → Rep C.G (md m H₁ H1 F) p v → R1 v H1) → tE C W m fa σ H R1 := by
    intro R1 k
    rw [tE_iff]
    exact ⟨H₀, F, ρ, S, h.imp fun p e g v H1 H₁ E1 r1 => k p e g v H1 H₁ E1 r1⟩
  cases q : fa ρ with
  | er x =>
    refine .inl (key _ fun p e => ?_)
    rw [q] at e
    cases e
  | no =>
    rw [q] at h
    exact h.elim
  | ok p =>
    cases p with
    | lst l =>
      refine .inl (key _ fun p e g v H1 H₁ E1 r1 => ?_)
      rw [q] at e
      cases e
      simp only [Rep] at r1
      obtain ⟨a', xs, h1, h2, h3⟩ := r1
      subst h1
      rw [hK]
      exact ⟨a', rfl, ⟨xs, SqL.of (md_H E1.z _ _ h2)⟩, g _ H1 H₁ E1 (itp_list (SqL.of h2) h3)⟩
    | scr l =>
      refine .inl (key _ fun p e g v H1 H₁ E1 r1 => ?_)
      rw [q] at e
      cases e
      simp only [Rep] at r1
      obtain ⟨a', xs, h1, h2, h3⟩ := r1
      subst h1
      rw [hK]
      exact ⟨a', rfl, ⟨xs, (md_H E1.z).seq h2⟩, g _ H1 H₁ E1 (itp_list h2 h3)⟩
    | tup l =>
      refine .inr (.inl (key _ fun p e g v H1 H₁ E1 r1 => ?_))
      rw [q] at e
      cases e
      simp only [Rep] at r1
      obtain ⟨a', xs, h1, h2, h3⟩ := r1
      subst h1
      rw [hK]
      exact ⟨a', rfl, ⟨xs, Same.seqT (md_H E1.z) h2⟩, g _ H1 H₁ E1 (itp_tup h2 h3)⟩
    | str z =>
      refine .inr (.inr (key _ fun p e g v H1 H₁ E1 r1 => ?_))
      rw [q] at e
      cases e
      simp only [Rep] at r1
      exact ⟨z, r1, g _ H1 H₁ E1 itp_str⟩
    | non => rw [q] at h; exact h.elim
    | bl b => rw [q] at h; exact h.elim
    | int b => rw [q] at h; exact h.elim
    | ins c fs => rw [q] at h; exact h.elim
/-- numbers in a row -/
def rngP (lo : Int) (n : Nat) : List PV := (List.range n).map fun (i : Nat) => .int (lo + (i : Int))
theorem itp_rng {G : Gc} {Hv : Hp} {lo : Int} {n : Nat} : ItP G (Itr lo n) Hv (rngP lo n) := by
  refine ⟨fun i H s hi => ?_, fun i H p s e => ?_⟩
  · have hl : (rngP lo n).length = n := by simp [rngP]
    show n ≤ i
    omega
  unfold rngP at e
  rw [List.getElem?_map] at e
  cases q : (List.range n)[i]? with
  | none => rw [q] at e; cases e
  | some j =>
    rw [q] at e
    cases e
    obtain ⟨hl, hj⟩ := List.getElem?_eq_some_iff.mp q
    rw [List.length_range] at hl
    rw [List.getElem_range] at hj
    subst hj
    exact ⟨hl, fun x H' y => ⟨y.1, by simp only [Rep]; exact y.2⟩⟩
def rng1R : List PV → R (List PV)
  | [.int j] => if -(2 ^ 62) ≤ j ∧ j < 2 ^ 62 then .ok (rngP 0 j.toNat) else .no
  | _ => .no
def rng2R : List PV → R (List PV)
  | [.int i, .int j] => if -(2 ^ 62) ≤ i ∧ i < 2 ^ 62 ∧ -(2 ^ 62) ≤ j ∧ j < 2 ^ 62 then .ok (rngP i (j - i).toNat) else .no
  | _ => .no
def iRg (g : List PV → R (List PV)) (f : Env → R (List PV)) : Env → R (List PV) := fun ρ => (f ρ).bind g
theorem rng_go {g : List PV → R (List PV)} {r : List V → Hp → (It → Hp → Prop) → Prop} (ho : ∀ (m : Bool) (H₀ H : Hp) (F : List Addr) (ps qs : List PV) (vs : List V) (Q : It → Hp → Prop), Reps C.G (md m H₀ H F) ps vs → g ps = .ok qs → (∀ J, ItP C.G J (md m H₀ H F) qs → Q J H) → r vs H Q)
    (hg : CalmC g) {Q : It → Hp → Prop} (h : tI C W m (iRg g fas) σ H Q) : tAs C W m fas σ H fun vs H1 => r vs H1 Q := by
  obtain ⟨H₀, F, ρ, S, h⟩ := h
  unfold iRg at h
  rw [Goes.bind] at h
  rw [tA_iff]
  refine ⟨H₀, F, ρ, S, h.imp fun ps _ h vs H1 H₁ E1 r1 => ?_⟩
  cases q : g ps with
  | ok qs =>
    rw [q] at h
    exact ho m H₁ H1 F ps qs vs Q r1 q fun J ip => h J H1 H₁ E1 ip
  | er x => exact absurd q (hg ps x)
  | no => rw [q] at h; exact h.elim
theorem qiRng1 (hm : X.mg "range" = none) (ha : QA C W m X [a] fas) (hg : Gl X "range" := by rfl) (hs : starEach [a] X.env = [(false, eval a X.env)] := by rfl) : QI C W m X tg (.Call (.Name "range" p) [a] [] pos) (iRg rng1R fas) := by
  refine PI.imp (pi_range1 hg hm ha hs) fun σ H Q h => ?_
  refine rng_go (r := fun vs H1 Q => ∃ j : Int, vs = [.int j] ∧ -(2 ^ 62) ≤ j ∧ j < 2 ^ 62 ∧ Q (Itr 0 j.toNat) H1) (fun m H₀ H F ps qs vs Q r1 e k => ?_) (fun ps x => by unfold rng1R; split <;> first | exact R.not_er | (intro z; cases z)) h
  unfold rng1R at e
  split at e
  · split at e
    · rename_i hh
      cases e
      obtain ⟨v, e1, r⟩ := reps1 r1
      simp only [Rep] at r
      subst r
      exact ⟨_, e1, hh.1, hh.2, k _ itp_rng⟩
    · cases e
  · cases e
theorem qiRng2 (hm : X.mg "range" = none) (ha : QA C W m X [a, b] fas) (hg : Gl X "range" := by rfl) (hs : starEach [a, b] X.env = [(false, eval a X.env), (false, eval b X.env)] := by rfl) (hs2 : starEach [b] X.env = [(false, eval b X.env)] := by rfl) :
    QI C W m X tg (.Call (.Name "range" p) [a, b] [] pos) (iRg rng2R fas) := by
  refine PI.imp (pi_range2 hg hm ha hs hs2) fun σ H Q h => ?_
  refine rng_go (r := fun vs H1 Q => ∃ i j : Int, vs = [.int i, .int j] ∧ (-(2 ^ 62) ≤ i ∧ i < 2 ^ 62 ∧ -(2 ^ 62) ≤ j ∧ j < 2 ^ 62) ∧ Q (Itr i (j - i).toNat) H1) (fun m H₀ H F ps qs vs Q r1 e k => ?_) (fun ps x => by unfold rng2R; split <;> first | exact R.not_er | (intro z; cases z)) h
  unfold rng2R at e
  split at e
  · split at e
    · rename_i hh
      cases e
      obtain ⟨v, w, e1, r, r'⟩ := reps2 r1
      simp only [Rep] at r r'
      subst r r'
      exact ⟨_, _, e1, hh, k _ itp_rng⟩
    · cases e
  · cases e
/-! ### targets -/
inductive Tg where
  | nm (i : Nat) | tp (is : List Nat)
def Tg.slots : Tg → List Nat
  | .nm i => [i]
  | .tp is => is
def setMany : List Nat → List PV → Env → Env
  | i :: is, p :: ps, ρ => setMany is ps (ρ.set i (some (.sh p)))
  | _, _, ρ => ρ
def tgS : Tg → PV → Env → R Env
  | .nm i, p, ρ => .ok (ρ.set i (some (.sh p)))
  | .tp is, .lst l, ρ => if l.length = is.length then .ok (setMany is l ρ) else .no
  | .tp is, .tup l, ρ => if l.length = is.length then .ok (setMany is l ρ) else .no
  | .tp _, _, _ => .no
theorem tgS_calm {T : Tg} {p : PV} {ρ : Env} {x : PX} : tgS T p ρ ≠ .er x := by
  unfold tgS
  split <;> first | (intro z; cases z; done) | exact R.not_er
/-- the first slot may be kept -/
def fxOk (C : Fc) (i : Nat) : Prop := ∀ j v, C.fx = some (j, v) → j ≠ i
theorem SR.put (S : SR C H₀ F ρ σ H) {i : Nat} {o : OV} {v : V} {Fv : List Addr} (r : OwnR C.G H₀ H o v Fv) (nd : Fv.Nodup) (fr : ∀ a ∈ Fv, C.He a = none ∧ H₀ a = none ∧ a ∉ F) (hx : fxOk C i) :
    ∃ F', SR C H₀ F' (ρ.set i (some o)) (σ.set i (some v)) H := by
  obtain ⟨F', e1, e2, e3⟩ := EnvR.put i S.env r S.nd nd fun a ha => (fr a ha).2.2
  refine ⟨F', S.e, S.z, S.n, S.hz, e1, e2, fun a ha => ?_, fun j w hw => ?_, S.hx⟩
  · rcases e3 a ha with z | z
    · exact S.fr a z
    · exact ⟨(fr a z).1, (fr a z).2.1⟩
  · rw [List.getElem?_set_ne (Ne.symm (hx j w hw))]
    exact S.fx j w hw
theorem SR.sh (S : SR C H₀ F ρ σ H) {i : Nat} {p : PV} {v : V} (r : Rep C.G H₀ p v) (hx : fxOk C i) : ∃ F', SR C H₀ F' (ρ.set i (some (.sh p))) (σ.set i (some v)) H :=
  S.put (Fv := []) (by simp only [OwnR]; exact ⟨r, trivial⟩) List.nodup_nil (fun a ha => by cases ha) hx
theorem SR.drop (S : SR C H₀ F ρ σ H) (i : Nat) : ∃ F', SR C H₀ F' (ρ.set i none) σ H := by
  obtain ⟨F', e1, e2, e3⟩ := EnvR.drop i S.env S.nd
  exact ⟨F', S.e, S.z, S.n, S.hz, e1, e2, fun a ha => S.fr a (e3 a ha), S.fx, S.hx⟩
theorem SR.any (S : SR C H₀ F ρ σ H) {i : Nat} (x : Option V) (e : ρ[i]? = some none) (hx : fxOk C i) : SR C H₀ F ρ (σ.set i x) H :=
  ⟨S.e, S.z, S.n, S.hz, EnvR.any i x S.env e, S.nd, S.fr, fun j w hw => by
    rw [List.getElem?_set_ne (Ne.symm (hx j w hw))]
    exact S.fx j w hw, S.hx⟩
/-- a target by its slots: stores what is frozen -/
structure QG (C : Fc) (X : Cx) (tg : Expr) (T : Tg) : Prop where
  ex : ∃ t, PG X tg t ∧ ∀ (p : PV) (v : V) (H₀ : Hp) (F : List Addr) (ρ ρ' : Env) (σ : L2.St) (H : Hp) (Q : L2.St → Hp → Prop), SR C H₀ F ρ σ H → Rep C.G H₀ p v → tgS T p ρ = .ok ρ' →
    (∀ σ' F', SR C H₀ F' ρ' σ' H → (∀ vs, (∀ i ∈ T.slots, i ∈ vs) → wipe σ' vs = wipe σ vs) → Q σ' H) → t v σ H Q
theorem wipe_get : ∀ (vs : List Nat) (σ : L2.St) (j : Nat), j < σ.length → (wipe σ vs)[j]? = if j ∈ vs then some none else σ[j]?
  | [], σ, j, h => by simp [wipe]
  | v :: vs, σ, j, h => by
    show ((wipe σ vs).set v none)[j]? = _
    have hl : (wipe σ vs).length = σ.length := wipe_length σ vs
    by_cases e : v = j
    · subst e
      rw [List.getElem?_set_self (by rw [hl]; exact h)]
      simp
    · rw [List.getElem?_set_ne e, wipe_get vs σ j h]
      have : (j ∈ v :: vs) = (j ∈ vs) := by
        simp only [List.mem_cons, eq_iff_iff]
        exact ⟨fun z => z.elim (fun q => absurd q.symm e) id, .inr⟩
      simp only [this]
theorem wipe_set {σ : L2.St} {i : Nat} {x : Option V} {vs : List Nat} (h : i ∈ vs) : wipe (σ.set i x) vs = wipe σ vs := by
  apply List.ext_getElem?
  intro j
  by_cases hj : j < σ.length
  · rw [wipe_get vs _ j (by simpa using hj), wipe_get vs σ j hj]
    by_cases e : j ∈ vs
    · simp [e]
    · rw [if_neg e, if_neg e, List.getElem?_set_ne (fun q => e (by rw [← q]; exact h))]
  · rw [List.getElem?_eq_none (by rw [wipe_length]; simpa using hj), List.getElem?_eq_none (by rw [wipe_length]; omega)]
theorem qgName {i : Nat} {x : Str} (hx : fxOk C i) (hN : X.N.Nodup) (hi : X.N[i]? = some x := by rfl) (hl : Loc X.env.scope x := by first | exact Or.inl rfl | exact Or.inr rfl) (hf : X.fn x = true ∨ X.env.scope.names.lookup x = some .local := by first | exact .inl rfl | exact .inr rfl) : QG C X (.Name x pos) (.nm i) :=
  ⟨gName i, pg_name hN hi hl hf, fun p v H₀ F ρ ρ' σ H Q S r e k => by
    simp only [tgS] at e
    cases e
    obtain ⟨F', S'⟩ := S.sh r hx
    exact k _ F' S' fun vs hv => wipe_set (hv i (by simp [Tg.slots]))⟩
/-- names in a row -/
structure QGs (C : Fc) (X : Cx) (ts : List Expr) (is : List Nat) : Prop where
  ex : ∃ t, PGs X ts t ∧ ∀ (ps : List PV) (vs : List V) (H₀ : Hp) (F : List Addr) (ρ : Env) (σ : L2.St) (H : Hp) (Q : L2.St → Hp → Prop), SR C H₀ F ρ σ H → Reps C.G H₀ ps vs → ps.length = is.length →
    (∀ σ' F', SR C H₀ F' (setMany is ps ρ) σ' H → (∀ ws, (∀ i ∈ is, i ∈ ws) → wipe σ' ws = wipe σ ws) → Q σ' H) → t vs σ H Q
theorem qgsNil : QGs C X [] [] := ⟨gNil, pgs_nil, fun ps vs H₀ F ρ σ H Q S r e k => by
  have e1 : ps = [] := List.length_eq_zero_iff.mp e
  subst e1
  simp only [Reps] at r
  exact ⟨r, k σ F S fun _ _ => rfl⟩⟩
theorem qgsCons {i : Nat} {x : Str} {px : Pos} {ts : List Expr} {is : List Nat} (hx : fxOk C i) (hN : X.N.Nodup) (hr : QGs C X ts is) (hi : X.N[i]? = some x := by rfl) (hl : Loc X.env.scope x := by first | exact Or.inl rfl | exact Or.inr rfl) (hf : X.fn x = true ∨ X.env.scope.names.lookup x = some .local := by first | exact .inl rfl | exact .inr rfl)
    (hs : (assignEach (.Name x px :: ts) X.env).map (·.2) = assign (.Name x px) X.env :: (assignEach ts X.env).map (·.2) := by rfl) : QGs C X (.Name x px :: ts) (i :: is) := by
  obtain ⟨t, h1, h2⟩ := hr.ex
  refine ⟨gCons (gName i) t, pgs_cons (pg_name hN hi hl hf) h1 hs, fun ps vs H₀ F ρ σ H Q S r e k => ?_⟩
  cases ps with
  | nil => cases e
  | cons p ps =>
    simp only [Reps] at r
    obtain ⟨v, ws, e1, r1, r2⟩ := r
    obtain ⟨F1, S1⟩ := S.sh r1 hx
    refine ⟨v, ws, e1, h2 ps ws H₀ F1 _ _ H Q S1 r2 (by simpa using e) fun σ' F' S' w => k σ' F' S' fun ws hw => ?_⟩
    rw [w ws fun j hj => hw j (List.mem_cons_of_mem _ hj), wipe_set (hw i List.mem_cons_self)]
theorem PG.or {X : Cx} {e : Expr} {t t' : TG} (h : PG X e t) (h' : PG X e t') : PG X e (fun v σ H Q => t v σ H Q ∨ t' v σ H Q) := ⟨fun pins s σ H v u Q I r q => q.elim (h.run pins s σ H v u Q I r) (h'.run pins s σ H v u Q I r)⟩
theorem qgTup {ts : List Expr} {is : List Nat} {k n : Nat} (hK : X.K = C.G.K) (hc : X.calm = true) (h : QGs C X ts is) (hl : is.length = n := by rfl) (hn : (assignEach ts X.env).length = n := by rfl) (hst : (assignEach ts X.env).findIdx? (·.1) = none := by rfl) : QG C X (.Tuple ts k pos) (.tp is) := by
  obtain ⟨t, h1, h2⟩ := h.ex
  refine ⟨_, PG.or (pg_tup hc h1 hn hst) (pg_lst hc h1 hn hst), fun p v H₀ F ρ ρ' σ H Q S r e kk => ?_⟩
  have go : ∀ {l : List PV} {xs : List V}, Reps C.G H₀ l xs → l.length = is.length → ρ' = setMany is l ρ → t xs σ H Q := fun {l xs} r' hlen er =>
    h2 l xs H₀ F ρ σ H Q S r' hlen fun σ' F' S' w => kk σ' F' (er ▸ S') w
  cases p with
  | lst l =>
    simp only [tgS] at e
    split at e
    · rename_i hlen
      cases e
      simp only [Rep] at r
      obtain ⟨a, xs, e1, e2, e3⟩ := r
      exact .inr ⟨a, xs, e1, SqL.of (S.z _ _ e2), by rw [← e3.length, hlen, hl], go e3 hlen rfl⟩
    · cases e
  | tup l =>
    simp only [tgS] at e
    split at e
    · rename_i hlen
      cases e
      simp only [Rep] at r
      obtain ⟨a, xs, e1, e2, e3⟩ := r
      refine .inl ⟨a, xs, e1, ?_, by rw [← e3.length, hlen, hl], go e3 hlen rfl⟩
      rw [hK]
      exact Same.seqT S.z e2
    · cases e
  | _ => simp only [tgS] at e; cases e
/-! ### comprehensions -/
def wipeE (ρ : Env) : List Nat → Env
  | [] => ρ
  | v :: vs => (wipeE ρ vs).set v none
theorem SR.wipe : ∀ (vs : List Nat) {F : List Addr} {ρ : Env} {σ : L2.St}, SR C H₀ F ρ σ H → (∀ i ∈ vs, fxOk C i) → ∃ F', SR C H₀ F' (wipeE ρ vs) (L2.wipe σ vs) H
  | [], F, ρ, σ, S, _ => ⟨F, S⟩
  | v :: vs, F, ρ, σ, S, hv => by
    obtain ⟨F1, S1⟩ := SR.wipe vs S fun i hi => hv i (List.mem_cons_of_mem _ hi)
    obtain ⟨F2, S2⟩ := S1.drop v
    refine ⟨F2, ?_⟩
    show SR C H₀ F2 ((wipeE ρ vs).set v none) ((L2.wipe σ vs).set v none) H
    by_cases hl : v < (wipeE ρ vs).length
    · exact S2.any none (List.getElem?_set_self hl) (hv v List.mem_cons_self)
    · have e2 : (L2.wipe σ vs).set v none = L2.wipe σ vs := List.set_eq_of_length_le (by rw [← S1.env.length]; omega)
      rw [e2]
      exact S2
/-- nothing is said where something is raised -/
def R.calm {α : Type} : R α → R α
  | .er _ => .no
  | r => r
theorem R.calm_ok {α : Type} {r : R α} {a : α} (h : R.calm r = .ok a) : r = .ok a := by
  cases r with
  | ok b => exact h
  | er x => cases h
  | no => cases h
@[simp] theorem R.calm_ok' {α : Type} (a : α) : R.calm (R.ok a) = .ok a := rfl
theorem R.bind_eq {α β : Type} {r : R α} {f : α → R β} {b : β} (h : r.bind f = .ok b) : ∃ a, r = .ok a ∧ f a = .ok b := by
  cases r with
  | ok a => exact ⟨a, rfl, h⟩
  | er x => cases h
  | no => cases h
def lcGo (T : Tg) (t : Env → R Bool) (e : Env → R OV) (ρ : Env) : List PV → R (List OV)
  | [] => .ok []
  | p :: ps => (tgS T p ρ).bind fun ρ1 => (R.calm (t ρ1)).bind fun b => if b = true then (R.calm (e ρ1)).bind fun o => (lcGo T t e ρ ps).bind fun os => .ok (o :: os) else lcGo T t e ρ ps
def fLc (T : Tg) (vs : List Nat) (f : Env → R (List PV)) (t : Env → R Bool) (e : Env → R OV) : Env → R OV := fun ρ => (f ρ).bind fun ps => if ps.length ≤ sizeLine then (R.calm (lcGo T t e (wipeE ρ vs) ps)).bind fun os => .ok (.own os) else .no
abbrev W0 : WX := fun _ _ _ _ => False
/-- the invariant of a comprehension: behind i items -/
structure LcI (C : Fc) (T : Tg) (t : Env → R Bool) (e : Env → R OV) (ρw : Env) (ps : List PV) (tot : List OV) (D : Addr) (H₁ H1 : Hp) (i : Nat) (H : Hp) : Prop where
  ex : ∃ H₀ Fa os osr acc, Ext H₁ H1 H₀ H ∧ H D = some (.lst acc) ∧ H₀ D = none ∧ OwnRs C.G H₀ H os acc Fa ∧ (D :: Fa).Nodup ∧ (∀ a ∈ Fa, H1 a = none ∧ H₀ a = none) ∧ acc.length ≤ i ∧ lcGo T t e ρw (ps.drop i) = .ok osr ∧ os ++ osr = tot
theorem OwnRs.snoc {G : Gc} {H₀ H : Hp} {o : OV} {v : V} {Fv : List Addr} (r : OwnR G H₀ H o v Fv) : ∀ {os : List OV} {acc : List V} {Fa : List Addr}, OwnRs G H₀ H os acc Fa → OwnRs G H₀ H (os ++ [o]) (acc ++ [v]) (Fa ++ Fv)
  | [], acc, Fa, h => by
    simp only [OwnRs] at h
    obtain ⟨h1, h2⟩ := h
    subst h1 h2
    simp only [List.nil_append, OwnRs]
    exact ⟨v, [], Fv, [], rfl, by simp, r, rfl, rfl⟩
  | q :: os, acc, Fa, h => by
    simp only [OwnRs] at h
    obtain ⟨x, ys, F1, F2, h1, h2, h3, h4⟩ := h
    subst h1 h2
    show OwnRs G H₀ H (q :: (os ++ [o])) (x :: (ys ++ [v])) _
    simp only [OwnRs]
    exact ⟨x, _, F1, F2 ++ Fv, rfl, by rw [List.append_assoc], h3, OwnRs.snoc r h4⟩
theorem lc_go {T : Tg} {vs : List Nat} {f : Env → R (List PV)} {t : Env → R Bool} {el : Env → R OV} {g : TG} (hvs : ∀ i ∈ T.slots, i ∈ vs) (hfx : ∀ i ∈ vs, fxOk C i)
    (hgo : ∀ (p : PV) (v : V) (H₀ : Hp) (F : List Addr) (ρ ρ' : Env) (σ : L2.St) (H : Hp) (Q : L2.St → Hp → Prop), SR C H₀ F ρ σ H → Rep C.G H₀ p v → tgS T p ρ = .ok ρ' → (∀ σ' F', SR C H₀ F' ρ' σ' H → (∀ vs, (∀ i ∈ T.slots, i ∈ vs) → wipe σ' vs = wipe σ vs) → Q σ' H) → g v σ H Q)
    {Q : VK} (h : tF C W (fLc T vs f t el) σ H Q) : tLc (tI C W true f) g (tTt C W0 t) (tF C W0 el) vs σ H Q := by
  rw [tF_iff] at h
  obtain ⟨H₀, F, ρ, S, h⟩ := h
  unfold fLc at h
  rw [Goes.bind] at h
  refine ⟨H₀, F, ρ, S, h.imp fun ps _ h J H1 H₁ E1 ip D hD => ?_⟩
  have ip : ItP C.G J H₁ ps := ip
  split at h
  · rename_i hlen
    rw [Goes.bind] at h
    cases q : lcGo T t el (wipeE ρ vs) ps with
    | er x => rw [q] at h; exact h.elim
    | no => rw [q] at h; exact h.elim
    | ok tot =>
      rw [q] at h
      have h : ∀ v H' H₀' Fv, Ext H₀ H H₀' H' → OwnR C.G H₀' H' (.own tot) v Fv → Fv.Nodup → (∀ a ∈ Fv, H a = none ∧ H₀' a = none) → Q v H' := h
      have D0 : H₁ D = none := Same.free E1.z hD
      have ext_D : ∀ {Ha Hb : Hp} {acc acc' : List V}, Ext H₁ H1 Ha Hb → Ha D = none → Ext H₁ H1 Ha (upd Hb D (.lst acc')) := fun {Ha Hb acc acc'} E0 hD0 => by
        refine ⟨fun b u q => ?_, E0.s0, fun b u q => ?_, E0.n⟩
        · rw [upd_ne fun z => by rw [z, hD] at q; cases q]; exact E0.s b u q
        · rw [upd_ne fun z => by rw [z, hD0] at q; cases q]; exact E0.z b u q
      refine ⟨fun i mm Hc => mm = ps.length - i ∧ i ≤ ps.length ∧ LcI C T t el (wipeE ρ vs) ps tot D H₁ H1 i Hc, ⟨ps.length, by simp, Nat.zero_le _, ⟨H₁, [], [], tot, [], ext_D (acc := []) (Ext.refl E1.z) D0, upd_same, D0, by simp [OwnRs], by simp, fun a ha => (by cases ha), by simp, by simpa using q, rfl⟩⟩, ?_⟩
      rintro i mm Hc ⟨rfl, hi, ⟨H₀c, Fa, os, osr, acc, Ec, hDc, hD0, own, nd, fr, hacc, hgo', htot⟩⟩
      have sc : Same H₁ Hc := Ec.s0.trans Ec.z
      by_cases hlt : i < ps.length
      · have hp : ps[i]? = some ps[i] := by simp [hlt]
        obtain ⟨jg, jy⟩ := ip.go i Hc _ sc hp
        refine .inr ⟨jg, fun H' => ps.length - (i + 1) = ps.length - (i + 1) ∧ i + 1 ≤ ps.length ∧ LcI C T t el (wipeE ρ vs) ps tot D H₁ H1 (i + 1) H', fun H' z => ⟨ps.length - (i + 1), by omega, z⟩, fun x H' y => ?_⟩
        obtain ⟨e1, rx⟩ := jy x H' y
        subst e1
        rw [List.drop_eq_getElem_cons hlt] at hgo'
        unfold lcGo at hgo'
        obtain ⟨ρ1, et, hgo'⟩ := R.bind_eq hgo'
        obtain ⟨b, eb, hgo'⟩ := R.bind_eq hgo'
        have eb := R.calm_ok eb
        obtain ⟨Fw, Sw⟩ := SR.wipe vs ((S.ext E1).ext Ec) hfx
        refine hgo _ x H₀c Fw _ ρ1 _ H' _ Sw (Rep.mono Ec.s0 rx) et fun σ2 F2 S2 w2 => ⟨?_, ?_⟩
        · rw [w2 vs hvs]
          apply List.ext_getElem?
          intro j
          by_cases hj : j < σ.length
          · rw [wipe_get vs _ j (by rw [wipe_length]; exact hj), wipe_get vs σ j hj]
            by_cases e : j ∈ vs
            · simp [e]
            · simp [e]
          · rw [List.getElem?_eq_none (by rw [wipe_length, wipe_length]; omega), List.getElem?_eq_none (by rw [wipe_length]; omega)]
        · rw [tT_iff]
          refine ⟨H₀c, F2, ρ1, S2, ?_⟩
          rw [eb]
          intro H3 H₃ E3
          cases b with
          | false =>
            rw [if_neg Bool.false_ne_true] at hgo'
            show if false = true then _ else _
            rw [if_neg Bool.false_ne_true]
            have mono : ∀ a ∈ Fa, H3 a = H' a := fun a ha => by
              obtain ⟨u, e⟩ := OwnRs.there own a ha
              rw [e, E3.s a u e]
            refine ⟨rfl, hlt, ⟨H₃, Fa, os, osr, acc, Ec.trans E3, E3.s _ _ hDc, by rw [E3.n D (ne_none_of hDc)]; exact hD0, OwnRs.mono E3.s0 mono own, nd, fun a ha => ⟨(fr a ha).1, ?_⟩, by omega, hgo', htot⟩⟩
            obtain ⟨u, e⟩ := OwnRs.there own a ha
            rw [E3.n a (ne_none_of e)]
            exact (fr a ha).2
          | true =>
            rw [if_pos rfl] at hgo'
            show if true = true then _ else _
            rw [if_pos rfl, tF_iff]
            obtain ⟨o, eo, hgo'⟩ := R.bind_eq hgo'
            have eo := R.calm_ok eo
            obtain ⟨osr', er, hgo'⟩ := R.bind_eq hgo'
            cases hgo'
            refine ⟨H₃, F2, ρ1, S2.ext E3, ?_⟩
            rw [eo]
            intro y H4 H₄ Fv E4 ro ndv frv
            have E34 := E3.trans E4
            have hD4 : H4 D = some (.lst acc) := E34.s _ _ hDc
            have hD40 : H₄ D = none := by rw [E34.n D (ne_none_of hDc)]; exact hD0
            have aD : ∀ a ∈ Fa, a ≠ D := fun a ha z => (List.nodup_cons.mp nd).1 (z ▸ ha)
            have vD : ∀ a ∈ Fv, a ≠ D := fun a ha z => by
              have z2 := (frv a ha).1
              rw [z, E3.s _ _ hDc] at z2
              cases z2
            have mono : ∀ a ∈ Fa, H4 a = H' a := fun a ha => by
              obtain ⟨u, e⟩ := OwnRs.there own a ha
              rw [e, E34.s a u e]
            have own4 : OwnRs C.G H₄ H4 os acc Fa := OwnRs.mono E34.s0 mono own
            have own5 := OwnRs.snoc ro own4
            have nD : ∀ a ∈ Fa ++ Fv, a ≠ D := fun a ha => (List.mem_append.mp ha).elim (aD a) (vD a)
            refine ⟨acc, hD4, by have := hlen; omega, rfl, hlt, ⟨H₄, Fa ++ Fv, os ++ [o], osr', acc ++ [y], ext_D (acc := acc) (Ec.trans E34) hD40, upd_same, hD40, OwnRs.mono (Same.refl _) (fun a ha => upd_ne (nD a ha)) own5, ?_, fun a ha => ?_, by rw [List.length_append, List.length_singleton]; omega, er, by rw [← htot, List.append_assoc]; rfl⟩⟩
            · refine List.nodup_cons.mpr ⟨fun z => nD D z rfl, List.nodup_append.mpr ⟨(List.nodup_cons.mp nd).2, ndv, fun a ha b hb e => ?_⟩⟩
              subst e
              obtain ⟨u, e⟩ := OwnRs.there own a ha
              have z2 := (frv a hb).1
              rw [E3.s a u e] at z2
              cases z2
            · rcases List.mem_append.mp ha with z | z
              · obtain ⟨u, e⟩ := OwnRs.there own a z
                exact ⟨(fr a z).1, by rw [E34.n a (ne_none_of e)]; exact (fr a z).2⟩
              · refine ⟨Same.free (Ec.s.trans E3.s) (frv a z).1, (frv a z).2⟩
      · have hie : i = ps.length := by omega
        refine .inl ⟨ip.stop i Hc sc (by omega), ?_⟩
        rw [hie, List.drop_length] at hgo'
        unfold lcGo at hgo'
        cases hgo'
        rw [List.append_nil] at htot
        subst htot
        refine h (.ref D) Hc H₀c (D :: Fa) (E1.trans Ec) (by simp only [OwnR]; exact ⟨D, acc, Fa, rfl, rfl, hDc, own⟩) nd fun a ha => ?_
        rcases List.mem_cons.mp ha with z | z
        · rw [z]; exact ⟨Same.free E1.s hD, hD0⟩
        · exact ⟨Same.free E1.s (fr a z).1, (fr a z).2⟩
  · exact h.elim
/-- a clause's tests -/
def tYesB : Env → R Bool := fun _ => .ok true
theorem PTs.imp {X : Cx} {es : List Expr} {t t' : TT} (h : PTs X es t) (k : ∀ σ H Q, t' σ H Q → t σ H Q) : PTs X es t' := ⟨fun pins s σ H Q I q => h.run pins s σ H Q I (k _ _ _ q)⟩
theorem qtsNil : PTs X [] (tTt C W0 tYesB) := PTs.imp pts_nil fun σ H Q ⟨H₀, F, ρ, S, h⟩ => h H H₀ (Ext.refl S.z)
theorem qtsOne {t : Env → R Bool} (h : QT C W0 X e t) : PTs X [e] (tTt C W0 t) := pts_one h
theorem qLc {elt iter : Expr} {ifs : List Expr} {scope : Scope} {own : List (Str × Nat)} {T : Tg} {f : Env → R (List PV)} {t : Env → R Bool} {el : Env → R OV} (hc : X.calm = true) (hN : X.N.Nodup) (hi : QI C W true X tg iter f) (ok : BlkOk X.N X.env.scope scope own) (hvs : ∀ i ∈ T.slots, i ∈ own.map (·.2)) (hfx : ∀ i ∈ own.map (·.2), fxOk C i)
    (hg : ∃ g : TG, (∀ (s : Shared) (H : Hp) (c : Addr) (cl : List (Str × Addr)) (fp : List Addr), PG (X.blk s H scope (compEnvC scope cl c X.env) fp) tg g) ∧ ∀ (p : PV) (v : V) (H₀ : Hp) (F : List Addr) (ρ ρ' : Env) (σ : L2.St) (H : Hp) (Q : L2.St → Hp → Prop), SR C H₀ F ρ σ H → Rep C.G H₀ p v → tgS T p ρ = .ok ρ' → (∀ σ' F', SR C H₀ F' ρ' σ' H → (∀ vs, (∀ i ∈ T.slots, i ∈ vs) → wipe σ' vs = wipe σ vs) → Q σ' H) → g v σ H Q)
    (ht : ∀ (s : Shared) (H : Hp) (c : Addr) (cl : List (Str × Addr)) (fp : List Addr), PTs (X.blk s H scope (compEnvC scope cl c X.env) fp) ifs (tTt C W0 t))
    (he : ∀ (s : Shared) (H : Hp) (c : Addr) (cl : List (Str × Addr)) (fp : List Addr), QF C W0 (X.blk s H scope (compEnvC scope cl c X.env) fp) elt el) (hs : ∀ x, foldedSetIterable iter X.env x = pure x := by intro _; rfl) :
    QF C W X (.ListComp elt [⟨tg, iter, ifs, 0⟩] scope pos) (fLc T (own.map (·.2)) f t el) := by
  obtain ⟨g, hg1, hg2⟩ := hg
  exact PE.imp (pe_lc hc hN hi ok hg1 ht he hs) fun σ H Q h => lc_go hvs hfx hg2 h
/-- a name as the comprehension's target -/
theorem lcName {scope : Scope} {i : Nat} {x : Str} (hx : fxOk C i) (hN : X.N.Nodup) (hi : X.N[i]? = some x) (hl : ∀ c cl, (compEnvC scope cl c X.env).scope.names.lookup x = some .local) :
    ∃ g : TG, (∀ (s : Shared) (H : Hp) (c : Addr) (cl : List (Str × Addr)) (fp : List Addr), PG (X.blk s H scope (compEnvC scope cl c X.env) fp) (.Name x pos) g) ∧ ∀ (p : PV) (v : V) (H₀ : Hp) (F : List Addr) (ρ ρ' : Env) (σ : L2.St) (H : Hp) (Q : L2.St → Hp → Prop), SR C H₀ F ρ σ H → Rep C.G H₀ p v → tgS (.nm i) p ρ = .ok ρ' → (∀ σ' F', SR C H₀ F' ρ' σ' H → (∀ vs, (∀ j ∈ (Tg.nm i).slots, j ∈ vs) → wipe σ' vs = wipe σ vs) → Q σ' H) → g v σ H Q :=
  ⟨gName i, fun s H c cl fp => pg_name hN hi (.inl (hl c cl)) (.inr (hl c cl)), fun p v H₀ F ρ ρ' σ H Q S r e k => by
    simp only [tgS] at e
    cases e
    obtain ⟨F', S'⟩ := S.sh r hx
    exact k _ F' S' fun vs hv => wipe_set (hv i (by simp [Tg.slots]))⟩
end
end L3

end
section
/-! L3. 6: calls of defs, methods, classes -/
namespace L3
open PySem PySem.Spec PyProof.Rows L2
/-! ### contracts -/
section
variable (Γ : Gc)
/-- a def's promise -/
def spP (F : List PV → R OV) : Sp := fun vs H Q E => ∃ H₀ ps, Same H₀ H ∧ Reps Γ H₀ ps vs ∧ Goes Γ (fun cls d _ H' => E cls d H') (F ps) [] H H₀ fun o =>
  ∀ v H' H₀' Fv, Ext H₀ H H₀' H' → OwnR Γ H₀' H' o v Fv → Fv.Nodup → (∀ a ∈ Fv, H a = none ∧ H₀' a = none) → Q v H'
def del (H : Hp) (x : Addr) : Hp := fun a => if a = x then none else H a
/-- an __init__'s promise: the new instance's fields -/
def spI (c : Nat) (F : List PV → R (List (Str × OV))) : Sp := fun vs H Q E => ∃ x dx ws H₀ ps, vs = .ref x :: ws ∧ H x = some (.ins (Γ.CA c) dx []) ∧ H₀ x = none ∧ Same H₀ H ∧ Reps Γ H₀ ps ws ∧ (match F ps with
  | .ok fs => ∀ H' H₀' Fv, Ext H₀ (del H x) H₀' (del H' x) → OwnR Γ H₀' H' (.obj c fs) (.ref x) Fv → Fv.Nodup → (∀ a ∈ Fv, (a = x ∨ H a = none) ∧ H₀' a = none) → Q .non H'
  | .er z => ∀ cls d H' H₀', Ext H₀ (del H x) H₀' (del H' x) → RepX Γ H₀' z cls d → E cls d H'
  | .no => False)
end
/-! ### results without lists: these may leave what is only looked at -/
mutual
def PV.flat : PV → Bool
  | .non => true
  | .bl _ => true
  | .int _ => true
  | .str _ => true
  | .lst _ => false
  | .scr _ => false
  | .tup l => PV.flats l
  | .ins _ _ => false
def PV.flats : List PV → Bool
  | [] => true
  | p :: ps => p.flat && PV.flats ps
end
def PV.flatf : List (Str × PV) → Bool
  | [] => true
  | (_, p) :: ps => p.flat && PV.flatf ps
mutual
def OV.flat : OV → Bool
  | .sh p => p.flat
  | .own l => OV.flats l
  | .obj _ fs => OV.flatf fs
def OV.flats : List OV → Bool
  | [] => true
  | o :: l => o.flat && OV.flats l
def OV.flatf : List (Str × OV) → Bool
  | [] => true
  | (_, o) :: l => o.flat && OV.flatf l
end
def capR (m : Bool) : R OV → R OV
  | .ok o => if m = true ∨ o.flat = true then .ok o else .no
  | .er x => if m = true ∨ PV.flatf x.fs = true then .er x else .no
  | .no => .no
theorem Goes.cap_ok {Γ : Gc} {W : WX} {σ : L2.St} {H H₀ : Hp} {k : OV → Prop} {m : Bool} {o : OV} (h : Goes Γ W (capR m (.ok o)) σ H H₀ k) : (m = true ∨ o.flat = true) ∧ k o := by
  have e : capR m (.ok o) = if m = true ∨ o.flat = true then .ok o else .no := rfl
  rw [e] at h
  by_cases hc : m = true ∨ o.flat = true
  · rw [if_pos hc] at h
    exact ⟨hc, h⟩
  · rw [if_neg hc] at h
    exact h.elim
theorem Goes.cap_er {Γ : Gc} {W : WX} {σ : L2.St} {H H₀ : Hp} {k : OV → Prop} {m : Bool} {x : PX} (h : Goes Γ W (capR m (.er x)) σ H H₀ k) : (m = true ∨ PV.flatf x.fs = true) ∧ ∀ cls d H' H₀', Ext H₀ H H₀' H' → RepX Γ H₀' x cls d → W cls d σ H' := by
  have e : capR m (.er x) = if m = true ∨ PV.flatf x.fs = true then .er x else .no := rfl
  rw [e] at h
  by_cases hc : m = true ∨ PV.flatf x.fs = true
  · rw [if_pos hc] at h
    exact ⟨hc, h⟩
  · rw [if_neg hc] at h
    exact h.elim
@[simp] theorem capR_true (r : R OV) : capR true r = r := by cases r <;> simp [capR]
def mask (H : Hp) (F : List Addr) : Hp := fun a => if a ∈ F then none else H a
def isLI : HO → Prop
  | .lst _ => True
  | .ins _ _ _ => True
  | _ => False
section
variable {C : Fc} {G : Gc} {m : Bool} {H₀ H Hc H' : Hp} {F : List Addr} {ρ : Env} {σ : L2.St}
theorem mask_get {a : Addr} {o : HO} (hF : ∀ a ∈ F, ∀ o, Hc a = some o → isLI o) (h : Hc a = some o) (k : ¬ isLI o) : mask Hc F a = some o := by
  unfold mask
  rw [if_neg fun z => k (hF a z o h)]
  exact h
mutual
theorem Rep.mask (hF : ∀ a ∈ F, ∀ o, Hc a = some o → isLI o) : ∀ {p : PV} {v : V}, p.flat = true → Rep G Hc p v → Rep G (mask Hc F) p v
  | .non, _, _, h => by simpa only [Rep] using h
  | .bl _, _, _, h => by simpa only [Rep] using h
  | .int _, _, _, h => by simpa only [Rep] using h
  | .str _, _, _, h => by simpa only [Rep] using h
  | .lst _, _, e, _ => by simp [PV.flat] at e
  | .scr _, _, e, _ => by simp [PV.flat] at e
  | .tup l, v, e, h => by
    simp only [PV.flat] at e
    simp only [Rep] at h ⊢
    obtain ⟨a, xs, h1, h2, h3⟩ := h
    refine ⟨a, xs, h1, ?_, Reps.mask hF e h3⟩
    rcases h2 with (h2 | ⟨o, h2⟩) | h2
    · exact .inl (.inl (mask_get hF h2 id))
    · exact .inl (.inr ⟨o, mask_get hF h2 id⟩)
    · exact .inr h2
  | .ins _ _, _, e, _ => by simp [PV.flat] at e
theorem Reps.mask (hF : ∀ a ∈ F, ∀ o, Hc a = some o → isLI o) : ∀ {ps : List PV} {vs : List V}, PV.flats ps = true → Reps G Hc ps vs → Reps G (mask Hc F) ps vs
  | [], _, _, h => by simpa only [Reps] using h
  | p :: ps, vs, e, h => by
    simp only [PV.flats, Bool.and_eq_true] at e
    simp only [Reps] at h ⊢
    obtain ⟨x, ys, h1, h2, h3⟩ := h
    exact ⟨x, ys, h1, Rep.mask hF e.1 h2, Reps.mask hF e.2 h3⟩
end
theorem RepF.mask (hF : ∀ a ∈ F, ∀ o, Hc a = some o → isLI o) : ∀ {ps : List (Str × PV)} {vs : List (Str × V)}, PV.flatf ps = true → RepF G Hc ps vs → RepF G (mask Hc F) ps vs
  | [], _, _, h => by simpa only [RepF] using h
  | (f, p) :: ps, vs, e, h => by
    simp only [PV.flatf, Bool.and_eq_true] at e
    simp only [RepF] at h ⊢
    obtain ⟨x, ys, h1, h2, h3⟩ := h
    exact ⟨x, ys, h1, Rep.mask hF e.1 h2, RepF.mask hF e.2 h3⟩
mutual
theorem OwnR.mask (hF : ∀ a ∈ F, ∀ o, Hc a = some o → isLI o) : ∀ {o : OV} {v : V} {Fv : List Addr}, o.flat = true → OwnR G Hc H o v Fv → OwnR G (mask Hc F) H o v Fv
  | .sh p, v, Fv, e, h => by
    simp only [OV.flat] at e
    simp only [OwnR] at h ⊢
    exact ⟨Rep.mask hF e h.1, h.2⟩
  | .own l, v, Fv, e, h => by
    simp only [OV.flat] at e
    simp only [OwnR] at h ⊢
    obtain ⟨a, xs, F', h1, h2, h3, h4⟩ := h
    exact ⟨a, xs, F', h1, h2, h3, OwnRs.mask hF e h4⟩
  | .obj c fs, v, Fv, e, h => by
    simp only [OV.flat] at e
    simp only [OwnR] at h ⊢
    obtain ⟨a, dx, vs, F', h1, h2, h3, h4⟩ := h
    exact ⟨a, dx, vs, F', h1, h2, h3, OwnRf.mask hF e h4⟩
theorem OwnRs.mask (hF : ∀ a ∈ F, ∀ o, Hc a = some o → isLI o) : ∀ {l : List OV} {xs : List V} {Fv : List Addr}, OV.flats l = true → OwnRs G Hc H l xs Fv → OwnRs G (mask Hc F) H l xs Fv
  | [], xs, Fv, _, h => by simpa only [OwnRs] using h
  | o :: l, xs, Fv, e, h => by
    simp only [OV.flats, Bool.and_eq_true] at e
    simp only [OwnRs] at h ⊢
    obtain ⟨x, ys, F1, F2, h1, h2, h3, h4⟩ := h
    exact ⟨x, ys, F1, F2, h1, h2, OwnR.mask hF e.1 h3, OwnRs.mask hF e.2 h4⟩
theorem OwnRf.mask (hF : ∀ a ∈ F, ∀ o, Hc a = some o → isLI o) : ∀ {l : List (Str × OV)} {xs : List (Str × V)} {Fv : List Addr}, OV.flatf l = true → OwnRf G Hc H l xs Fv → OwnRf G (mask Hc F) H l xs Fv
  | [], xs, Fv, _, h => by simpa only [OwnRf] using h
  | (f, o) :: l, xs, Fv, e, h => by
    simp only [OV.flatf, Bool.and_eq_true] at e
    simp only [OwnRf] at h ⊢
    obtain ⟨x, ys, F1, F2, h1, h2, h3, h4⟩ := h
    exact ⟨x, ys, F1, F2, h1, h2, OwnR.mask hF e.1 h3, OwnRf.mask hF e.2 h4⟩
end
mutual
theorem OwnR.kind : ∀ {o : OV} {v : V} {F : List Addr}, OwnR G H₀ H o v F → ∀ a ∈ F, ∃ u, H a = some u ∧ isLI u
  | .sh p, v, F, h, a, ha => by simp only [OwnR] at h; rw [h.2] at ha; cases ha
  | .own l, v, F, h, a, ha => by
    simp only [OwnR] at h
    obtain ⟨b, xs, F', h1, h2, h3, h4⟩ := h
    subst h2
    rcases List.mem_cons.mp ha with e | ha
    · rw [e]; exact ⟨_, h3, trivial⟩
    · exact OwnRs.kind h4 a ha
  | .obj c fs, v, F, h, a, ha => by
    simp only [OwnR] at h
    obtain ⟨b, dx, vs, F', h1, h2, h3, h4⟩ := h
    subst h2
    rcases List.mem_cons.mp ha with e | ha
    · rw [e]; exact ⟨_, h3, trivial⟩
    · exact OwnRf.kind h4 a ha
theorem OwnRs.kind : ∀ {l : List OV} {xs : List V} {F : List Addr}, OwnRs G H₀ H l xs F → ∀ a ∈ F, ∃ u, H a = some u ∧ isLI u
  | [], xs, F, h, a, ha => by simp only [OwnRs] at h; rw [h.2] at ha; cases ha
  | o :: l, xs, F, h, a, ha => by
    simp only [OwnRs] at h
    obtain ⟨x, ys, F1, F2, h1, h2, h3, h4⟩ := h
    subst h2
    rcases List.mem_append.mp ha with ha | ha
    · exact OwnR.kind h3 a ha
    · exact OwnRs.kind h4 a ha
theorem OwnRf.kind : ∀ {l : List (Str × OV)} {xs : List (Str × V)} {F : List Addr}, OwnRf G H₀ H l xs F → ∀ a ∈ F, ∃ u, H a = some u ∧ isLI u
  | [], xs, F, h, a, ha => by simp only [OwnRf] at h; rw [h.2] at ha; cases ha
  | (f, o) :: l, xs, F, h, a, ha => by
    simp only [OwnRf] at h
    obtain ⟨x, ys, F1, F2, h1, h2, h3, h4⟩ := h
    subst h2
    rcases List.mem_append.mp ha with ha | ha
    · exact OwnR.kind h3 a ha
    · exact OwnRf.kind h4 a ha
end
theorem EnvR.kind : ∀ {ρ : Env} {σ : L2.St} {F : List Addr}, EnvR G H₀ H ρ σ F → ∀ a ∈ F, ∃ u, H a = some u ∧ isLI u
  | [], σ, F, h, a, ha => by rw [h.2] at ha; cases ha
  | none :: ρ, σ, F, h, a, ha => by
    obtain ⟨x, τ, h1, h2⟩ := h
    exact EnvR.kind h2 a ha
  | some o :: ρ, σ, F, h, a, ha => by
    obtain ⟨v, τ, F1, F2, h1, h2, h3, h4⟩ := h
    subst h2
    rcases List.mem_append.mp ha with ha | ha
    · exact OwnR.kind h3 a ha
    · exact EnvR.kind h4 a ha
/-- behind a call: what the callee froze is frozen, what is owned is owned again -/
theorem cap (S : SR C H₀ F ρ σ H) (E : Ext (md m H₀ H F) H Hc H') : ∃ H₀', Ext H₀ H H₀' H' ∧ (∀ o v Fv, (m = true ∨ o.flat = true) → OwnR C.G Hc H' o v Fv → OwnR C.G H₀' H' o v Fv) ∧
    (∀ x cls d, (m = true ∨ PV.flatf x.fs = true) → RepX C.G Hc x cls d → RepX C.G H₀' x cls d) ∧ (∀ a, Hc a = none → H₀' a = none) := by
  cases m with
  | true => exact ⟨Hc, E, fun o v Fv _ r => r, fun x cls d _ r => r, fun a h => h⟩
  | false =>
    have E : Ext (vw H₀ H F) H Hc H' := E
    have hF : ∀ a ∈ F, ∀ o, Hc a = some o → isLI o := fun a ha o e => by
      obtain ⟨u, e1, e2⟩ := S.env.kind a ha
      rw [E.n a (ne_none_of e1)] at e
      unfold vw at e
      rw [if_pos ha, e1] at e
      cases e
      exact e2
    refine ⟨mask Hc F, ⟨E.s, fun a o e => ?_, fun a o e => ?_, fun a ha => ?_⟩, fun o v Fv h r => ?_, fun x cls d h r => ?_, fun a h => ?_⟩
    · have na : a ∉ F := fun z => by rw [(S.fr a z).2] at e; cases e
      unfold mask
      rw [if_neg na]
      refine E.s0 a o ?_
      unfold vw
      rw [if_neg na]
      exact e
    · unfold mask at e
      split at e
      · cases e
      · exact E.z a o e
    · unfold mask
      split
      · rename_i z
        exact (S.fr a z).2.symm
      · rename_i z
        rw [E.n a ha]
        unfold vw
        rw [if_neg z]
    · exact OwnR.mask hF (h.resolve_left Bool.false_ne_true) r
    · obtain ⟨r1, r2⟩ := r
      refine ⟨r1, r2.imp id ?_⟩
      rintro ⟨dd, vs, e1, e2, e3⟩
      exact ⟨dd, vs, e1, mask_get hF e2 id, RepF.mask hF (h.resolve_left Bool.false_ne_true) e3⟩
    · unfold mask
      split
      · rfl
      · exact h
end
/-! ### calls -/
section
variable {C : Fc} {W : WX} {m : Bool} {X : Cx} {o e : Expr} {es : List Expr} {p pos apos : Pos} {σ : L2.St} {H H₀ : Hp} {ρ : Env} {x mth : Str} {k c : Nat} {f Ca : Addr} {fd : FuncData} {ns : List Str} {dvs : List V} {ds : List Value} {dps : List PV}
  {fo : Env → R PV} {fas : Env → R (List PV)} {Fn : List PV → R OV} {FI : List PV → R (List (Str × OV))}
theorem Reps.snoc_all {G : Gc} {Hv : Hp} {ps : List PV} {vs : List V} (r : Reps G Hv ps vs) (hp : ∀ H, Reps G H dps dvs) : Reps G Hv (ps ++ dps) (vs ++ dvs) := r.append (hp _)
theorem call_go {F : List Addr} {qs : List PV} {vs : List V} {Q : VK} (S : SR C H₀ F ρ σ H) (r : Reps C.G (md m H₀ H F) qs vs)
    (h : Goes C.G W (capR m (Fn qs)) σ H H₀ fun o => ∀ v H' H₀' Fv, Ext H₀ H H₀' H' → OwnR C.G H₀' H' o v Fv → Fv.Nodup → (∀ a ∈ Fv, H a = none ∧ H₀' a = none) → Q v H') : spP C.G Fn vs H Q (WE W σ) := by
  refine ⟨md m H₀ H F, qs, md_H S.z, r, ?_⟩
  cases q : Fn qs with
  | ok o =>
    rw [q] at h
    obtain ⟨hc, h⟩ := h.cap_ok
    intro v H' Hc Fv E ro nd fr
    obtain ⟨H₀', E', c1, c2, c3⟩ := cap S E
    exact h v H' H₀' Fv E' (c1 _ _ _ hc ro) nd fun a ha => ⟨(fr a ha).1, c3 a (fr a ha).2⟩
  | er z =>
    rw [q] at h
    obtain ⟨hc, h⟩ := h.cap_er
    intro cls d H' Hc E rx
    obtain ⟨H₀', E', c1, c2, c3⟩ := cap S E
    exact h cls d H' H₀' E' (c2 _ _ _ hc rx)
  | no =>
    rw [q] at h
    exact h.elim
def fCall (m : Bool) (Fn : List PV → R OV) (dps : List PV) (fas : Env → R (List PV)) : Env → R OV := fun ρ => (fas ρ).bind fun ps => capR m (Fn (ps ++ dps))
theorem qCall (Fo : FnOk X.prog X.w X.K X.mg X.base (L2N.CX X.prog X.w) k f fd ns (spP C.G Fn)) (hr : Room k X.A) (tk : L2N.Takes X W) (hm : X.mg x = some (.ref f)) (hk : PySem.W.keepIn X.K (.ref f) = true) (hb : Binds X.K fd ns ds) (hd : Vals dvs ds) (hp : ∀ H, Reps C.G H dps dvs)
    (ha : QA C W m X (e :: es) fas) (hg : Gl X x := by rfl) (hdb : (x == ("__debug__" : Str)) = false := by decide) (he : starEach (e :: es) X.env = (false, eval e X.env) :: starEach es X.env := by rfl) (hpl : (backTo pos (starEach es X.env)).any (·.1) = false := by rfl) :
    QF C W X (.Call (.Name x p) (e :: es) [] pos) (fCall m Fn dps fas) := by
  refine PE.imp (pe_callSD Fo hr hg hm hk hb hd (fun σ => L2N.passAt tk σ) ha hdb he hpl) fun σ H Q h => ?_
  show tAs C W m fas σ H fun vs H1 => spP C.G Fn (vs ++ dvs) H1 Q (WE W σ)
  rw [tF_iff] at h
  rw [tA_iff]
  obtain ⟨H₀, F, ρ, S, h⟩ := h
  unfold fCall at h
  rw [Goes.bind] at h
  refine ⟨H₀, F, ρ, S, h.imp fun ps _ h vs H1 H₁ E1 r1 => ?_⟩
  refine call_go (S.ext E1) (r1.append (hp _)) ((h.later E1).imp fun o _ h v H' H₀' Fv E ro nd fr => h v H' H₀' Fv (E1.trans E) ro nd fun a ha => ⟨Same.free E1.s (fr a ha).1, (fr a ha).2⟩)
theorem qCall0 (Fo : FnOk X.prog X.w X.K X.mg X.base (L2N.CX X.prog X.w) k f fd ns (spP C.G Fn)) (hr : Room k X.A) (tk : L2N.Takes X W) (hm : X.mg x = some (.ref f)) (hk : PySem.W.keepIn X.K (.ref f) = true) (hb : Binds X.K fd ns ds) (hd : Vals dvs ds) (hp : ∀ H, Reps C.G H dps dvs)
    (hg : Gl X x := by rfl) (hdb : (x == ("__debug__" : Str)) = false := by decide) : QF C W X (.Call (.Name x p) [] [] pos) (fCall true Fn dps aNil) := by
  refine ⟨fun pins s σ H Q I h => ?_⟩
  refine wpAny_Call_Name_kw (ld_glob I hg hm ?_ hdb)
  refine PySem.W.callWith_K0 I.kIn hk (run_fnSD (us := []) (vs := []) (E := WE W) Fo hr hb hd (L2N.passAt tk σ) I .nil ?_)
  rw [tF_iff] at h
  obtain ⟨H₀, F, ρ, S, h⟩ := h
  unfold fCall aNil at h
  rw [R.bind_ok] at h
  exact call_go (m := true) (qs := [] ++ dps) (vs := [] ++ dvs) S (Reps.nil.append (hp _)) h
/-! methods -/
def tMethS (Ca : Addr) (mth : Str) (sp : Sp) (dvs : List V) (E : L2.St → XK) (ta : TE) (t : TA) : TE := fun σ H Q => ta σ H fun x H1 => ∃ a dx fs, x = .ref a ∧ H1 a = some (.ins Ca dx fs) ∧ fs.lookup mth = none ∧ t σ H1 fun vs H2 => sp (x :: (vs ++ dvs)) H2 Q (E σ)
section
variable {CX : CXT} {sp : Sp} {E : L2.St → XK} {ta : TE} {t : TA}
theorem pe_methS {pl : Sem Bool} (he : PE X o ta) (c : Cls X.K Ca) (hm : Meth X.K Ca mth f) (F : FnOk X.prog X.w X.K X.mg X.base CX k f fd ns sp) (hr : Room k X.A) (hb : Binds X.K fd ns ds) (hd : Vals dvs ds) (hx : ∀ σ, PassesAt CX X σ (E σ)) (ha : PA X (e :: es) t)
    (hst : starEach (e :: es) X.env = (false, eval e X.env) :: starEach es X.env := by rfl) (hpl : (backTo pos (starEach es X.env)).any (·.1) = false := by rfl)
    (ht : eval (.Call (.Attribute o mth apos) (e :: es) [] pos) X.env = (do
      let ov ← eval o X.env
      standAt apos.atName
      let (f, first) ← holding [ov] (getMethod ov mth pl)
      callWith pos f first (backTo pos (starEach (e :: es) X.env)) (backToKw pos (keywordEach [] X.env))) := by rfl) :
    PE X (.Call (.Attribute o mth apos) (e :: es) [] pos) (tMethS Ca mth sp dvs E ta t) := by
  refine ⟨fun pins s σ H Q I h => ?_⟩
  refine PySem.W.methodCall_KW (pl := pl) (thn (he.run pins s σ H _ I h) fun u s1 ⟨x, H1, I1, rx, a, dx, fs, ex, ea, l, q⟩ => ?_) ht
  subst ex
  obtain rfl : u = Value.ref a := rx
  refine getmeth_ok I1 ea c hm l ?_
  refine PySem.W.callWith_K (first := [.ref a]) (h₀ := X.base) I.ok.mod.kin hm.kp (thn (ha.run pos pins s1 σ H1 _ I1 q) fun us s2 ⟨vs, H2, I2, r, q2⟩ => ⟨I2.kIn, ?_⟩) hst hpl
  exact run_fnSD (us := .ref a :: us) (vs := .ref a :: vs) F hr hb hd (hx σ) I2 (.cons rfl r) q2
theorem pe_methS0 {pl : Sem Bool} (he : PE X o ta) (c : Cls X.K Ca) (hm : Meth X.K Ca mth f) (F : FnOk X.prog X.w X.K X.mg X.base CX k f fd ns sp) (hr : Room k X.A) (hb : Binds X.K fd ns ds) (hd : Vals dvs ds) (hx : ∀ σ, PassesAt CX X σ (E σ))
    (ht : eval (.Call (.Attribute o mth apos) [] [] pos) X.env = (do
      let ov ← eval o X.env
      standAt apos.atName
      let (f, first) ← holding [ov] (getMethod ov mth pl)
      callWith pos f first (backTo pos (starEach [] X.env)) (backToKw pos (keywordEach [] X.env))) := by rfl) :
    PE X (.Call (.Attribute o mth apos) [] [] pos) (tMethS Ca mth sp dvs E ta tNil) := by
  refine ⟨fun pins s σ H Q I h => ?_⟩
  refine PySem.W.methodCall_KW (pl := pl) (thn (he.run pins s σ H _ I h) fun u s1 ⟨x, H1, I1, rx, a, dx, fs, ex, ea, l, q⟩ => ?_) ht
  subst ex
  obtain rfl : u = Value.ref a := rx
  refine getmeth_ok I1 ea c hm l ?_
  exact PySem.W.callWith_K0 (first := [.ref a]) I1.kIn hm.kp (run_fnSD (us := [.ref a]) (vs := [.ref a]) F hr hb hd (hx σ) I1 (.cons rfl .nil) q)
end
def fMeth (m : Bool) (c : Nat) (mth : Str) (Fn : List PV → R OV) (dps : List PV) (fo : Env → R PV) (fas : Env → R (List PV)) : Env → R OV := fun ρ => (fo ρ).bind fun p => match p with
  | .ins c' fs => if c' = c ∧ fs.lookup mth = none then (fas ρ).bind fun ps => capR m (Fn (.ins c' fs :: (ps ++ dps))) else .no
  | _ => .no
theorem meth_go {t : TA} (ht : t = tAs C W m fas ∨ (t = tNil ∧ fas = aNil)) (hp : ∀ H, Reps C.G H dps dvs) {Q : VK} (h : tF C W (fMeth m c mth Fn dps fo fas) σ H Q) : tMethS (C.G.CA c) mth (spP C.G Fn) dvs (WE W) (tE C W m fo) t σ H Q := by
  show tE C W m fo σ H fun x H1 => ∃ a dx fs, x = .ref a ∧ H1 a = some (.ins (C.G.CA c) dx fs) ∧ fs.lookup mth = none ∧ t σ H1 fun vs H2 => spP C.G Fn (x :: (vs ++ dvs)) H2 Q (WE W σ)
  rw [tF_iff] at h
  rw [tE_iff]
  obtain ⟨H₀, F, ρ, S, h⟩ := h
  unfold fMeth at h
  rw [Goes.bind] at h
  refine ⟨H₀, F, ρ, S, h.imp fun p _ hb v H1 H₁ E1 r1 => ?_⟩
  clear h
  cases p with
  | ins c' fs =>
    dsimp only at hb
    by_cases hc : c' = c ∧ fs.lookup mth = none
    · rw [if_pos hc] at hb
      obtain ⟨hc1, hc2⟩ := hc
      subst hc1
      have r1' := r1
      simp only [Rep] at r1'
      obtain ⟨a, dx, vs, e1, e2, e3⟩ := r1'
      have S1 := S.ext E1
      refine ⟨a, dx, vs, e1, md_H S1.z _ _ e2, e3.none_of hc2, ?_⟩
      rw [Goes.bind] at hb
      rcases ht with rfl | ⟨rfl, rfl⟩
      · rw [tA_iff]
        refine ⟨H₁, F, ρ, S1, (hb.later E1).imp fun ps _ h ws H2 H₂ E2 r2 => ?_⟩
        have E12 := E1.trans E2
        refine call_go (S1.ext E2) (Reps.cons (Rep.mono (md_ext E2) r1) (r2.append (hp _))) ((h.later E12).imp fun o _ h v H' H₀' Fv E ro nd fr => h v H' H₀' Fv (E12.trans E) ro nd fun a ha => ⟨Same.free E12.s (fr a ha).1, (fr a ha).2⟩)
      · have hb : Goes C.G W (capR m (Fn (.ins c' fs :: ([] ++ dps)))) σ H H₀ fun o => ∀ v H' H₀' Fv, Ext H₀ H H₀' H' → OwnR C.G H₀' H' o v Fv → Fv.Nodup → (∀ a ∈ Fv, H a = none ∧ H₀' a = none) → Q v H' := hb
        refine call_go S1 (qs := .ins c' fs :: ([] ++ dps)) (vs := v :: ([] ++ dvs)) (Reps.cons r1 (Reps.nil.append (hp _))) ((hb.later E1).imp fun o _ h v H' H₀' Fv E ro nd fr => h v H' H₀' Fv (E1.trans E) ro nd fun a ha => ⟨Same.free E1.s (fr a ha).1, (fr a ha).2⟩)
    · rw [if_neg hc] at hb
      exact hb.elim
  | _ => exact (show False from hb).elim
theorem qMeth {pl : Sem Bool} (Fo : FnOk X.prog X.w X.K X.mg X.base (L2N.CX X.prog X.w) k f fd ns (spP C.G Fn)) (hc : Cls X.K (C.G.CA c)) (hm : Meth X.K (C.G.CA c) mth f) (hr : Room k X.A) (tk : L2N.Takes X W) (hb : Binds X.K fd ns ds) (hd : Vals dvs ds) (hp : ∀ H, Reps C.G H dps dvs)
    (ho : QE C W m X o fo) (ha : QA C W m X (e :: es) fas)
    (hst : starEach (e :: es) X.env = (false, eval e X.env) :: starEach es X.env := by rfl) (hpl : (backTo pos (starEach es X.env)).any (·.1) = false := by rfl)
    (ht : eval (.Call (.Attribute o mth apos) (e :: es) [] pos) X.env = (do
      let ov ← eval o X.env
      standAt apos.atName
      let (f, first) ← holding [ov] (getMethod ov mth pl)
      callWith pos f first (backTo pos (starEach (e :: es) X.env)) (backToKw pos (keywordEach [] X.env))) := by rfl) :
    QF C W X (.Call (.Attribute o mth apos) (e :: es) [] pos) (fMeth m c mth Fn dps fo fas) :=
  PE.imp (pe_methS (E := WE W) (dvs := dvs) ho hc hm Fo hr hb hd (fun σ => L2N.passAt tk σ) ha hst hpl ht) fun σ H Q h => meth_go (.inl rfl) hp h
theorem qMeth0 {pl : Sem Bool} (Fo : FnOk X.prog X.w X.K X.mg X.base (L2N.CX X.prog X.w) k f fd ns (spP C.G Fn)) (hc : Cls X.K (C.G.CA c)) (hm : Meth X.K (C.G.CA c) mth f) (hr : Room k X.A) (tk : L2N.Takes X W) (hb : Binds X.K fd ns ds) (hd : Vals dvs ds) (hp : ∀ H, Reps C.G H dps dvs)
    (ho : QE C W m X o fo)
    (ht : eval (.Call (.Attribute o mth apos) [] [] pos) X.env = (do
      let ov ← eval o X.env
      standAt apos.atName
      let (f, first) ← holding [ov] (getMethod ov mth pl)
      callWith pos f first (backTo pos (starEach [] X.env)) (backToKw pos (keywordEach [] X.env))) := by rfl) :
    QF C W X (.Call (.Attribute o mth apos) [] [] pos) (fMeth m c mth Fn dps fo aNil) :=
  PE.imp (pe_methS0 (E := WE W) (dvs := dvs) ho hc hm Fo hr hb hd (fun σ => L2N.passAt tk σ) ht) fun σ H Q h => meth_go (.inr ⟨rfl, rfl⟩) hp h
/-! classes -/
def tMakeS (Ca : Addr) (sp : Sp) (dvs : List V) (E : L2.St → XK) (t : TA) : TE := fun σ H Q => t σ H fun vs H1 => ∀ x dx, H1 x = none → H1 dx = none → dx ≠ x →
  sp (.ref x :: (vs ++ dvs)) (upd (upd H1 dx (.own x)) x (.ins Ca dx [])) (fun v H2 => v = .non ∧ Q (.ref x) H2) (E σ)
section
variable {CX : CXT} {sp : Sp} {E : L2.St → XK} {t : TA}
theorem run_makeS {pins : List (Addr × Obj)} {s : Shared} {Q : VK} {us : List Value} {vs : List V} (M : Mk X.K Ca f) (F : FnOk X.prog X.w X.K X.mg X.base CX k f fd ns sp) (hr : Room (k + 1) X.A) (hb : Binds X.K fd ns ds) (hd : Vals dvs ds)
    (hx : PassesAt CX X σ (E σ)) (I : Inv X pins σ H s) (r : Vals vs us)
    (h : ∀ x dx, H x = none → H dx = none → dx ≠ x → sp (.ref x :: (vs ++ dvs)) (upd (upd H dx (.own x)) x (.ins Ca dx [])) (fun v H2 => v = .non ∧ Q (.ref x) H2) (E σ)) :
    wpAny (model X.prog X.w) X.A (call (.ref Ca) us) (EP X pins σ Q) X.xe s := by
  have hq := h (s.heap.objs.size + 1) s.heap.objs.size (I.hok.fresh (Nat.le_succ _)) (I.hok.fresh (Nat.le_refl _)) (Nat.ne_of_lt (Nat.lt_succ_self _))
  have I2 := Inv.made (C := Ca) I
  have r2 : Vals (V.ref (s.heap.objs.size + 1) :: (vs ++ dvs)) (Value.ref (s.heap.objs.size + 1) :: (us ++ ds)) := .cons rfl (r.append hd)
  have hl : (Value.ref (s.heap.objs.size + 1) :: us ++ ds).length = ns.length := by
    have e := r2.length
    rw [F.len _ _ _ _ hq] at e
    exact e.symm
  refine wpAny_call (make_map (f := f) I.kIn M.makes M.init (beq_iff_eq.mp M.fn) (codeAny_mono (F.run _ X.stack _ _ ⟨Value.ref (s.heap.objs.size + 1) :: us, []⟩ (Value.ref (s.heap.objs.size + 1) :: (us ++ ds)) _ _ (E σ) (hr.make Ca us [])
    (I2.env0.make Ca us []) (hb _ (Value.ref (s.heap.objs.size + 1) :: us) I2.kIn hl) r2 hq) fun r s' hq' => ?_))
  cases r with
  | error e => exact hx pins _ _ e s' I2 hq'
  | ok fl =>
    cases fl with
    | ret u =>
      obtain ⟨v, H', I3, rv, ev, q3⟩ := I2.after hq'
      subst ev
      exact ⟨rv, ⟨V.ref (s.heap.objs.size + 1), H', I3, rfl, q3⟩⟩
    | next => exact False.elim hq'
    | brk => exact False.elim hq'
    | cont => exact False.elim hq'
theorem pe_makeS (M : Mk X.K Ca f) (F : FnOk X.prog X.w X.K X.mg X.base CX k f fd ns sp) (hr : Room (k + 1) X.A) (hg : Gl X x) (hm : X.mg x = some (.ref Ca)) (hb : Binds X.K fd ns ds) (hd : Vals dvs ds) (hx : ∀ σ, PassesAt CX X σ (E σ))
    (ha : PA X (e :: es) t) (hdb : (x == ("__debug__" : Str)) = false := by decide) (he : starEach (e :: es) X.env = (false, eval e X.env) :: starEach es X.env := by rfl) (hpl : (backTo pos (starEach es X.env)).any (·.1) = false := by rfl) :
    PE X (.Call (.Name x p) (e :: es) [] pos) (tMakeS Ca sp dvs E t) := by
  refine ⟨fun pins s σ H Q I h => ?_⟩
  refine wpAny_Call_Name_kw (ld_glob I hg hm ?_ hdb)
  refine PySem.W.callWith_K (h₀ := X.base) I.ok.mod.kin M.kp (thn (ha.run pos pins s σ H _ I h) fun us s1 ⟨vs, H1, I1, r, q⟩ => ⟨I1.kIn, ?_⟩) he hpl
  exact run_makeS M F hr hb hd (hx σ) I1 r q
end
def fMake (m : Bool) (c : Nat) (FI : List PV → R (List (Str × OV))) (dps : List PV) (fas : Env → R (List PV)) : Env → R OV := fun ρ => (fas ρ).bind fun ps => capR m ((FI (ps ++ dps)).bind fun fs => .ok (.obj c fs))
theorem make_ext {x dx : Addr} {Ca : Addr} {H₀ H H₀' H' : Hp} (hx : H x = none) (hdx : H dx = none) (ne : dx ≠ x) (E : Ext H₀ (del (upd (upd H dx (.own x)) x (.ins Ca dx [])) x) H₀' (del H' x)) (hz : Same H₀ H) : Ext H₀ H H₀' H' := by
  have de : ∀ a, a ≠ x → a ≠ dx → del (upd (upd H dx (.own x)) x (.ins Ca dx [])) x a = H a := fun a h1 h2 => by
    unfold del
    rw [if_neg h1, upd_ne h1, upd_ne h2]
  have dn : ∀ a o, H a = some o → a ≠ x ∧ a ≠ dx := fun a o e => ⟨fun z => (by rw [z, hx] at e; cases e), fun z => (by rw [z, hdx] at e; cases e)⟩
  have un : ∀ a o, del H' x a = some o → H' a = some o := fun a o e => by
    unfold del at e
    split at e
    · cases e
    · exact e
  refine ⟨fun a o e => ?_, E.s0, fun a o e => un a o (E.z a o e), fun a ha => ?_⟩
  · obtain ⟨n1, n2⟩ := dn a o e
    exact un a o (E.s a o (by rw [de a n1 n2]; exact e))
  · refine E.n a ?_
    cases e : H a with
    | none => exact absurd e ha
    | some o =>
      obtain ⟨n1, n2⟩ := dn a o e
      rw [de a n1 n2, e]
      exact fun z => nomatch z
theorem qMake (Fo : FnOk X.prog X.w X.K X.mg X.base (L2N.CX X.prog X.w) k f fd ns (spI C.G c FI)) (M : Mk X.K (C.G.CA c) f) (hr : Room (k + 1) X.A) (tk : L2N.Takes X W) (hm : X.mg x = some (.ref (C.G.CA c))) (hb : Binds X.K fd ns ds) (hd : Vals dvs ds) (hp : ∀ H, Reps C.G H dps dvs)
    (ha : QA C W m X (e :: es) fas) (hg : Gl X x := by rfl) (hdb : (x == ("__debug__" : Str)) = false := by decide) (he : starEach (e :: es) X.env = (false, eval e X.env) :: starEach es X.env := by rfl) (hpl : (backTo pos (starEach es X.env)).any (·.1) = false := by rfl) :
    QF C W X (.Call (.Name x p) (e :: es) [] pos) (fMake m c FI dps fas) := by
  refine PE.imp (pe_makeS (E := WE W) M Fo hr hg hm hb hd (fun σ => L2N.passAt tk σ) ha hdb he hpl) fun σ H Q h => ?_
  show tAs C W m fas σ H fun vs H1 => ∀ x dx, H1 x = none → H1 dx = none → dx ≠ x → spI C.G c FI (.ref x :: (vs ++ dvs)) (upd (upd H1 dx (.own x)) x (.ins (C.G.CA c) dx [])) (fun v H2 => v = .non ∧ Q (.ref x) H2) (WE W σ)
  rw [tF_iff] at h
  rw [tA_iff]
  obtain ⟨H₀, F, ρ, S, h⟩ := h
  unfold fMake at h
  rw [Goes.bind] at h
  refine ⟨H₀, F, ρ, S, h.imp fun ps _ h vs H1 H₁ E1 r1 x dx hx hdx ne => ?_⟩
  have S1 := S.ext E1
  have zm : Same (md m H₁ H1 F) H1 := md_H S1.z
  refine ⟨x, dx, vs ++ dvs, md m H₁ H1 F, ps ++ dps, rfl, upd_same, Same.free zm hx, fun a o q => ?_, r1.append (hp _), ?_⟩
  · have n1 : a ≠ x := fun z => by rw [z, Same.free zm hx] at q; cases q
    have n2 : a ≠ dx := fun z => by rw [z, Same.free zm hdx] at q; cases q
    rw [upd_ne n1, upd_ne n2]
    exact zm a o q
  · cases q : FI (ps ++ dps) with
    | ok fs =>
      rw [q, R.bind_ok] at h
      obtain ⟨hc, h⟩ := h.cap_ok
      intro H' Hc Fv E ro nd fr
      have E2 := make_ext hx hdx ne E zm
      obtain ⟨H₀', E', c1, c2, c3⟩ := cap S1 E2
      refine ⟨rfl, h _ H' H₀' Fv (E1.trans E') (c1 _ _ _ hc ro) nd fun a ha => ⟨?_, c3 a (fr a ha).2⟩⟩
      refine Same.free E1.s ?_
      rcases (fr a ha).1 with z | z
      · rw [z]; exact hx
      · by_cases n1 : a = x
        · rw [n1]; exact hx
        · rw [upd_ne n1] at z
          by_cases n2 : a = dx
          · rw [n2]; exact hdx
          · rw [upd_ne n2] at z
            exact z
    | er z =>
      rw [q, R.bind_er] at h
      obtain ⟨hc, h⟩ := h.cap_er
      intro cls d H' Hc E rx
      have E2 := make_ext hx hdx ne E zm
      obtain ⟨H₀', E', c1, c2, c3⟩ := cap S1 E2
      exact h cls d H' H₀' (E1.trans E') (c2 _ _ _ hc rx)
    | no =>
      rw [q] at h
      exact h.elim
end
end L3

end
section
/-! L3. 7: statements -/
namespace L3
open PySem PySem.Spec PyProof.Rows L2
/-- how a block ends -/
inductive RS where
  | nx (ρ : Env) | rt (o : OV) | bk (ρ : Env) | ct (ρ : Env) | er (x : PX) (ρ : Env) | no
def R.to {α : Type} (r : R α) (ρ : Env) (k : α → RS) : RS := match r with
  | .ok a => k a
  | .er x => .er x ρ
  | .no => .no
@[simp] theorem R.to_ok {α : Type} (a : α) (ρ : Env) (k : α → RS) : (R.ok a).to ρ k = k a := rfl
@[simp] theorem R.to_er {α : Type} (x : PX) (ρ : Env) (k : α → RS) : (R.er x).to ρ k = .er x ρ := rfl
@[simp] theorem R.to_no {α : Type} (ρ : Env) (k : α → RS) : (R.no).to ρ k = .no := rfl
def Ret (C : Fc) (D : VK) (o : OV) : Prop := ∀ v H H₀ Fv, Ext C.Hz C.He H₀ H → OwnR C.G H₀ H o v Fv → Fv.Nodup → (∀ a ∈ Fv, C.He a = none ∧ H₀ a = none) → D v H
def Aft (C : Fc) (W : WX) (D : Ends) : RS → Prop
  | .nx ρ => ∀ σ H H₀ F, SR C H₀ F ρ σ H → D.nx σ H
  | .rt o => Ret C D.rt o
  | .bk ρ => ∀ σ H H₀ F, SR C H₀ F ρ σ H → D.bk σ H
  | .ct ρ => ∀ σ H H₀ F, SR C H₀ F ρ σ H → D.ct σ H
  | .er x ρ => ∀ cls d σ H H₀ F, SR C H₀ F ρ σ H → RepX C.G H₀ x cls d → W cls d σ H
  | .no => False
def tS (C : Fc) (W : WX) (f : Env → RS) : TS := fun D σ H => ∃ H₀ F ρ, SR C H₀ F ρ σ H ∧ Aft C W D (f ρ)
abbrev QS (C : Fc) (W : WX) (X : Cx) (st : Stmt) (f : Env → RS) : Prop := PS X st (tS C W f)
abbrev QSs (C : Fc) (W : WX) (X : Cx) (sts : List Stmt) (f : Env → RS) : Prop := PSs X sts (tS C W f)
/-! ### values that may be moved -/
def tM (C : Fc) (W : WX) (f : Env → R (OV × Env)) : TE := fun σ H Q => ∃ H₀ F ρ, SR C H₀ F ρ σ H ∧ Goes C.G W (f ρ) σ H H₀ fun q => ∀ v H' H₀' Fo Fr, Ext H₀ H H₀' H' → SR C H₀' Fr q.2 σ H' → OwnR C.G H₀' H' q.1 v Fo → (Fo ++ Fr).Nodup → (∀ a ∈ Fo, C.He a = none ∧ H₀' a = none) → Q v H'
abbrev QM (C : Fc) (W : WX) (X : Cx) (e : Expr) (f : Env → R (OV × Env)) : Prop := PE X e (tM C W f)
def mSh (f : Env → R PV) : Env → R (OV × Env) := fun ρ => (f ρ).bind fun p => .ok (.sh p, ρ)
def mFr (f : Env → R OV) : Env → R (OV × Env) := fun ρ => (f ρ).bind fun o => .ok (o, ρ)
def mMv (i : Nat) : Env → R (OV × Env) := fun ρ => match ρ[i]? with
  | some (some o) => .ok (o, ρ.set i none)
  | _ => .no
section
variable {G : Gc} {H₀ H : Hp}
/-- a slot's value, and the rest -/
theorem EnvR.take : ∀ {ρ : Env} {σ : L2.St} {F : List Addr} {i : Nat} {o : OV}, EnvR G H₀ H ρ σ F → ρ[i]? = some (some o) → F.Nodup → ∃ v Fo Fr, σ[i]? = some (some v) ∧ OwnR G H₀ H o v Fo ∧ EnvR G H₀ H (ρ.set i none) σ Fr ∧ (Fo ++ Fr).Nodup ∧ (∀ a, a ∈ Fo ∨ a ∈ Fr → a ∈ F)
  | [], σ, F, i, o, h, e, _ => by simp at e
  | none :: ρ, σ, F, 0, o, h, e, _ => by simp at e
  | none :: ρ, σ, F, i + 1, o, h, e, nd => by
    obtain ⟨x, τ, h1, h2⟩ := h
    subst h1
    obtain ⟨v, Fo, Fr, e1, e2, e3, e4, e5⟩ := EnvR.take (i := i) h2 (by simpa using e) nd
    exact ⟨v, Fo, Fr, by simpa using e1, e2, ⟨x, τ, rfl, e3⟩, e4, e5⟩
  | some o' :: ρ, σ, F, 0, o, h, e, nd => by
    obtain ⟨v, τ, F1, F2, h1, h2, h3, h4⟩ := h
    subst h1 h2
    simp at e
    subst e
    exact ⟨v, F1, F2, rfl, h3, ⟨_, τ, rfl, h4⟩, nd, fun a ha => List.mem_append.mpr ha⟩
  | some o' :: ρ, σ, F, i + 1, o, h, e, nd => by
    obtain ⟨v, τ, F1, F2, h1, h2, h3, h4⟩ := h
    subst h1 h2
    obtain ⟨m1, m2, m3⟩ := List.nodup_append.mp nd
    obtain ⟨w, Fo, Fr, e1, e2, e3, e4, e5⟩ := EnvR.take (i := i) h4 (by simpa using e) m2
    refine ⟨w, Fo, F1 ++ Fr, by simpa using e1, e2, ⟨v, τ, F1, Fr, rfl, rfl, h3, e3⟩, ?_, fun a ha => ?_⟩
    · obtain ⟨k1, k2, k3⟩ := List.nodup_append.mp e4
      refine List.nodup_append.mpr ⟨k1, List.nodup_append.mpr ⟨m1, k2, fun a ha b hb e => m3 a ha b (e5 b (.inr hb)) e⟩, fun a ha b hb e => ?_⟩
      rcases List.mem_append.mp hb with z | z
      · exact m3 b z a (e5 a (.inl ha)) e.symm
      · exact k3 a ha b z e
    · rcases ha with z | z
      · exact List.mem_append_right _ (e5 a (.inl z))
      · rcases List.mem_append.mp z with z | z
        · exact List.mem_append_left _ z
        · exact List.mem_append_right _ (e5 a (.inr z))
end
section
variable {C : Fc} {W : WX} {D : Ends} {m : Bool} {X : Cx} {e c : Expr} {es : List Expr} {a b : List Stmt} {st : Stmt} {pos p : Pos} {σ : L2.St} {H H₀ : Hp} {F : List Addr} {ρ : Env} {x : Str} {i : Nat}
theorem SR.entry (S : SR C H₀ F ρ σ H) : Ext C.Hz C.He H₀ H := ⟨S.e, S.hz, S.z, S.n⟩
theorem Aft.to {α : Type} {r : R α} {k : α → RS} (S : SR C H₀ F ρ σ H) (h : Aft C W D (r.to ρ k)) : Goes C.G W r σ H H₀ fun a => Aft C W D (k a) := by
  cases r with
  | ok a => exact h
  | er x => exact fun cls d H' H₀' E rx => h cls d σ H' H₀' F (S.ext E) rx
  | no => exact h
theorem tM_iff {f : Env → R (OV × Env)} {Q : VK} : tM C W f σ H Q ↔ ∃ H₀ F ρ, SR C H₀ F ρ σ H ∧ Goes C.G W (f ρ) σ H H₀ fun q => ∀ v H' H₀' Fo Fr, Ext H₀ H H₀' H' → SR C H₀' Fr q.2 σ H' → OwnR C.G H₀' H' q.1 v Fo → (Fo ++ Fr).Nodup → (∀ a ∈ Fo, C.He a = none ∧ H₀' a = none) → Q v H' := Iff.rfl
theorem qmSh {f : Env → R PV} (h : QE C W true X e f) : QM C W X e (mSh f) := by
  refine PE.imp h fun σ H Q h => ?_
  rw [tM_iff] at h
  rw [tE_iff]
  obtain ⟨H₀, F, ρ, S, h⟩ := h
  unfold mSh at h
  rw [Goes.bind] at h
  exact ⟨H₀, F, ρ, S, h.imp fun p _ h v H1 H₁ E1 r1 => h v H1 H₁ [] F E1 (S.ext E1) (by simp only [OwnR]; exact ⟨r1, trivial⟩) S.nd fun a ha => (by cases ha)⟩
theorem qmFr {f : Env → R OV} (h : QF C W X e f) : QM C W X e (mFr f) := by
  refine PE.imp h fun σ H Q h => ?_
  rw [tM_iff] at h
  rw [tF_iff]
  obtain ⟨H₀, F, ρ, S, h⟩ := h
  unfold mFr at h
  rw [Goes.bind] at h
  refine ⟨H₀, F, ρ, S, h.imp fun o _ h v H1 H₁ Fv E1 r1 nd fr => h v H1 H₁ Fv F E1 (S.ext E1) r1 ?_ fun a ha => ⟨Same.free S.e (fr a ha).1, (fr a ha).2⟩⟩
  refine List.nodup_append.mpr ⟨nd, S.nd, fun a ha b hb e => ?_⟩
  subst e
  obtain ⟨u, z⟩ := S.env.there a hb
  rw [(fr a ha).1] at z
  cases z
theorem qmMv (i : Nat) {x : Str} (hN : X.N[i]? = some x := by rfl) (hv : Vis X.env.scope x := by first | exact Or.inl rfl | exact Or.inr (Or.inl rfl) | exact Or.inr (Or.inr rfl)) (hd : (x == ("__debug__" : Str)) = false := by decide)
    (hcd : (x == ("__classdict__" : Str)) = false := by decide) : QM C W X (.Name x pos) (mMv i) := by
  refine PE.imp (pe_var hN hv hd hcd) fun σ H Q h => ?_
  obtain ⟨H₀, F, ρ, S, h⟩ := h
  unfold mMv at h
  cases e : ρ[i]? with
  | none => rw [e] at h; exact h.elim
  | some o =>
    rw [e] at h
    cases o with
    | none => exact h.elim
    | some o =>
      obtain ⟨v, Fo, Fr, e1, e2, e3, e4, e5⟩ := S.env.take e S.nd
      exact ⟨v, e1, h v H H₀ Fo Fr (Ext.refl S.z) ⟨S.e, S.z, S.n, S.hz, e3, (List.nodup_append.mp e4).2.1, fun a ha => S.fr a (e5 a (.inr ha)), S.fx, S.hx⟩ e2 e4 fun a ha => S.fr a (e5 a (.inl ha))⟩
/-! ### blocks -/
def sNx : Env → RS := fun ρ => .nx ρ
def sSeq (f g : Env → RS) : Env → RS := fun ρ => match f ρ with
  | .nx ρ' => g ρ'
  | r => r
theorem qNil : QSs C W X [] sNx := PSs.imp pss_nil fun D σ H ⟨H₀, F, ρ, S, h⟩ => h σ H H₀ F S
theorem qCons {f g : Env → RS} (h1 : QS C W X st f) (h2 : QSs C W X a g) : QSs C W X (st :: a) (sSeq f g) := by
  refine PSs.imp (pss_cons h1 h2) fun D σ H h => ?_
  obtain ⟨H₀, F, ρ, S, h⟩ := h
  refine ⟨H₀, F, ρ, S, ?_⟩
  unfold sSeq at h
  cases q : f ρ with
  | nx ρ' =>
    rw [q] at h
    exact fun σ' H' H₀' F' S' => ⟨H₀', F', ρ', S', h⟩
  | rt o => rw [q] at h; exact h
  | bk ρ' => rw [q] at h; exact h
  | ct ρ' => rw [q] at h; exact h
  | er x ρ' => rw [q] at h; exact h
  | no => rw [q] at h; exact h.elim
theorem qLast {f : Env → RS} (h1 : QS C W X st f) : QSs C W X [st] f := pss_one h1
def sBk : Env → RS := fun ρ => .bk ρ
def sCt : Env → RS := fun ρ => .ct ρ
theorem qPass : QS C W X (.Pass pos) sNx := PS.imp ps_pass fun D σ H ⟨H₀, F, ρ, S, h⟩ => h σ H H₀ F S
theorem qBreak : QS C W X (.Break pos) sBk := PS.imp ps_break fun D σ H ⟨H₀, F, ρ, S, h⟩ => h σ H H₀ F S
theorem qContinue : QS C W X (.Continue pos) sCt := PS.imp ps_continue fun D σ H ⟨H₀, F, ρ, S, h⟩ => h σ H H₀ F S
theorem qDoc {x j pos pos'} : QS C W X (.Expr (.Constant (.str x) j pos) pos') sNx := PS.imp ps_doc fun D σ H ⟨H₀, F, ρ, S, h⟩ => h σ H H₀ F S
def sNo : Env → RS := fun _ => .no
theorem qNo : QS C W X st sNo := PS.imp ps_never fun D σ H ⟨H₀, F, ρ, S, h⟩ => h.elim
theorem qsNo : QSs C W X a sNo := PSs.imp pss_never fun D σ H ⟨H₀, F, ρ, S, h⟩ => h.elim
/-- slots that nothing asks any more are forgotten -/
theorem SR.drops : ∀ (vs : List Nat) {F : List Addr}, SR C H₀ F ρ σ H → ∃ F', SR C H₀ F' (wipeE ρ vs) σ H
  | [], F, S => ⟨F, S⟩
  | v :: vs, F, S => by
    obtain ⟨F1, S1⟩ := SR.drops vs S
    exact S1.drop v
def sFg (vs : List Nat) (f : Env → RS) : Env → RS := fun ρ => f (wipeE ρ vs)
theorem qFg (vs : List Nat) {f : Env → RS} (h : QSs C W X a f) : QSs C W X a (sFg vs f) := PSs.imp h fun D σ H ⟨H₀, F, ρ, S, h⟩ => by
  obtain ⟨F', S'⟩ := S.drops vs
  exact ⟨H₀, F', _, S', h⟩
/-- a slot is frozen -/
def frz (i : Nat) (ρ : Env) : Env := match ρ[i]? with
  | some (some o) => ρ.set i (some (.sh o.pv))
  | _ => ρ
theorem set_set_none {ρ : Env} {i : Nat} {o : Option OV} : (ρ.set i none).set i o = ρ.set i o := by simp
theorem SR.frz (S : SR C H₀ F ρ σ H) (i : Nat) : ∃ H₀' F', SR C H₀' F' (L3.frz i ρ) σ H := by
  unfold L3.frz
  cases e : ρ[i]? with
  | none => exact ⟨H₀, F, S⟩
  | some o =>
    cases o with
    | none => exact ⟨H₀, F, S⟩
    | some o =>
      obtain ⟨v, Fo, Fr, e1, e2, e3, e4, e5⟩ := S.env.take e S.nd
      obtain ⟨n1, n2, n3⟩ := List.nodup_append.mp e4
      have fo : ∀ a ∈ Fo, C.He a = none ∧ H₀ a = none := fun a ha => S.fr a (e5 a (.inl ha))
      have z0 : Same H₀ (vw H₀ H Fo) := same_vw fun a ha => (fo a ha).2
      have r : Rep C.G (vw H₀ H Fo) o.pv v := OwnR.rep z0 (fun a ha => by unfold vw; rw [if_pos ha]) e2
      have er : EnvR C.G (vw H₀ H Fo) H (ρ.set i none) σ Fr := EnvR.mono z0 (fun a _ => rfl) e3
      have S1 : SR C (vw H₀ H Fo) Fr (ρ.set i none) σ H := by
        refine ⟨S.e, vw_same S.z, fun a ha => ?_, S.hz.trans z0, er, n2, fun a ha => ⟨(S.fr a (e5 a (.inr ha))).1, ?_⟩, S.fx, S.hx.trans z0⟩
        · unfold vw
          rw [if_neg fun z => ha (fo a z).1]
          exact S.n a ha
        · unfold vw
          rw [if_neg fun z => n3 a z a ha rfl]
          exact (S.fr a (e5 a (.inr ha))).2
      obtain ⟨F', p1, p2, p3⟩ := EnvR.put (o := .sh o.pv) (v := v) (Fv := []) i S1.env (by simp only [OwnR]; exact ⟨r, trivial⟩) S1.nd List.nodup_nil fun a ha => (by cases ha)
      rw [set_set_none] at p1
      have es : σ.set i (some v) = σ := by
        apply List.ext_getElem?
        intro j
        by_cases q : i = j
        · subst q
          rw [e1]
          have hl : i < σ.length := (List.getElem?_eq_some_iff.mp e1).1
          rw [List.getElem?_set_self hl]
        · rw [List.getElem?_set_ne q]
      rw [es] at p1
      exact ⟨_, F', S1.e, S1.z, S1.n, S1.hz, p1, p2, fun a ha => (p3 a ha).elim (S1.fr a) fun z => (by cases z), S1.fx, S1.hx⟩
def sFz (i : Nat) (f : Env → RS) : Env → RS := fun ρ => f (frz i ρ)
theorem qFzS (i : Nat) {f : Env → RS} (h : QSs C W X a f) : QSs C W X a (sFz i f) := PSs.imp h fun D σ H ⟨H₀, F, ρ, S, h⟩ => by
  obtain ⟨H₀', F', S'⟩ := S.frz i
  exact ⟨H₀', F', _, S', h⟩
/-! ### if, assignments, return, raise -/
def sIf (fc : Env → R Bool) (f g : Env → RS) : Env → RS := fun ρ => (fc ρ).to ρ fun k => if k = true then f ρ else g ρ
theorem qIfS {fc : Env → R Bool} {f g : Env → RS} (hc : QT C W X c fc) (ha : QSs C W X a f) (hb : QSs C W X b g) : QS C W X (.If c a b pos) (sIf fc f g) := by
  refine PS.imp (ps_if hc ha hb) fun D σ H h => ?_
  show tTt C W fc σ H fun k H1 => if k = true then tS C W f D σ H1 else tS C W g D σ H1
  rw [tT_iff]
  obtain ⟨H₀, F, ρ, S, h⟩ := h
  refine ⟨H₀, F, ρ, S, (Aft.to S h).imp fun k _ h H1 H₁ E1 => ?_⟩
  cases k with
  | true => exact ⟨H₁, F, ρ, S.ext E1, h⟩
  | false => exact ⟨H₁, F, ρ, S.ext E1, h⟩
def sSet (i : Nat) (f : Env → R (OV × Env)) : Env → RS := fun ρ => (f ρ).to ρ fun q => .nx (q.2.set i (some q.1))
theorem set_go {f : Env → R (OV × Env)} (hx : fxOk C i) (h : tS C W (sSet i f) D σ H) : tM C W f σ H fun v H1 => gName i v σ H1 D.nx := by
  obtain ⟨H₀, F, ρ, S, h⟩ := h
  refine ⟨H₀, F, ρ, S, (Aft.to S h).imp fun q _ h v H' H₀' Fo Fr E S' r nd fr => ?_⟩
  obtain ⟨n1, n2, n3⟩ := List.nodup_append.mp nd
  obtain ⟨F', S2⟩ := S'.put r n1 (fun a ha => ⟨(fr a ha).1, (fr a ha).2, fun z => n3 a ha a z rfl⟩) hx
  exact h _ H' H₀' F' S2
theorem qSet {f : Env → R (OV × Env)} (hx : fxOk C i) (hN : X.N.Nodup) (he : QM C W X e f) (hi : X.N[i]? = some x := by rfl) (hl : Loc X.env.scope x := by first | exact Or.inl rfl | exact Or.inr rfl) (hs : swapsWith e (some (.Name x p)) pos.line X.env = pure false := by rfl)
    (hf : X.fn x = true ∨ X.env.scope.names.lookup x = some .local := by first | exact .inl rfl | exact .inr rfl) : QS C W X (.Assign [.Name x p] e pos) (sSet i f) :=
  PS.imp (ps_set hN hi hl he hs hf) fun D σ H h => set_go hx h
/-- x = [.. for ..], on one line -/
theorem qSetLc {elt iter : Expr} {ifs : List Expr} {scope : Scope} {own : List (Str × Nat)} {spos : Pos} {T : Tg} {f : Env → R (List PV)} {t : Env → R Bool} {el : Env → R OV} {tg : Expr} (hx : fxOk C i) (hc : X.calm = true) (hN : X.N.Nodup) (hi : QI C W true X tg iter f) (ok : BlkOk X.N X.env.scope scope own) (hvs : ∀ i ∈ T.slots, i ∈ own.map (·.2)) (hfx : ∀ i ∈ own.map (·.2), fxOk C i)
    (hg : ∃ g : TG, (∀ (s : Shared) (H : Hp) (c : Addr) (cl : List (Str × Addr)) (fp : List Addr), PG (X.blk s H scope (compEnvC scope cl c X.env) fp) tg g) ∧ ∀ (p : PV) (v : V) (H₀ : Hp) (F : List Addr) (ρ ρ' : Env) (σ : L2.St) (H : Hp) (Q : L2.St → Hp → Prop), SR C H₀ F ρ σ H → Rep C.G H₀ p v → tgS T p ρ = .ok ρ' → (∀ σ' F', SR C H₀ F' ρ' σ' H → (∀ vs, (∀ i ∈ T.slots, i ∈ vs) → wipe σ' vs = wipe σ vs) → Q σ' H) → g v σ H Q)
    (ht : ∀ (s : Shared) (H : Hp) (c : Addr) (cl : List (Str × Addr)) (fp : List Addr), PTs (X.blk s H scope (compEnvC scope cl c X.env) fp) ifs (tTt C W0 t))
    (he : ∀ (s : Shared) (H : Hp) (c : Addr) (cl : List (Str × Addr)) (fp : List Addr), QF C W0 (X.blk s H scope (compEnvC scope cl c X.env) fp) elt el)
    (hsw : swapsWith (.ListComp elt [⟨tg, iter, ifs, 0⟩] scope pos) (some (.Name x p)) spos.line X.env = pure true) (hxi : X.N[i]? = some x := by rfl) (hl : X.env.scope.names.lookup x = some .local := by rfl) (hs : ∀ x, foldedSetIterable iter X.env x = pure x := by intro _; rfl) :
    QS C W X (.Assign [.Name x p] (.ListComp elt [⟨tg, iter, ifs, 0⟩] scope pos) spos) (sSet i (mFr (fLc T (own.map (·.2)) f t el))) := by
  obtain ⟨g, hg1, hg2⟩ := hg
  refine PS.imp (ps_setLc hc hN hxi hl hsw hi ok hg1 ht he hs) fun D σ H h => ?_
  refine lc_go hvs hfx hg2 ?_
  obtain ⟨H₀, F, ρ, S, h⟩ := set_go hx h
  unfold mFr at h
  rw [Goes.bind] at h
  rw [tF_iff]
  refine ⟨H₀, F, ρ, S, h.imp fun o _ h v H1 H₁ Fv E1 r1 nd fr => h v H1 H₁ Fv F E1 (S.ext E1) r1 ?_ fun a ha => ⟨Same.free S.e (fr a ha).1, (fr a ha).2⟩⟩
  refine List.nodup_append.mpr ⟨nd, S.nd, fun a ha b hb e => ?_⟩
  subst e
  obtain ⟨u, z⟩ := S.env.there a hb
  rw [(fr a ha).1] at z
  cases z
/-- any target that takes what is frozen -/
def sTg (T : Tg) (f : Env → R PV) : Env → RS := fun ρ => (f ρ).to ρ fun p => (tgS T p ρ).to ρ fun ρ' => .nx ρ'
theorem qTg {tg : Expr} {T : Tg} {f : Env → R PV} (he : QE C W true X e f) (hg : QG C X tg T) (hs : swapsWithSole [tg] e pos.line X.env = pure false := by rfl) (hw : swappedStores [tg] e X.env = pure none := by rfl)
    (h1 : (assignEach [tg] X.env).map (·.2) = [assign tg X.env] := by rfl) : QS C W X (.Assign [tg] e pos) (sTg T f) := by
  obtain ⟨t, g1, g2⟩ := hg.ex
  refine PS.imp (ps_asg he g1 hs hw h1) fun D σ H h => ?_
  show tE C W true f σ H fun v H1 => t v σ H1 D.nx
  rw [tE_iff]
  obtain ⟨H₀, F, ρ, S, h⟩ := h
  refine ⟨H₀, F, ρ, S, (Aft.to S h).imp fun q _ h v H' H₀' E r => ?_⟩
  have S1 := S.ext E
  cases et : tgS T q ρ with
  | ok ρ' =>
    rw [et] at h
    exact g2 q v H₀' F ρ ρ' σ H' D.nx S1 r et fun σ' F' S2 _ => h σ' H' H₀' F' S2
  | er x => exact absurd et tgS_calm
  | no => rw [et] at h; exact h.elim
/-- a, b = e, f -/
def sPar (i j : Nat) (f : Env → R (List PV)) : Env → RS := fun ρ => (f ρ).to ρ fun ps => match ps with
  | [p, q] => .nx ((ρ.set i (some (.sh p))).set j (some (.sh q)))
  | _ => .no
theorem qPar {j : Nat} {y : Str} {e1 e2 : Expr} {px py pt : Pos} {kt k2 pt2} {f : Env → R (List PV)} (hc : X.calm = true) (hx : fxOk C i) (hy : fxOk C j) (hN : X.N.Nodup) (ha : QA C W true X [e1, e2] f) (hi : X.N[i]? = some x := by rfl) (hj : X.N[j]? = some y := by rfl) (hij : i ≠ j := by decide)
    (hlx : X.env.scope.names.lookup x = some .local := by rfl) (hly : X.env.scope.names.lookup y = some .local := by rfl)
    (hw : swappedStores [.Tuple [.Name x px, .Name y py] kt pt] (.Tuple [e1, e2] k2 pt2) X.env = pure (some [x, y]) := by rfl)
    (hs : swapsWithSole [.Tuple [.Name x px, .Name y py] kt pt] (.Tuple [e1, e2] k2 pt2) pos.line X.env = pure false := by rfl) :
    QS C W X (.Assign [.Tuple [.Name x px, .Name y py] kt pt] (.Tuple [e1, e2] k2 pt2) pos) (sPar i j f) := by
  refine PS.imp (ps_par hc hN hi hj hij hlx hly ha hw hs) fun D σ H h => ?_
  show tAs C W true f σ H fun vs H1 => ∃ v w, vs = [v, w] ∧ D.nx ((σ.set i (some v)).set j (some w)) H1
  rw [tA_iff]
  obtain ⟨H₀, F, ρ, S, h⟩ := h
  refine ⟨H₀, F, ρ, S, (Aft.to S h).imp fun ps _ h vs H' H₀' E r => ?_⟩
  have S1 := S.ext E
  match ps, h, r with
  | [p, q], h, r =>
    obtain ⟨v, w, ev, r1, r2⟩ := reps2 r
    obtain ⟨F1, S2⟩ := S1.sh (p := p) r1 hx
    obtain ⟨F2, S3⟩ := S2.sh (p := q) r2 hy
    exact ⟨v, w, ev, h _ _ _ _ S3⟩
def sRt (f : Env → R (OV × Env)) : Env → RS := fun ρ => (f ρ).to ρ fun q => .rt q.1
theorem qRt {f : Env → R (OV × Env)} (he : QM C W X e f) : QS C W X (.Return (some e) pos) (sRt f) := by
  refine PS.imp (ps_ret he) fun D σ H h => ?_
  show tM C W f σ H D.rt
  rw [tM_iff]
  obtain ⟨H₀, F, ρ, S, h⟩ := h
  refine ⟨H₀, F, ρ, S, (Aft.to S h).imp fun q _ h v H' H₀' Fo Fr E S' r nd fr => ?_⟩
  exact h v H' H₀' Fo S'.entry r (List.nodup_append.mp nd).1 fr
def sRtN : Env → RS := fun _ => .rt (.sh .non)
theorem qRtN : QS C W X (.Return none pos) sRtN := PS.imp ps_retN fun D σ H ⟨H₀, F, ρ, S, h⟩ => h .non H H₀ [] S.entry (by simp [OwnR, Rep]) List.nodup_nil fun a ha => (by cases ha)
def sDo {α : Type} (f : Env → R α) : Env → RS := fun ρ => (f ρ).to ρ fun _ => .nx ρ
theorem qDo {f : Env → R PV} (he : QE C W m X e f) (hs : swapsWith e none pos.line X.env = pure false := by rfl) : QS C W X (.Expr e pos) (sDo f) := by
  refine PS.imp (ps_expr he hs) fun D σ H h => ?_
  show tE C W m f σ H fun _ H1 => D.nx σ H1
  rw [tE_iff]
  obtain ⟨H₀, F, ρ, S, h⟩ := h
  exact ⟨H₀, F, ρ, S, (Aft.to S h).imp fun p _ h v H' H₀' E r => h σ H' H₀' F (S.ext E)⟩
theorem qDoF {f : Env → R OV} (he : QF C W X e f) (hs : swapsWith e none pos.line X.env = pure false := by rfl) : QS C W X (.Expr e pos) (sDo f) := by
  refine PS.imp (ps_expr he hs) fun D σ H h => ?_
  show tF C W f σ H fun _ H1 => D.nx σ H1
  rw [tF_iff]
  obtain ⟨H₀, F, ρ, S, h⟩ := h
  exact ⟨H₀, F, ρ, S, (Aft.to S h).imp fun p _ h v H' H₀' Fv E r nd fr => h σ H' H₀' F (S.ext E)⟩
/-- raise of an own class whose __init__ keeps one thing -/
def sRz (c : Nat) (fl : Str) (f : Env → R PV) : Env → RS := fun ρ => (f ρ).to ρ fun p => .er ⟨c, [(fl, p)]⟩ ρ
theorem qRz {c : Nat} {fl : Str} {fI : Addr} {f : Env → R PV} {p2 : Pos} (hc : X.calm = true) (tk : L2N.Takes X W) (T : X3.SupC X.prog X.K (C.G.CA c) fI fl) (gC : X.mg x = some (.ref (C.G.CA c))) (kC : PySem.W.keepIn X.K (.ref (C.G.CA c)) = true) (rs : Raises X (.ref (C.G.CA c))) (hr : X.A.depth + 1 < recursionLimit) (ha : QE C W true X e f) (hg : Gl X x := by rfl)
    (hdb : (x == ("__debug__" : Str)) = false := by decide) (he : starEach (e :: []) X.env = (false, eval e X.env) :: starEach [] X.env := by rfl) (hpl : (backTo p (starEach [] X.env)).any (·.1) = false := by rfl) : QS C W X (.Raise (some (.Call (.Name x p2) [e] [] p)) none pos) (sRz c fl f) := by
  refine PS.imp (L2N.ps_raise hc tk (X3.pmk_sup (k := 0) T gC kC rs hr ha hg hdb he hpl)) fun D σ H h => ?_
  show tE C W true f σ H fun v H1 => ∀ d, H1 d = none → W (.ref (C.G.CA c)) (some d) σ (upd H1 d (.xd [(fl, v)]))
  rw [tE_iff]
  obtain ⟨H₀, F, ρ, S, h⟩ := h
  refine ⟨H₀, F, ρ, S, (Aft.to S h).imp fun p _ h v H' H₀' E r d hd => ?_⟩
  have S1 := S.ext E
  have E2 : Ext H₀' H' (upd H₀' d (.xd [(fl, v)])) (upd H' d (.xd [(fl, v)])) := ext_new S1.z hd
  have r : Rep C.G H₀' p v := r
  refine h _ _ σ _ _ F (S1.ext E2) ⟨rfl, .inr ⟨d, _, rfl, upd_same, ?_⟩⟩
  simp only [RepF]
  exact ⟨v, [], rfl, Rep.mono E2.s0 r, rfl⟩
end
end L3

end
section
/-! L3. 8: loops, try -/
namespace L3
open PySem PySem.Spec PyProof.Rows L2
def forGo (T : Tg) (fg : List Nat) (fb : Env → RS) : List PV → Env → RS
  | [], ρ => .nx ρ
  | p :: ps, ρ => match tgS T p ρ with
    | .ok ρ1 => match fb ρ1 with
      | .nx ρ2 => forGo T fg fb ps (wipeE ρ2 fg)
      | .ct ρ2 => forGo T fg fb ps (wipeE ρ2 fg)
      | .bk ρ2 => .nx (wipeE ρ2 fg)
      | r => r
    | _ => .no
def sFor (T : Tg) (fg : List Nat) (fi : Env → R (List PV)) (fb : Env → RS) : Env → RS := fun ρ => (fi ρ).to ρ fun ps => forGo T fg fb ps (wipeE ρ fg)
def whGo (fg : List Nat) (fc : Env → R Bool) (fb : Env → RS) : Nat → Env → RS
  | 0, _ => .no
  | n + 1, ρ => (fc ρ).to ρ fun k => if k = true then (match fb ρ with
      | .nx ρ2 => whGo fg fc fb n (wipeE ρ2 fg)
      | .ct ρ2 => whGo fg fc fb n (wipeE ρ2 fg)
      | .bk ρ2 => .nx (wipeE ρ2 fg)
      | r => r) else .nx ρ
def sWhile (fuel : Env → Nat) (fg : List Nat) (fc : Env → R Bool) (fb : Env → RS) : Env → RS := fun ρ => whGo fg fc fb (fuel ρ) (wipeE ρ fg)
section
variable {C : Fc} {W : WX} {D : Ends} {m : Bool} {X : Cx} {tg iter c : Expr} {body : List Stmt} {pos : Pos} {σ : L2.St} {H H₀ : Hp} {F : List Addr} {ρ : Env}
theorem SR.inx {Hx : Hp} (S : SR C H₀ F ρ σ H) (h : Same Hx H₀) : SR { C with Hx := Hx } H₀ F ρ σ H := ⟨S.e, S.z, S.n, S.hz, S.env, S.nd, S.fr, S.fx, h⟩
theorem SR.unx {Hx : Hp} (S : SR { C with Hx := Hx } H₀ F ρ σ H) (h : Same C.Hx Hx) : SR C H₀ F ρ σ H := ⟨S.e, S.z, S.n, S.hz, S.env, S.nd, S.fr, S.fx, h.trans S.hx⟩
theorem qFor {T : Tg} (fg : List Nat) {fi : Env → R (List PV)} {fb : Env → RS} (hp : PassesOwn (model X.prog X.w) X.A X.env X.xe) (hc : X.calm = true) (hi : QI C W true X tg iter fi) (hg : ∀ Hx, QG { C with Hx := Hx } X tg T) (hb : ∀ Hx, QSs { C with Hx := Hx } W X body fb)
    (hs : ∀ x, foldedSetIterable iter X.env x = pure x := by intro _; rfl) : QS C W X (.For tg iter body [] pos) (sFor T fg fi fb) := by
  refine ⟨fun pins s σ H D I h => ?_⟩
  -- the frozen heap at the loop's start
  obtain ⟨H₀, F, ρ, S, h⟩ := h
  have h := Aft.to S h
  cases q : fi ρ with
  | no => rw [q] at h; exact h.elim
  | er x =>
    obtain ⟨t, g1, _⟩ := (hg C.Hx).ex
    refine (ps_for (tb := tS { C with Hx := C.Hx } W fb) hp hc hi g1 (hb C.Hx) hs).run pins s σ H D I ?_
    refine ⟨H₀, F, ρ, S, ?_⟩
    rw [q] at h ⊢
    exact h
  | ok ps =>
    rw [q] at h
    have h : Aft C W D (forGo T fg fb ps (wipeE ρ fg)) := h
    -- the loop is read at a heap that comes only behind the iterable: so the reading chooses it
    have key : PS X (.For tg iter body [] pos) (tFor (tI C W true fi) (fun v σ H Q => ∃ t : TG, PG X tg t ∧ t v σ H Q) (fun D σ H => ∃ Hx, Same C.Hx Hx ∧ tS { C with Hx := Hx } W fb D σ H)) := by
      refine ps_for hp hc hi ⟨fun pins s σ H v u Q I r q => ?_⟩ ⟨fun pins s σ H D I q => ?_⟩ hs
      · obtain ⟨t, g1, q⟩ := q
        exact g1.run pins s σ H v u Q I r q
      · obtain ⟨Hx, hx, q⟩ := q
        exact (hb Hx).run pins s σ H D I q
    refine key.run pins s σ H D I ?_
    refine ⟨H₀, F, ρ, S, ?_⟩
    rw [q]
    intro J H1 H₁ E1 ip
    have ip : ItP C.G J H₁ ps := ip
    have S1 := S.ext E1
    obtain ⟨F1, S1'⟩ := S1.drops fg
    refine ⟨fun i mm σc Hc => mm = ps.length - i ∧ i ≤ ps.length ∧ ∃ H₀c Fc ρc, SR { C with Hx := H₁ } H₀c Fc ρc σc Hc ∧ Aft C W D (forGo T fg fb (ps.drop i) ρc), ⟨ps.length, by simp, Nat.zero_le _, H₁, F1, _, S1'.inx (Same.refl _), by simpa using h⟩, ?_⟩
    rintro i mm σc Hc ⟨rfl, hi', H₀c, Fc, ρc, Sc, hA⟩
    have sc : Same H₁ Hc := Sc.hx.trans Sc.z
    by_cases hlt : i < ps.length
    · have hpi : ps[i]? = some ps[i] := by simp [hlt]
      obtain ⟨jg, jy⟩ := ip.go i Hc _ sc hpi
      rw [List.drop_eq_getElem_cons hlt] at hA
      unfold forGo at hA
      refine .inr ⟨jg, fun σ' H' => ps.length - (i + 1) = ps.length - (i + 1) ∧ i + 1 ≤ ps.length ∧ ∃ H₀c Fc ρc, SR { C with Hx := H₁ } H₀c Fc ρc σ' H' ∧ Aft C W D (forGo T fg fb (ps.drop (i + 1)) ρc), fun σ' H' z => ⟨ps.length - (i + 1), by omega, z⟩, fun x H' y => ?_⟩
      obtain ⟨e1, rx⟩ := jy x H' y
      subst e1
      obtain ⟨t, g1, g2⟩ := (hg H₁).ex
      refine ⟨t, g1, ?_⟩
      cases et : tgS T ps[i] ρc with
      | er z => exact absurd et tgS_calm
      | no => rw [et] at hA; exact hA.elim
      | ok ρ1 =>
        rw [et] at hA
        refine g2 _ x H₀c Fc ρc ρ1 σc H' _ Sc (Rep.mono Sc.hx rx) et fun σ2 F2 S2 _ => ⟨H₁, S1.hx, H₀c, F2, ρ1, S2, ?_⟩
        dsimp only at hA
        cases eb : fb ρ1 with
        | nx ρ2 =>
          rw [eb] at hA
          intro σ3 H3 H₀3 F3 S3
          obtain ⟨F4, S4⟩ := S3.drops fg
          exact ⟨rfl, hlt, H₀3, F4, _, S4, hA⟩
        | ct ρ2 =>
          rw [eb] at hA
          intro σ3 H3 H₀3 F3 S3
          obtain ⟨F4, S4⟩ := S3.drops fg
          exact ⟨rfl, hlt, H₀3, F4, _, S4, hA⟩
        | bk ρ2 =>
          rw [eb] at hA
          intro σ3 H3 H₀3 F3 S3
          obtain ⟨F4, S4⟩ := S3.drops fg
          exact hA σ3 H3 H₀3 F4 (S4.unx S1.hx)
        | rt o => rw [eb] at hA; exact hA
        | er z ρ2 =>
          rw [eb] at hA
          intro cls d σ3 H3 H₀3 F3 S3 rx3
          exact hA cls d σ3 H3 H₀3 F3 (S3.unx S1.hx) rx3
        | no => rw [eb] at hA; exact hA
    · have hie : i = ps.length := by omega
      subst hie
      rw [List.drop_length] at hA
      unfold forGo at hA
      exact .inl ⟨ip.stop _ Hc sc (Nat.le_refl _), hA σc Hc H₀c Fc (Sc.unx S1.hx)⟩
theorem qWhile (fuel : Env → Nat) (fg : List Nat) {fc : Env → R Bool} {fb : Env → RS} (hp : PassesOwn (model X.prog X.w) X.A X.env X.xe) (hc : QT C W X c fc) (hb : QSs C W X body fb) : QS C W X (.While c body [] pos) (sWhile fuel fg fc fb) := by
  refine PS.imp (ps_while hp hc hb) fun D σ H h => ?_
  obtain ⟨H₀, F, ρ, S, h⟩ := h
  obtain ⟨F1, S1⟩ := S.drops fg
  refine ⟨fun n σ H => ∃ H₀ F ρ, SR C H₀ F ρ σ H ∧ Aft C W D (whGo fg fc fb n ρ), ⟨fuel ρ, H₀, F1, _, S1, h⟩, ?_⟩
  rintro n σ H ⟨H₀, F, ρ, S, h⟩
  cases n with
  | zero => exact h.elim
  | succ n =>
    unfold whGo at h
    rw [tT_iff]
    refine ⟨H₀, F, ρ, S, (Aft.to S h).imp fun k _ h H1 H₁ E1 => ?_⟩
    have S1 := S.ext E1
    cases k with
    | false => exact h σ H1 H₁ F S1
    | true =>
      rw [if_pos rfl] at h
      show if true = true then _ else _
      rw [if_pos rfl]
      refine ⟨fun σ' H' => ∃ H₀ F ρ, SR C H₀ F ρ σ' H' ∧ Aft C W D (whGo fg fc fb n ρ), fun σ' H' z => ⟨n, Nat.lt_succ_self _, z⟩, H₁, F, ρ, S1, ?_⟩
      cases eb : fb ρ with
      | nx ρ2 =>
        rw [eb] at h
        intro σ3 H3 H₀3 F3 S3
        obtain ⟨F4, S4⟩ := S3.drops fg
        exact ⟨H₀3, F4, _, S4, h⟩
      | ct ρ2 =>
        rw [eb] at h
        intro σ3 H3 H₀3 F3 S3
        obtain ⟨F4, S4⟩ := S3.drops fg
        exact ⟨H₀3, F4, _, S4, h⟩
      | bk ρ2 =>
        rw [eb] at h
        intro σ3 H3 H₀3 F3 S3
        obtain ⟨F4, S4⟩ := S3.drops fg
        exact h σ3 H3 H₀3 F4 S4
      | rt o => rw [eb] at h; exact h
      | er z ρ2 => rw [eb] at h; exact h
      | no => rw [eb] at h; exact h
end
/-! ### try -/
structure Hd where
  mt : Nat → Option Bool
  nm : Option Nat
  su : PX → Env → RS
def calmS : RS → RS
  | .er _ _ => .no
  | r => r
def goneS (i : Nat) : RS → RS
  | .nx ρ => .nx (ρ.set i none)
  | .bk ρ => .bk (ρ.set i none)
  | .ct ρ => .ct (ρ.set i none)
  | r => r
def handle : List Hd → PX → Env → RS
  | [], x, ρ => .er x ρ
  | h :: r, x, ρ => match h.mt x.c with
    | some true => (match h.nm with
      | none => calmS (h.su x ρ)
      | some i => if i < ρ.length then goneS i (calmS (h.su x (ρ.set i none))) else .no)
    | some false => handle r x ρ
    | none => .no
def sTry (f : Env → RS) (hs : List Hd) : Env → RS := fun ρ => match f ρ with
  | .er x ρ' => handle hs x ρ'
  | r => r
/-- a suite's reading -/
def suR (C : Fc) (i : Option Nat) (g : PX → Env → RS) : X3.Su := fun a cls d D σ H => ∃ x Hx, RepX C.G Hx x cls d ∧ tS { C with Hx := Hx, fx := i.elim none fun i => some (i, .ref a) } W0 (fun ρ => calmS (g x ρ)) D σ H
inductive HdQ (C : Fc) (X : Cx) : List ExceptHandler → List Hd → List (Value × Option Nat × X3.Su) → Prop
  | nil : HdQ C X [] [] []
  | bare {x : Str} {c : Value} {mt : Nat → Option Bool} {g : PX → Env → RS} {b₀ : Stmt} {su : List Stmt} {p1 p2 : Pos} {hds : List ExceptHandler} {hs : List Hd} {l : List (Value × Option Nat × X3.Su)} (hc : Names X x c) (hm : ∀ c' b, mt c' = some b → PySem.W.exmOne X.K (.ref (C.G.CA c')) c = some b)
      (hsu : ∀ (a : Addr) (ob : Obj) (cls : Value) (d : Option Addr) (pl : List (Addr × Obj)) (x : PX) (Hx : Hp), L2N.Zn cls d ob → (∃ vs, ob.data = .fields vs) → RepX C.G Hx x cls d → QSs { C with Hx := Hx, fx := none } W0 (X.suite a ((a, ob) :: pl)) (b₀ :: su) (g x)) (r : HdQ C X hds hs l) :
      HdQ C X (.ExceptHandler (some (.Name x p1)) none (b₀ :: su) p2 :: hds) (⟨mt, none, g⟩ :: hs) ((c, none, suR C none g) :: l)
  | named {x n : Str} {i : Nat} {c : Value} {mt : Nat → Option Bool} {g : PX → Env → RS} {b₀ : Stmt} {su : List Stmt} {p1 p2 : Pos} {hds : List ExceptHandler} {hs : List Hd} {l : List (Value × Option Nat × X3.Su)} (hN : X.N.Nodup) (hc : Names X x c) (hm : ∀ c' b, mt c' = some b → PySem.W.exmOne X.K (.ref (C.G.CA c')) c = some b)
      (hsu : ∀ (a : Addr) (ob : Obj) (cls : Value) (d : Option Addr) (pl : List (Addr × Obj)) (x : PX) (Hx : Hp), L2N.Zn cls d ob → (∃ vs, ob.data = .fields vs) → RepX C.G Hx x cls d → QSs { C with Hx := Hx, fx := some (i, .ref a) } W0 (X.suite a ((a, ob) :: pl)) (b₀ :: su) (g x)) (r : HdQ C X hds hs l)
      (hi : X.N[i]? = some n := by rfl) (hl : X.env.kindOf n = some .local := by rfl) :
      HdQ C X (.ExceptHandler (some (.Name x p1)) (some n) (b₀ :: su) p2 :: hds) (⟨mt, some i, g⟩ :: hs) ((c, some i, suR C (some i) g) :: l)
section
variable {C : Fc} {W : WX} {D : Ends} {m : Bool} {X : Cx} {e : Expr} {body : List Stmt} {h₀ : ExceptHandler} {hds : List ExceptHandler} {pos p : Pos} {σ : L2.St} {H H₀ : Hp} {F : List Addr} {ρ : Env} {hs : List Hd} {l : List (Value × Option Nat × X3.Su)}
theorem aft_calm {r : RS} (h : Aft C W0 D (calmS r)) : Aft C W0 D r := by
  cases r with
  | er x ρ => exact (show False from h).elim
  | nx ρ => exact h
  | rt o => exact h
  | bk ρ => exact h
  | ct ρ => exact h
  | no => exact h
theorem HdQ.ok (h : HdQ C X hds hs l) : X3.HdOk X hds l := by
  induction h with
  | nil => exact .nil
  | @bare x c mt g b₀ su p1 p2 hds hs l hc hm hsu r ih =>
    refine .bare hc (fun a ob cls d pl hz hf => ⟨fun pins s σ H D I q => ?_⟩) ih
    obtain ⟨x, Hx, rx, H₀, F, ρ, S, q⟩ := q
    exact (hsu a ob cls d pl x Hx hz hf rx).run pins s σ H D I ⟨H₀, F, ρ, S, aft_calm q⟩
  | @named x n i c mt g b₀ su p1 p2 hds hs l hN hc hm hsu r hi hl ih =>
    refine .named hN hi hl hc (fun a ob cls d pl hz hf => ⟨fun pins s σ H D I q => ?_⟩) ih
    obtain ⟨x, Hx, rx, H₀, F, ρ, S, q⟩ := q
    exact (hsu a ob cls d pl x Hx hz hf rx).run pins s σ H D I ⟨H₀, F, ρ, S, aft_calm q⟩
theorem SR.goneAt (S : SR C H₀ F ρ σ H) (i : Nat) (x : Option V) (hx : fxOk C i) : ∃ F', SR C H₀ F' (ρ.set i none) (σ.set i x) H := by
  obtain ⟨F', S1⟩ := S.drop i
  refine ⟨F', ?_⟩
  by_cases hl : i < ρ.length
  · exact S1.any x (List.getElem?_set_self hl) hx
  · have e : σ.set i x = σ := List.set_eq_of_length_le (by have := S.env.length; omega)
    rw [e]
    exact S1
/-- another slot is fixed -/
theorem SR.fixed (S : SR C H₀ F ρ σ H) {Hx : Hp} {f : Option (Nat × V)} (h : Same Hx H₀) (k : ∀ i v, f = some (i, v) → σ[i]? = some (some v)) : SR { C with Hx := Hx, fx := f } H₀ F ρ σ H := ⟨S.e, S.z, S.n, S.hz, S.env, S.nd, S.fr, k, h⟩
theorem aft_su (hfx : C.fx = none) {r : RS} {Hx : Hp} (hh : Same C.Hx Hx) (h : Aft C W D (calmS r)) : Aft { C with Hx := Hx, fx := none } W0 D (calmS r) := by
  have un : ∀ {ρ σ H H₀' F}, SR { C with Hx := Hx, fx := none } H₀' F ρ σ H → SR C H₀' F ρ σ H := fun {ρ σ H H₀' F} T => ⟨T.e, T.z, T.n, T.hz, T.env, T.nd, T.fr, fun i v z => (by rw [hfx] at z; cases z), hh.trans T.hx⟩
  cases r with
  | nx ρ' => exact fun σ' H' H₀' F' T => h σ' H' H₀' F' (un T)
  | bk ρ' => exact fun σ' H' H₀' F' T => h σ' H' H₀' F' (un T)
  | ct ρ' => exact fun σ' H' H₀' F' T => h σ' H' H₀' F' (un T)
  | rt o => exact h
  | er z ρ' => exact h
  | no => exact h
theorem aft_su2 (hfx : C.fx = none) {r : RS} {Hx : Hp} {i : Nat} {v : V} (hh : Same C.Hx Hx) (h : Aft C W D (goneS i (calmS r))) : Aft { C with Hx := Hx, fx := some (i, v) } W0 (X3.Ends.gone D i) (calmS r) := by
  have un : ∀ {ρ σ H H₀' F}, SR { C with Hx := Hx, fx := some (i, v) } H₀' F ρ σ H → ∃ F', SR C H₀' F' (ρ.set i none) (σ.set i none) H := fun {ρ σ H H₀' F} T =>
    SR.goneAt (C := C) (⟨T.e, T.z, T.n, T.hz, T.env, T.nd, T.fr, fun i v z => (by rw [hfx] at z; cases z), hh.trans T.hx⟩) i none fun j v z => (by rw [hfx] at z; cases z)
  cases r with
  | nx ρ' => exact fun σ' H' H₀' F' T => let ⟨F2, T2⟩ := un T; h _ H' H₀' F2 T2
  | bk ρ' => exact fun σ' H' H₀' F' T => let ⟨F2, T2⟩ := un T; h _ H' H₀' F2 T2
  | ct ρ' => exact fun σ' H' H₀' F' T => let ⟨F2, T2⟩ := un T; h _ H' H₀' F2 T2
  | rt o => exact h
  | er z ρ' => exact h
  | no => exact h
theorem handle_go (hfx : C.fx = none) (hq : HdQ C X hds hs l) : ∀ {x : PX} {cls : Value} {d : Option Addr}, SR C H₀ F ρ σ H → RepX C.G H₀ x cls d → Aft C W D (handle hs x ρ) → X3.wH X.K W D l cls d σ H := by
  induction hq with
  | nil =>
    intro x cls d S rx h
    exact h cls d σ H H₀ F S rx
  | @bare xn c mt g b₀ su p1 p2 hds hs l hc hm hsu r ih =>
    intro x cls d S rx h
    unfold handle at h
    dsimp only at h
    cases em : mt x.c with
    | none => rw [em] at h; exact h.elim
    | some b =>
      rw [em] at h
      refine ⟨b, by rw [rx.1]; exact hm _ _ em, fun hb a ha => ?_, fun hb => ?_⟩
      · subst hb
        exact ⟨x, H₀, rx, H₀, F, ρ, S.fixed (Same.refl _) (fun i v z => nomatch z), aft_su hfx S.hx h⟩
      · subst hb
        exact ih S rx h
  | @named xn n i c mt g b₀ su p1 p2 hds hs l hN hc hm hsu r hi hl ih =>
    intro x cls d S rx h
    unfold handle at h
    dsimp only at h
    cases em : mt x.c with
    | none => rw [em] at h; exact h.elim
    | some b =>
      rw [em] at h
      refine ⟨b, by rw [rx.1]; exact hm _ _ em, fun hb a ha => ?_, fun hb => ?_⟩
      · subst hb
        dsimp only at h
        obtain ⟨F2, S2⟩ := S.goneAt i (some (.ref a)) fun j v z => (by rw [hfx] at z; cases z)
        by_cases hil : i < ρ.length
        rotate_left
        · rw [if_neg hil] at h
          exact h.elim
        rw [if_pos hil] at h
        have hil : i < σ.length := by rw [← S.env.length]; exact hil
        refine ⟨x, H₀, rx, H₀, F2, _, S2.fixed (Same.refl _) (fun j v z => ?_), aft_su2 hfx S.hx h⟩
        have z : (i, V.ref a) = (j, v) := Option.some.inj z
        cases z
        exact List.getElem?_set_self hil
      · subst hb
        exact ih S rx h
theorem qTry {f : Env → RS} (hst : X.stack = X.env :: X.outer) (hfr : X.env.frame = some X.env.locals) (hfx : C.fx = none) (tk : L2N.Takes X W)
    (hb : ∀ (W : WX) (pl : List (Addr × Obj)) (xe : Value → Shared → Prop), L2N.Takes (X.tr pl xe) W → PassesOwn (model X.prog X.w) X.A X.env xe → QSs C W (X.tr pl xe) body f)
    (hq : HdQ C X (h₀ :: hds) hs l) : QS C W X (.Try body (h₀ :: hds) [] [] pos) (sTry f hs) := by
  refine PS.imp (X3.ps_tryH (tb := fun W => tS C W f) hst hfr tk hb hq.ok) fun D σ H h => ?_
  obtain ⟨H₀, F, ρ, S, h⟩ := h
  refine ⟨H₀, F, ρ, S, ?_⟩
  unfold sTry at h
  cases q : f ρ with
  | er x ρ' =>
    rw [q] at h
    exact fun cls d σ' H' H₀' F' S' rx => handle_go hfx hq S' rx h
  | nx ρ' => rw [q] at h; exact h
  | rt o => rw [q] at h; exact h
  | bk ρ' => rw [q] at h; exact h
  | ct ρ' => rw [q] at h; exact h
  | no => rw [q] at h; exact h
/-! ### in a suite: the exception's fields, isinstance -/
section
variable {a : Addr} {ob : Obj} {cls : Value} {d : Option Addr} {pl : List (Addr × Obj)} {x : PX} {i : Nat} {xn : Str}
/-- a fixed slot's value -/
theorem qFixed {W : WX} {Hx : Hp} {X' : Cx} {Q : VK} (hN : X'.N[i]? = some xn) (S : SR { C with Hx := Hx, fx := some (i, .ref a) } H₀ F ρ σ H) : σ[i]? = some (some (.ref a)) := S.fx i _ rfl
def eXf (ok : Nat → Bool) (x : PX) (fl : Str) : Env → R PV := fun _ => if ok x.c = true then R.of (x.fs.lookup fl) else .no
theorem qXf {W : WX} {Hx : Hp} {fl : Str} {ok : Nat → Bool} (T : ∀ c, ok c = true → XfC X.K (C.G.CA c) ∧ PySem.W.findIn X.K (.ref (C.G.CA c)) fl = some none) (hz : L2N.Zn cls d ob) (hf : ∃ vs, ob.data = .fields vs) (rx : RepX C.G Hx x cls d)
    (hN : X.N[i]? = some xn := by rfl) (hv : Vis X.env.scope xn := by first | exact Or.inl rfl | exact Or.inr (Or.inl rfl) | exact Or.inr (Or.inr rfl)) (hd : (xn == ("__debug__" : Str)) = false := by decide)
    (hcd : (xn == ("__classdict__" : Str)) = false := by decide) (hb : attributeBase (.Name xn p) fl X.env (eval (.Name xn p) X.env) = eval (.Name xn p) X.env := by rfl) :
    QE { C with Hx := Hx, fx := some (i, .ref a) } W m (X.suite a ((a, ob) :: pl)) (.Attribute (.Name xn p) fl pos) (eXf ok x fl) := by
  have hE : PE (X.suite a ((a, ob) :: pl)) (.Name xn p) (tVar i) := pe_var (X := X.suite a ((a, ob) :: pl)) hN hv hd hcd
  cases hok : ok x.c with
  | false =>
    refine ⟨fun pins s σ H Q I h => ?_⟩
    obtain ⟨H₀, F, ρ, S, h⟩ := h
    unfold eXf at h
    rw [hok, if_neg Bool.false_ne_true] at h
    exact h.elim
  | true =>
    obtain ⟨T1, T2⟩ := T _ hok
    refine PE.imp (pe_xf T1 T2 hz.zc hf hE hb) fun σ H Q h => ?_
    obtain ⟨H₀, F, ρ, S, h⟩ := h
    unfold eXf at h
    rw [hok, if_pos rfl] at h
    refine ⟨.ref a, S.fx i _ rfl, rfl, rx.1, ?_⟩
    cases el : x.fs.lookup fl with
    | none => rw [el] at h; exact h.elim
    | some p =>
      rw [el] at h
      rcases rx.2 with ⟨e1, _⟩ | ⟨dd, vs, e1, e2, e3⟩
      · rw [e1] at el; cases el
      · obtain ⟨v, ev, rv⟩ := e3.get el
        refine ⟨dd, vs, v, e1, S.z _ _ (S.hx _ _ e2), ev, h v H H₀ (Ext.refl S.z) ?_⟩
        exact Rep.mono (z_md fun a ha => (S.fr a ha).2) (Rep.mono S.hx rv)
def eXi (ib : Nat → Option Bool) (x : PX) : Env → R PV := fun _ => R.of ((ib x.c).map .bl)
theorem qXi {W : WX} {Hx : Hp} {T : Str} {p1 p2 p3 : Pos} {A : Addr} {ib : Nat → Option Bool} (hm : X.mg "isinstance" = none) (hT : X.mg T = some (.ref A)) (hi : ∀ c b, ib c = some b → X3.ExI X.K (C.G.CA c) ∧ PySem.W.kitOne X.K (.ref (C.G.CA c)) (.ref A) = some b)
    (hz : L2N.Zn cls d ob) (hf : ∃ vs, ob.data = .fields vs) (rx : RepX C.G Hx x cls d)
    (hN : X.N[i]? = some xn := by rfl) (hv : Vis X.env.scope xn := by first | exact Or.inl rfl | exact Or.inr (Or.inl rfl) | exact Or.inr (Or.inr rfl)) (hd : (xn == ("__debug__" : Str)) = false := by decide)
    (hcd : (xn == ("__classdict__" : Str)) = false := by decide) (hg : Gl X "isinstance" := by rfl) (hgT : Gl X T := by rfl) (hdT : (T == ("__debug__" : Str)) = false := by decide)
    (he : starEach (.Name xn p1 :: .Name T p2 :: []) X.env = (false, eval (.Name xn p1) X.env) :: starEach [.Name T p2] X.env := by rfl) (hpl : (backTo pos (starEach [.Name T p2] X.env)).any (·.1) = false := by rfl)
    (hs1 : starEach [.Name T p2] X.env = [(false, eval (.Name T p2) X.env)] := by rfl) :
    QE { C with Hx := Hx, fx := some (i, .ref a) } W m (X.suite a ((a, ob) :: pl)) (.Call (.Name "isinstance" p3) [.Name xn p1, .Name T p2] [] pos) (eXi ib x) := by
  have hE : PE (X.suite a ((a, ob) :: pl)) (.Name xn p1) (tVar i) := pe_var (X := X.suite a ((a, ob) :: pl)) hN hv hd hcd
  cases hok : ib x.c with
  | none =>
    refine ⟨fun pins s σ H Q I h => ?_⟩
    obtain ⟨H₀, F, ρ, S, h⟩ := h
    unfold eXi at h
    rw [hok] at h
    exact h.elim
  | some b =>
    obtain ⟨T1, T2⟩ := hi _ _ hok
    have hgE : PE (X.suite a ((a, ob) :: pl)) (.Name T p2) (tC (.ref A)) := pe_glob (X := X.suite a ((a, ob) :: pl)) hgT hT rfl hdT
    have hA : PA (X.suite a ((a, ob) :: pl)) [.Name xn p1, .Name T p2] (tCons (tVar i) (tCons (tC (.ref A)) tNil)) := pa_cons hE (pa_cons hgE pa_nil hs1) he
    have hcl : cls = .ref (C.G.CA x.c) := rx.1
    obtain ⟨fs, hfs⟩ : ∃ fs : List (Str × V), ∀ H₀ : Hp, Same Hx H₀ → ∀ dd, d = some dd → H₀ dd = some (.xd fs) := by
      rcases rx.2 with ⟨_, e1⟩ | ⟨dd, vs, e1, e2, e3⟩
      · exact ⟨[], fun H₀ _ dd z => by rw [e1] at z; cases z⟩
      · exact ⟨vs, fun H₀ z dd' z' => by rw [e1] at z'; cases z'; exact z _ _ e2⟩
    have hz' : Zc (.ref (C.G.CA x.c)) d ob := by rw [← hcl]; exact hz.zc
    have hcr := X3.call_isX (X := X) (a := a) (fs := fs) (pn := pl) T1 hz' hf
    refine PE.imp (pe_callB (X := X.suite a ((a, ob) :: pl)) hcr hg hm bt_isi hA (by decide) (by decide) he hpl) fun σ H Q h => ?_
    obtain ⟨H₀, F, ρ, S, h⟩ := h
    unfold eXi at h
    rw [hok] at h
    refine ⟨.ref a, S.fx i _ rfl, ⟨fun dd z => S.z _ _ (hfs _ S.hx dd z), .ref A, .ref A, b, rfl, fun u ru => ru, T2, ?_⟩⟩
    exact h (.bl b) H H₀ (Ext.refl S.z) (by simp only [Rep])
end
end
end L3

end
section
/-! L3. 9: what is owned is changed in place -/
namespace L3
open PySem PySem.Spec PyProof.Rows L2
inductive Stp where
  | ix (j : Nat) | fl (f : Str)
def putO (f : Str) (v : OV) : List (Str × OV) → List (Str × OV)
  | [] => [(f, v)]
  | (g, x) :: r => if g = f then (g, v) :: r else (g, x) :: putO f v r
def getP : List Stp → OV → Option OV
  | [], o => some o
  | .ix j :: π, .own l => (l[j]?).bind (getP π)
  | .fl f :: π, .obj _ fs => (fs.lookup f).bind (getP π)
  | _, _ => none
def setP : List Stp → OV → OV → OV
  | [], _, n => n
  | .ix j :: π, .own l, n => (match l[j]? with
    | some o => .own (l.set j (setP π o n))
    | none => .own l)
  | .fl f :: π, .obj c fs, n => (match fs.lookup f with
    | some o => .obj c (putO f (setP π o n) fs)
    | none => .obj c fs)
  | _, o, _ => o
/-- the value at a path -/
def AtP (H : Hp) : V → List Stp → V → Prop
  | v, [], w => v = w
  | v, .ix j :: π, w => ∃ a xs x, v = .ref a ∧ H a = some (.lst xs) ∧ xs[j]? = some x ∧ AtP H x π w
  | v, .fl f :: π, w => ∃ a c dx fs x, v = .ref a ∧ H a = some (.ins c dx fs) ∧ fs.lookup f = some x ∧ AtP H x π w
section
variable {G : Gc} {H₀ H H' : Hp}
theorem AtP.mono (e : Same H H') : ∀ {π : List Stp} {v w : V}, AtP H v π w → AtP H' v π w
  | [], _, _, h => h
  | .ix j :: π, v, w, h => by
    obtain ⟨a, xs, x, h1, h2, h3, h4⟩ := h
    exact ⟨a, xs, x, h1, e _ _ h2, h3, AtP.mono e h4⟩
  | .fl f :: π, v, w, h => by
    obtain ⟨a, c, dx, fs, x, h1, h2, h3, h4⟩ := h
    exact ⟨a, c, dx, fs, x, h1, e _ _ h2, h3, AtP.mono e h4⟩
theorem AtP.det : ∀ {π : List Stp} {v w w' : V}, AtP H v π w → AtP H v π w' → w = w'
  | [], _, _, _, h, k => (show _ = _ from h).symm.trans k
  | .ix j :: π, v, w, w', h, k => by
    obtain ⟨a, xs, x, h1, h2, h3, h4⟩ := h
    obtain ⟨a', xs', x', k1, k2, k3, k4⟩ := k
    subst h1
    cases k1
    rw [h2] at k2
    cases k2
    rw [h3] at k3
    cases k3
    exact AtP.det h4 k4
  | .fl f :: π, v, w, w', h, k => by
    obtain ⟨a, c, dx, fs, x, h1, h2, h3, h4⟩ := h
    obtain ⟨a', c', dx', fs', x', k1, k2, k3, k4⟩ := k
    subst h1
    cases k1
    rw [h2] at k2
    cases k2
    rw [h3] at k3
    cases k3
    exact AtP.det h4 k4
theorem AtP.snoc {s : Stp} {u : V} : ∀ {π : List Stp} {v w : V}, AtP H v π w → AtP H w [s] u → AtP H v (π ++ [s]) u
  | [], v, w, h, k => by
    have h : v = w := h
    subst h
    exact k
  | .ix j :: π, v, w, h, k => by
    obtain ⟨a, xs, x, h1, h2, h3, h4⟩ := h
    exact ⟨a, xs, x, h1, h2, h3, AtP.snoc h4 k⟩
  | .fl f :: π, v, w, h, k => by
    obtain ⟨a, c, dx, fs, x, h1, h2, h3, h4⟩ := h
    exact ⟨a, c, dx, fs, x, h1, h2, h3, AtP.snoc h4 k⟩
theorem getP_snoc {s : Stp} : ∀ {π : List Stp} {o sub : OV}, getP π o = some sub → getP (π ++ [s]) o = getP [s] sub
  | [], o, sub, h => by cases h; rfl
  | .ix j :: π, o, sub, h => by
    cases o with
    | own l =>
      show ((l[j]?).bind (getP (π ++ [s]))) = _
      have h : (l[j]?).bind (getP π) = some sub := h
      cases e : l[j]? with
      | none => rw [e] at h; cases h
      | some o => rw [e] at h; exact getP_snoc (π := π) h
    | sh p => cases h
    | obj c fs => cases h
  | .fl f :: π, o, sub, h => by
    cases o with
    | obj c fs =>
      show ((fs.lookup f).bind (getP (π ++ [s]))) = _
      have h : (fs.lookup f).bind (getP π) = some sub := h
      cases e : fs.lookup f with
      | none => rw [e] at h; cases h
      | some o => rw [e] at h; exact getP_snoc (π := π) h
    | sh p => cases h
    | own l => cases h
/-- what a change below must keep -/
def Upd (G : Gc) (H₀ H : Hp) (F Fs : List Addr) (vs : V) (K : Hp → List Addr → OV → Prop) : Prop :=
  ∀ H' sub' Fs', (∀ b ∈ F, b ∉ Fs → H' b = H b) → OwnR G H₀ H' sub' vs Fs' → Fs'.Nodup → (∀ b ∈ Fs', b ∈ Fs ∨ b ∉ F) → ∃ F', K H' F' sub' ∧ F'.Nodup ∧ ∀ b ∈ F', (b ∈ F ∧ b ∉ Fs) ∨ b ∈ Fs'
theorem OwnRs.upd : ∀ {l : List OV} {xs : List V} {F : List Addr} {j : Nat} {o : OV}, OwnRs G H₀ H l xs F → l[j]? = some o → F.Nodup → ∃ x Fj, xs[j]? = some x ∧ OwnR G H₀ H o x Fj ∧ Fj.Nodup ∧ (∀ b ∈ Fj, b ∈ F) ∧ Upd G H₀ H F Fj x fun H' F' o' => OwnRs G H₀ H' (l.set j o') xs F'
  | [], xs, F, j, o, h, e, nd => by simp at e
  | q :: l, xs, F, 0, o, h, e, nd => by
    simp only [OwnRs] at h
    obtain ⟨x, ys, F1, F2, h1, h2, h3, h4⟩ := h
    subst h1 h2
    simp at e
    subst e
    obtain ⟨n1, n2, n3⟩ := List.nodup_append.mp nd
    refine ⟨x, F1, rfl, h3, n1, fun b hb => List.mem_append_left _ hb, fun H' o' Fs' hk r nd' hm => ?_⟩
    refine ⟨Fs' ++ F2, ?_, List.nodup_append.mpr ⟨nd', n2, fun a ha b hb e => ?_⟩, fun b hb => ?_⟩
    · simp only [List.set_cons_zero, OwnRs]
      exact ⟨x, ys, Fs', F2, rfl, rfl, r, OwnRs.mono (Same.refl _) (fun b hb => hk b (List.mem_append_right _ hb) fun z => n3 b z b hb rfl) h4⟩
    · subst e
      rcases hm a ha with z | z
      · exact n3 a z a hb rfl
      · exact z (List.mem_append_right _ hb)
    · rcases List.mem_append.mp hb with z | z
      · exact .inr z
      · exact .inl ⟨List.mem_append_right _ z, fun y => n3 b y b z rfl⟩
  | q :: l, xs, F, j + 1, o, h, e, nd => by
    simp only [OwnRs] at h
    obtain ⟨x, ys, F1, F2, h1, h2, h3, h4⟩ := h
    subst h1 h2
    obtain ⟨n1, n2, n3⟩ := List.nodup_append.mp nd
    obtain ⟨w, Fj, e1, e2, e3, e4, e5⟩ := OwnRs.upd (j := j) h4 (by simpa using e) n2
    refine ⟨w, Fj, by simpa using e1, e2, e3, fun b hb => List.mem_append_right _ (e4 b hb), fun H' o' Fs' hk r nd' hm => ?_⟩
    obtain ⟨F', k1, k2, k3⟩ := e5 H' o' Fs' (fun b hb hn => hk b (List.mem_append_right _ hb) hn) r nd' fun b hb => (hm b hb).imp id fun z y => z (List.mem_append_right _ y)
    refine ⟨F1 ++ F', ?_, List.nodup_append.mpr ⟨n1, k2, fun a ha b hb e => ?_⟩, fun b hb => ?_⟩
    · simp only [List.set_cons_succ, OwnRs]
      exact ⟨x, ys, F1, F', rfl, rfl, OwnR.mono (Same.refl _) (fun b hb => hk b (List.mem_append_left _ hb) fun z => n3 b hb b (e4 b z) rfl) h3, k1⟩
    · subst e
      rcases k3 a hb with z | z
      · exact n3 a ha a z.1 rfl
      · rcases hm a z with y | y
        · exact n3 a ha a (e4 a y) rfl
        · exact y (List.mem_append_left _ ha)
    · rcases List.mem_append.mp hb with z | z
      · exact .inl ⟨List.mem_append_left _ z, fun y => n3 b z b (e4 b y) rfl⟩
      · exact (k3 b z).imp (fun y => ⟨List.mem_append_right _ y.1, y.2⟩) id
theorem OwnRf.upd : ∀ {l : List (Str × OV)} {xs : List (Str × V)} {F : List Addr} {f : Str} {o : OV}, OwnRf G H₀ H l xs F → l.lookup f = some o → F.Nodup → ∃ x Fj, xs.lookup f = some x ∧ OwnR G H₀ H o x Fj ∧ Fj.Nodup ∧ (∀ b ∈ Fj, b ∈ F) ∧ Upd G H₀ H F Fj x fun H' F' o' => OwnRf G H₀ H' (putO f o' l) xs F'
  | [], xs, F, j, o, h, e, nd => by simp at e
  | (g, q) :: l, xs, F, f, o, h, e, nd => by
    simp only [OwnRf] at h
    obtain ⟨x, ys, F1, F2, h1, h2, h3, h4⟩ := h
    subst h1 h2
    obtain ⟨n1, n2, n3⟩ := List.nodup_append.mp nd
    by_cases hg : g = f
    · subst hg
      have hb : (g == g) = true := beq_self_eq_true g
      simp only [List.lookup, hb, Option.some.injEq] at e ⊢
      subst e
      refine ⟨x, F1, rfl, h3, n1, fun b hb => List.mem_append_left _ hb, fun H' o' Fs' hk r nd' hm => ?_⟩
      refine ⟨Fs' ++ F2, ?_, List.nodup_append.mpr ⟨nd', n2, fun a ha b hb e => ?_⟩, fun b hb => ?_⟩
      · simp only [putO, if_true, OwnRf]
        exact ⟨x, ys, Fs', F2, rfl, rfl, r, OwnRf.mono (Same.refl _) (fun b hb => hk b (List.mem_append_right _ hb) fun z => n3 b z b hb rfl) h4⟩
      · subst e
        rcases hm a ha with z | z
        · exact n3 a z a hb rfl
        · exact z (List.mem_append_right _ hb)
      · rcases List.mem_append.mp hb with z | z
        · exact .inr z
        · exact .inl ⟨List.mem_append_right _ z, fun y => n3 b y b z rfl⟩
    · have hb : (f == g) = false := beq_eq_false_iff_ne.mpr (Ne.symm hg)
      simp only [List.lookup, hb] at e ⊢
      obtain ⟨w, Fj, e1, e2, e3, e4, e5⟩ := OwnRf.upd h4 e n2
      refine ⟨w, Fj, e1, e2, e3, fun b hb => List.mem_append_right _ (e4 b hb), fun H' o' Fs' hk r nd' hm => ?_⟩
      obtain ⟨F', k1, k2, k3⟩ := e5 H' o' Fs' (fun b hb hn => hk b (List.mem_append_right _ hb) hn) r nd' fun b hb => (hm b hb).imp id fun z y => z (List.mem_append_right _ y)
      refine ⟨F1 ++ F', ?_, List.nodup_append.mpr ⟨n1, k2, fun a ha b hb e => ?_⟩, fun b hb => ?_⟩
      · simp only [putO, if_neg hg, OwnRf]
        exact ⟨x, ys, F1, F', rfl, rfl, OwnR.mono (Same.refl _) (fun b hb => hk b (List.mem_append_left _ hb) fun z => n3 b hb b (e4 b z) rfl) h3, k1⟩
      · subst e
        rcases k3 a hb with z | z
        · exact n3 a ha a z.1 rfl
        · rcases hm a z with y | y
          · exact n3 a ha a (e4 a y) rfl
          · exact y (List.mem_append_left _ ha)
      · rcases List.mem_append.mp hb with z | z
        · exact .inl ⟨List.mem_append_left _ z, fun y => n3 b z b (e4 b y) rfl⟩
        · exact (k3 b z).imp (fun y => ⟨List.mem_append_right _ y.1, y.2⟩) id
theorem OwnR.upd : ∀ (π : List Stp) {o sub : OV} {v : V} {F : List Addr}, OwnR G H₀ H o v F → getP π o = some sub → F.Nodup → ∃ vs Fs, OwnR G H₀ H sub vs Fs ∧ Fs.Nodup ∧ (∀ b ∈ Fs, b ∈ F) ∧ AtP H v π vs ∧ Upd G H₀ H F Fs vs fun H' F' sub' => OwnR G H₀ H' (setP π o sub') v F'
  | [], o, sub, v, F, h, e, nd => by
    cases e
    exact ⟨v, F, h, nd, fun _ hb => hb, rfl, fun H' o' Fs' hk r nd' hm => ⟨Fs', r, nd', fun b hb => .inr hb⟩⟩
  | .ix j :: π, o, sub, v, F, h, e, nd => by
    cases o with
    | sh p => cases e
    | obj c fs => cases e
    | own l =>
      have e : (l[j]?).bind (getP π) = some sub := e
      cases ej : l[j]? with
      | none => rw [ej] at e; cases e
      | some oj =>
        rw [ej] at e
        simp only [OwnR] at h
        obtain ⟨a, xs, F', h1, h2, h3, h4⟩ := h
        subst h2
        obtain ⟨na, nd'⟩ := List.nodup_cons.mp nd
        obtain ⟨x, Fj, p1, p2, p3, p4, p5⟩ := OwnRs.upd h4 ej nd'
        obtain ⟨vs, Fs, q1, q2, q3, q4, q5⟩ := OwnR.upd π p2 e p3
        refine ⟨vs, Fs, q1, q2, fun b hb => List.mem_cons_of_mem _ (p4 b (q3 b hb)), ⟨a, xs, x, h1, h3, p1, q4⟩, fun H' sub' Fs' hk r ndr hm => ?_⟩
        obtain ⟨F1, r1, r2, r3⟩ := q5 H' sub' Fs' (fun b hb hn => hk b (List.mem_cons_of_mem _ (p4 b hb)) hn) r ndr fun b hb => (hm b hb).imp id fun z y => z (List.mem_cons_of_mem _ (p4 b y))
        obtain ⟨F2, s1, s2, s3⟩ := p5 H' (setP π oj sub') F1 (fun b hb hn => hk b (List.mem_cons_of_mem _ hb) fun z => hn (q3 b z)) r1 r2 fun b hb => by
          rcases r3 b hb with z | z
          · exact .inl z.1
          · rcases hm b z with y | y
            · exact .inl (q3 b y)
            · exact .inr fun w => y (List.mem_cons_of_mem _ w)
        have ab : a ∉ Fs := fun z => na (p4 a (q3 a z))
        have aF2 : a ∉ F2 := fun z => by
          rcases s3 a z with y | y
          · exact na y.1
          · rcases r3 a y with w | w
            · exact na (p4 a w.1)
            · rcases hm a w with u | u
              · exact ab u
              · exact u List.mem_cons_self
        refine ⟨a :: F2, ?_, List.nodup_cons.mpr ⟨aF2, s2⟩, fun b hb => ?_⟩
        · show OwnR G H₀ H' (match l[j]? with | some o => OV.own (l.set j (setP π o sub')) | none => OV.own l) v (a :: F2)
          rw [ej]
          simp only [OwnR]
          exact ⟨a, xs, F2, h1, rfl, by rw [hk a List.mem_cons_self ab]; exact h3, s1⟩
        · rcases List.mem_cons.mp hb with z | z
          · rw [z]
            exact .inl ⟨List.mem_cons_self, ab⟩
          · rcases s3 b z with y | y
            · exact .inl ⟨List.mem_cons_of_mem _ y.1, fun w => y.2 (q3 b w)⟩
            · exact (r3 b y).imp (fun w => ⟨List.mem_cons_of_mem _ (p4 b w.1), w.2⟩) id
  | .fl f :: π, o, sub, v, F, h, e, nd => by
    cases o with
    | sh p => cases e
    | own l => cases e
    | obj c fs =>
      have e : (fs.lookup f).bind (getP π) = some sub := e
      cases ej : fs.lookup f with
      | none => rw [ej] at e; cases e
      | some oj =>
        rw [ej] at e
        simp only [OwnR] at h
        obtain ⟨a, dx, xs, F', h1, h2, h3, h4⟩ := h
        subst h2
        obtain ⟨na, nd'⟩ := List.nodup_cons.mp nd
        obtain ⟨x, Fj, p1, p2, p3, p4, p5⟩ := OwnRf.upd h4 ej nd'
        obtain ⟨vs, Fs, q1, q2, q3, q4, q5⟩ := OwnR.upd π p2 e p3
        refine ⟨vs, Fs, q1, q2, fun b hb => List.mem_cons_of_mem _ (p4 b (q3 b hb)), ⟨a, _, dx, xs, x, h1, h3, p1, q4⟩, fun H' sub' Fs' hk r ndr hm => ?_⟩
        obtain ⟨F1, r1, r2, r3⟩ := q5 H' sub' Fs' (fun b hb hn => hk b (List.mem_cons_of_mem _ (p4 b hb)) hn) r ndr fun b hb => (hm b hb).imp id fun z y => z (List.mem_cons_of_mem _ (p4 b y))
        obtain ⟨F2, s1, s2, s3⟩ := p5 H' (setP π oj sub') F1 (fun b hb hn => hk b (List.mem_cons_of_mem _ hb) fun z => hn (q3 b z)) r1 r2 fun b hb => by
          rcases r3 b hb with z | z
          · exact .inl z.1
          · rcases hm b z with y | y
            · exact .inl (q3 b y)
            · exact .inr fun w => y (List.mem_cons_of_mem _ w)
        have ab : a ∉ Fs := fun z => na (p4 a (q3 a z))
        have aF2 : a ∉ F2 := fun z => by
          rcases s3 a z with y | y
          · exact na y.1
          · rcases r3 a y with w | w
            · exact na (p4 a w.1)
            · rcases hm a w with u | u
              · exact ab u
              · exact u List.mem_cons_self
        refine ⟨a :: F2, ?_, List.nodup_cons.mpr ⟨aF2, s2⟩, fun b hb => ?_⟩
        · show OwnR G H₀ H' (match fs.lookup f with | some o => OV.obj c (putO f (setP π o sub') fs) | none => OV.obj c fs) v (a :: F2)
          rw [ej]
          simp only [OwnR]
          exact ⟨a, dx, xs, F2, h1, rfl, by rw [hk a List.mem_cons_self ab]; exact h3, s1⟩
        · rcases List.mem_cons.mp hb with z | z
          · rw [z]
            exact .inl ⟨List.mem_cons_self, ab⟩
          · rcases s3 b z with y | y
            · exact .inl ⟨List.mem_cons_of_mem _ y.1, fun w => y.2 (q3 b w)⟩
            · exact (r3 b y).imp (fun w => ⟨List.mem_cons_of_mem _ (p4 b w.1), w.2⟩) id
theorem EnvR.upd : ∀ {ρ : Env} {σ : L2.St} {F : List Addr} {i : Nat} {π : List Stp} {o sub : OV}, EnvR G H₀ H ρ σ F → ρ[i]? = some (some o) → getP π o = some sub → F.Nodup →
    ∃ v vs Fs, σ[i]? = some (some v) ∧ OwnR G H₀ H sub vs Fs ∧ Fs.Nodup ∧ (∀ b ∈ Fs, b ∈ F) ∧ AtP H v π vs ∧ Upd G H₀ H F Fs vs fun H' F' sub' => EnvR G H₀ H' (ρ.set i (some (setP π o sub'))) σ F'
  | [], σ, F, i, π, o, sub, h, e, g, nd => by simp at e
  | none :: ρ, σ, F, 0, π, o, sub, h, e, g, nd => by simp at e
  | none :: ρ, σ, F, i + 1, π, o, sub, h, e, g, nd => by
    obtain ⟨x, τ, h1, h2⟩ := h
    subst h1
    obtain ⟨v, vs, Fs, e1, e2, e3, e4, e5, e6⟩ := EnvR.upd (i := i) h2 (by simpa using e) g nd
    refine ⟨v, vs, Fs, by simpa using e1, e2, e3, e4, e5, fun H' sub' Fs' hk r nd' hm => ?_⟩
    obtain ⟨F', k1, k2, k3⟩ := e6 H' sub' Fs' hk r nd' hm
    exact ⟨F', ⟨x, τ, rfl, k1⟩, k2, k3⟩
  | some o' :: ρ, σ, F, 0, π, o, sub, h, e, g, nd => by
    obtain ⟨v, τ, F1, F2, h1, h2, h3, h4⟩ := h
    subst h1 h2
    simp at e
    subst e
    obtain ⟨n1, n2, n3⟩ := List.nodup_append.mp nd
    obtain ⟨vs, Fs, q1, q2, q3, q4, q5⟩ := OwnR.upd π h3 g n1
    refine ⟨v, vs, Fs, rfl, q1, q2, fun b hb => List.mem_append_left _ (q3 b hb), q4, fun H' sub' Fs' hk r nd' hm => ?_⟩
    obtain ⟨F', k1, k2, k3⟩ := q5 H' sub' Fs' (fun b hb hn => hk b (List.mem_append_left _ hb) hn) r nd' fun b hb => (hm b hb).imp id fun z y => z (List.mem_append_left _ y)
    refine ⟨F' ++ F2, ⟨v, τ, F', F2, rfl, rfl, k1, EnvR.mono (Same.refl _) (fun b hb => hk b (List.mem_append_right _ hb) fun z => n3 b (q3 b z) b hb rfl) h4⟩, List.nodup_append.mpr ⟨k2, n2, fun a ha b hb e => ?_⟩, fun b hb => ?_⟩
    · subst e
      rcases k3 a ha with z | z
      · exact n3 a z.1 a hb rfl
      · rcases hm a z with y | y
        · exact n3 a (q3 a y) a hb rfl
        · exact y (List.mem_append_right _ hb)
    · rcases List.mem_append.mp hb with z | z
      · exact (k3 b z).imp (fun y => ⟨List.mem_append_left _ y.1, y.2⟩) id
      · exact .inl ⟨List.mem_append_right _ z, fun y => n3 b (q3 b y) b z rfl⟩
  | some o' :: ρ, σ, F, i + 1, π, o, sub, h, e, g, nd => by
    obtain ⟨v0, τ, F1, F2, h1, h2, h3, h4⟩ := h
    subst h1 h2
    obtain ⟨n1, n2, n3⟩ := List.nodup_append.mp nd
    obtain ⟨v, vs, Fs, e1, e2, e3, e4, e5, e6⟩ := EnvR.upd (i := i) h4 (by simpa using e) g n2
    refine ⟨v, vs, Fs, by simpa using e1, e2, e3, fun b hb => List.mem_append_right _ (e4 b hb), e5, fun H' sub' Fs' hk r nd' hm => ?_⟩
    obtain ⟨F', k1, k2, k3⟩ := e6 H' sub' Fs' (fun b hb hn => hk b (List.mem_append_right _ hb) hn) r nd' fun b hb => (hm b hb).imp id fun z y => z (List.mem_append_right _ y)
    refine ⟨F1 ++ F', ⟨v0, τ, F1, F', rfl, rfl, OwnR.mono (Same.refl _) (fun b hb => hk b (List.mem_append_left _ hb) fun z => n3 b hb b (e4 b z) rfl) h3, k1⟩, List.nodup_append.mpr ⟨n1, k2, fun a ha b hb e => ?_⟩, fun b hb => ?_⟩
    · subst e
      rcases k3 a hb with z | z
      · exact n3 a ha a z.1 rfl
      · rcases hm a z with y | y
        · exact n3 a ha a (e4 a y) rfl
        · exact y (List.mem_append_left _ ha)
    · rcases List.mem_append.mp hb with z | z
      · exact .inl ⟨List.mem_append_left _ z, fun y => n3 b z b (e4 b y) rfl⟩
      · exact (k3 b z).imp (fun y => ⟨List.mem_append_right _ y.1, y.2⟩) id
end
end L3

end
section
/-! L3. 10: paths to what is owned; append, stores -/
namespace L3
open PySem PySem.Spec PyProof.Rows L2
abbrev Pth := Nat × List Stp
def atE (ρ : Env) (q : Pth) : Option OV := match ρ[q.1]? with
  | some (some o) => getP q.2 o
  | _ => none
def upE (ρ : Env) (q : Pth) (n : OV) : Env := match ρ[q.1]? with
  | some (some o) => ρ.set q.1 (some (setP q.2 o n))
  | _ => ρ
section
variable {C : Fc} {W : WX} {D : Ends} {m : Bool} {X : Cx} {o e b : Expr} {es : List Expr} {pos p : Pos} {σ : L2.St} {H H₀ : Hp} {F : List Addr} {ρ : Env} {x : Str} {i : Nat}
theorem SR.at (S : SR C H₀ F ρ σ H) {q : Pth} {sub : OV} (h : atE ρ q = some sub) : ∃ t vs Fs, σ[q.1]? = some (some t) ∧ OwnR C.G H₀ H sub vs Fs ∧ Fs.Nodup ∧ (∀ b ∈ Fs, b ∈ F) ∧ AtP H t q.2 vs ∧
    ∀ a ho Fs0 sub' Fs', Fs = a :: Fs0 → OwnR C.G H₀ (upd H a ho) sub' vs Fs' → Fs'.Nodup → (∀ b ∈ Fs', b ∈ Fs ∨ (b ∉ F ∧ C.He b = none ∧ H₀ b = none)) → ∃ F', SR C H₀ F' (upE ρ q sub') σ (upd H a ho) := by
  unfold atE at h
  cases e : ρ[q.1]? with
  | none => rw [e] at h; cases h
  | some oo =>
    rw [e] at h
    cases oo with
    | none => cases h
    | some o =>
      obtain ⟨v, vs, Fs, e1, e2, e3, e4, e5, e6⟩ := EnvR.upd (π := q.2) S.env e h S.nd
      refine ⟨v, vs, Fs, e1, e2, e3, e4, e5, fun a ho Fs0 sub' Fs' ea r nd hm => ?_⟩
      have aF : a ∈ F := e4 a (by rw [ea]; exact List.mem_cons_self)
      have aFs : a ∈ Fs := by rw [ea]; exact List.mem_cons_self
      obtain ⟨F', k1, k2, k3⟩ := e6 (upd H a ho) sub' Fs' (fun b _ hn => upd_ne fun z => hn (z ▸ aFs)) r nd fun b hb => (hm b hb).imp id fun z => z.1
      unfold upE
      rw [e]
      refine ⟨F', fun c u q => ?_, fun c u q => ?_, S.n, S.hz, k1, k2, fun b hb => ?_, S.fx, S.hx⟩
      · rw [upd_ne fun z => by rw [z, (S.fr a aF).1] at q; cases q]
        exact S.e c u q
      · rw [upd_ne fun z => by rw [z, (S.fr a aF).2] at q; cases q]
        exact S.z c u q
      · rcases k3 b hb with z | z
        · exact S.fr b z.1
        · rcases hm b z with y | y
          · exact S.fr b (e4 b y)
          · exact y.2
/-! ### paths -/
def tP (C : Fc) (W : WX) (g : Env → R Pth) : TE := fun σ H Q => ∃ H₀ F ρ, SR C H₀ F ρ σ H ∧ Goes C.G W (g ρ) σ H H₀ fun q => ∀ v t H' H₀', Ext H₀ H H₀' H' → σ[q.1]? = some (some t) → AtP H' t q.2 v → Q v H'
abbrev QP (C : Fc) (W : WX) (X : Cx) (e : Expr) (g : Env → R Pth) : Prop := PE X e (tP C W g)
def pthR (ρ : Env) (q : Pth) : R Pth := match atE ρ q with
  | some (.own _) => .ok q
  | some (.obj _ _) => .ok q
  | _ => .no
def pVar (i : Nat) : Env → R Pth := fun ρ => pthR ρ (i, [])
theorem pthR_some {q q' : Pth} (h : pthR ρ q = .ok q') : q' = q ∧ ∃ sub, atE ρ q = some sub := by
  unfold pthR at h
  cases e : atE ρ q with
  | none => rw [e] at h; cases h
  | some o =>
    rw [e] at h
    cases o with
    | sh p => cases h
    | own l => cases h; exact ⟨rfl, _, rfl⟩
    | obj c fs => cases h; exact ⟨rfl, _, rfl⟩
theorem pthR_calm {q : Pth} {x : PX} : pthR ρ q ≠ .er x := by
  unfold pthR
  split <;> (intro z; cases z)
theorem qpVar (i : Nat) {x : Str} (hN : X.N[i]? = some x := by rfl) (hv : Vis X.env.scope x := by first | exact Or.inl rfl | exact Or.inr (Or.inl rfl) | exact Or.inr (Or.inr rfl)) (hd : (x == ("__debug__" : Str)) = false := by decide)
    (hcd : (x == ("__classdict__" : Str)) = false := by decide) : QP C W X (.Name x pos) (pVar i) := by
  refine PE.imp (pe_var hN hv hd hcd) fun σ H Q h => ?_
  obtain ⟨H₀, F, ρ, S, h⟩ := h
  unfold pVar at h
  cases e : pthR ρ (i, []) with
  | er x => exact absurd e pthR_calm
  | no => rw [e] at h; exact h.elim
  | ok q =>
    obtain ⟨rfl, sub, hs⟩ := pthR_some e
    rw [e] at h
    obtain ⟨t, vs, Fs, e1, _, _, _, e5, _⟩ := S.at hs
    exact ⟨t, e1, h t t H H₀ (Ext.refl S.z) e1 rfl⟩
/-- b[e] on the way -/
def pIx (g : Env → R Pth) (f : Env → R PV) : Env → R Pth := fun ρ => (g ρ).bind fun q => (f ρ).bind fun p => match atE ρ q, p with
  | some (.own l), .int k => (match ixN l.length k with
    | some j => pthR ρ (q.1, q.2 ++ [.ix j])
    | none => .no)
  | _, _ => .no
theorem atE_snoc {q : Pth} {sub : OV} {s : Stp} (h : atE ρ q = some sub) : atE ρ (q.1, q.2 ++ [s]) = getP [s] sub := by
  unfold atE at h ⊢
  cases e : ρ[q.1]? with
  | none => rw [e] at h; cases h
  | some oo =>
    rw [e] at h
    cases oo with
    | none => cases h
    | some o => exact getP_snoc h
theorem OwnRs.get {G : Gc} {H₀ H : Hp} : ∀ {l : List OV} {xs : List V} {F : List Addr} {j : Nat} {o : OV}, OwnRs G H₀ H l xs F → l[j]? = some o → ∃ x Fj, xs[j]? = some x ∧ OwnR G H₀ H o x Fj ∧ ∀ b ∈ Fj, b ∈ F
  | [], xs, F, j, o, h, e => by simp at e
  | q :: l, xs, F, 0, o, h, e => by
    simp only [OwnRs] at h
    obtain ⟨x, ys, F1, F2, h1, h2, h3, h4⟩ := h
    subst h1 h2
    simp at e
    subst e
    exact ⟨x, F1, rfl, h3, fun b hb => List.mem_append_left _ hb⟩
  | q :: l, xs, F, j + 1, o, h, e => by
    simp only [OwnRs] at h
    obtain ⟨x, ys, F1, F2, h1, h2, h3, h4⟩ := h
    subst h1 h2
    obtain ⟨w, Fj, e1, e2, e3⟩ := OwnRs.get (j := j) h4 (by simpa using e)
    exact ⟨w, Fj, by simpa using e1, e2, fun b hb => List.mem_append_right _ (e3 b hb)⟩
theorem OwnRs.length {G : Gc} {H₀ H : Hp} : ∀ {l : List OV} {xs : List V} {F : List Addr}, OwnRs G H₀ H l xs F → l.length = xs.length
  | [], xs, F, h => by simp only [OwnRs] at h; rw [h.1]; rfl
  | q :: l, xs, F, h => by
    simp only [OwnRs] at h
    obtain ⟨x, ys, F1, F2, h1, h2, h3, h4⟩ := h
    subst h1
    simp only [List.length_cons, OwnRs.length h4]
theorem qpIx {g : Env → R Pth} {f : Env → R PV} (hb : QP C W X b g) (hi : QE C W m X e f) (hs : PlainIx e := by exact fun _ _ => rfl) : QP C W X (.Subscript b e pos) (pIx g f) := by
  refine PE.imp (pe_ix ix_list hb hi hs) fun σ H Q h => ?_
  show tP C W g σ H fun x H1 => tE C W m f σ H1 fun y H2 => rIxL X.K x y H2 Q
  obtain ⟨H₀, F, ρ, S, h⟩ := h
  unfold pIx at h
  rw [Goes.bind] at h
  refine ⟨H₀, F, ρ, S, h.imp fun q eq h v t H1 H₁ E1 et ev => ?_⟩
  rw [Goes.bind] at h
  rw [tE_iff]
  have S1 := S.ext E1
  refine ⟨H₁, F, ρ, S1, (h.later E1).imp fun p _ h w H2 H₂ E2 rw' => ?_⟩
  have S2 := S1.ext E2
  cases ea : atE ρ q with
  | none => rw [ea] at h; exact (show False from h).elim
  | some sub =>
    rw [ea] at h
    match sub, p, ea, h, rw' with
    | .own l, .int k, ea, h, rw' =>
      dsimp only at h
      cases ej : ixN l.length k with
      | none => rw [ej] at h; exact h.elim
      | some j =>
        rw [ej] at h
        dsimp only at h
        cases ep : pthR ρ (q.1, q.2 ++ [.ix j]) with
        | er x => exact absurd ep pthR_calm
        | no => rw [ep] at h; exact h.elim
        | ok q' =>
          obtain ⟨rfl, sub', hs'⟩ := pthR_some ep
          rw [ep] at h
          obtain ⟨t', vs, Fs, e1, e2, e3, e4, e5, _⟩ := S2.at ea
          have et2 : t' = t := by rw [et] at e1; cases e1; rfl
          subst et2
          have ev2 : v = vs := AtP.det (ev.mono E2.s) e5
          subst ev2
          simp only [OwnR] at e2
          obtain ⟨a, xs, F', h1, h2, h3, h4⟩ := e2
          rw [atE_snoc ea] at hs'
          have hl : l[j]? = some sub' := by
            have z : (l[j]?).bind (getP []) = some sub' := hs'
            cases q : l[j]? with
            | none => rw [q] at z; cases z
            | some o => rw [q] at z; exact z
          obtain ⟨x, Fj, p1, p2, p3⟩ := h4.get hl
          simp only [Rep] at rw'
          refine ⟨a, xs, k, x, h1, rw', SqL.of h3, ?_, ?_⟩
          · unfold atI
            rw [← h4.length, ej]
            exact p1
          · exact h x t' H2 H₂ (E1.trans E2) et (AtP.snoc e5 ⟨a, xs, x, h1, h3, p1, rfl⟩)
    | .sh p', p, ea, h, rw' => exact (show False from h).elim
    | .obj c fs, p, ea, h, rw' => exact (show False from h).elim
    | .own l, .non, ea, h, rw' => exact (show False from h).elim
    | .own l, .bl _, ea, h, rw' => exact (show False from h).elim
    | .own l, .str _, ea, h, rw' => exact (show False from h).elim
    | .own l, .lst _, ea, h, rw' => exact (show False from h).elim
    | .own l, .scr _, ea, h, rw' => exact (show False from h).elim
    | .own l, .tup _, ea, h, rw' => exact (show False from h).elim
    | .own l, .ins _ _, ea, h, rw' => exact (show False from h).elim
/-! ### o.append(e) -/
def apR (q : Pth) (n : OV) (ρ : Env) : RS := match atE ρ q with
  | some (.own l) => if l.length < sizeLine then .nx (upE ρ q (.own (l ++ [n]))) else .no
  | _ => .no
def sApp (g : Env → R Pth) (f : Env → R (OV × Env)) : Env → RS := fun ρ => (g ρ).to ρ fun q => match atE ρ q with
  | some (.own _) => (f ρ).to ρ fun r => apR q r.1 r.2
  | _ => .no
theorem app_step {q : Pth} {n : OV} {t v w : V} {Fo : List Addr} (S : SR C H₀ F ρ σ H) (r : OwnR C.G H₀ H n w Fo) (nd : (Fo ++ F).Nodup) (fr : ∀ a ∈ Fo, C.He a = none ∧ H₀ a = none) (et : σ[q.1]? = some (some t)) (ev : AtP H t q.2 v)
    (h : Aft C W D (apR q n ρ)) : ∃ a xs, v = .ref a ∧ H a = some (.lst xs) ∧ xs.length < sizeLine ∧ D.nx σ (upd H a (.lst (xs ++ [w]))) ∧ a ∈ F := by
  unfold apR at h
  cases ea : atE ρ q with
  | none => rw [ea] at h; exact h.elim
  | some sub =>
    rw [ea] at h
    cases sub with
    | sh p => exact h.elim
    | obj c fs => exact h.elim
    | own l =>
      dsimp only at h
      by_cases hl : l.length < sizeLine
      · rw [if_pos hl] at h
        obtain ⟨t', vs, Fs, e1, e2, e3, e4, e5, e6⟩ := S.at ea
        have et2 : t' = t := by rw [et] at e1; cases e1; rfl
        subst et2
        have ev2 : v = vs := AtP.det ev e5
        subst ev2
        simp only [OwnR] at e2
        obtain ⟨a, xs, F', h1, h2, h3, h4⟩ := e2
        obtain ⟨n1, n2, n3⟩ := List.nodup_append.mp nd
        subst h2
        obtain ⟨na, nd'⟩ := List.nodup_cons.mp e3
        have aFo : a ∉ Fo := fun z => n3 a z a (e4 a List.mem_cons_self) rfl
        have keep1 : ∀ b ∈ F', upd H a (.lst (xs ++ [w])) b = H b := fun b hb => upd_ne fun z => na (z ▸ hb)
        have keep2 : ∀ b ∈ Fo, upd H a (.lst (xs ++ [w])) b = H b := fun b hb => upd_ne fun z => aFo (z ▸ hb)
        have o2 : OwnRs C.G H₀ (upd H a (.lst (xs ++ [w]))) (l ++ [n]) (xs ++ [w]) (F' ++ Fo) := OwnRs.snoc (OwnR.mono (Same.refl _) keep2 r) (OwnRs.mono (Same.refl _) keep1 h4)
        obtain ⟨F2, S2⟩ := e6 a (.lst (xs ++ [w])) F' (.own (l ++ [n])) (a :: (F' ++ Fo)) rfl (by simp only [OwnR]; exact ⟨a, _, _, h1, rfl, upd_same, o2⟩)
          (List.nodup_cons.mpr ⟨fun z => (List.mem_append.mp z).elim na aFo, List.nodup_append.mpr ⟨nd', n1, fun x hx y hy e => n3 y hy x (e4 x (List.mem_cons_of_mem _ hx)) e.symm⟩⟩)
          fun b hb => by
            rcases List.mem_cons.mp hb with z | z
            · exact .inl (by rw [z]; exact List.mem_cons_self)
            · rcases List.mem_append.mp z with z | z
              · exact .inl (List.mem_cons_of_mem _ z)
              · exact .inr ⟨fun y => n3 b z b y rfl, fr b z⟩
        exact ⟨a, xs, h1, h3, by rw [← h4.length]; exact hl, h σ _ H₀ F2 S2, e4 a List.mem_cons_self⟩
      · rw [if_neg hl] at h
        exact h.elim
theorem qApp {g : Env → R Pth} {f : Env → R (OV × Env)} {apos cpos : Pos} (ho : QP C W X o g) (he : QM C W X e f) (hsw : swapsWith (.Call (.Attribute o "append" apos) [e] [] cpos) none pos.line X.env = pure false := by rfl)
    (hbase : attributeBase o "append" X.env (eval o X.env) = eval o X.env := by rfl)
    (hfew : ((backTo cpos (starEach (e :: []) X.env)).all (fun x => !x.1) && (backToKw cpos (keywordEach [] X.env)).all (fun x => x.1.isSome)
      && decide ((e :: ([] : List Expr)).length + ([] : List Keyword).length + (if ([] : List Keyword).isEmpty then 0 else 1) < 30)) = true := by rfl)
    (hline : (apos.endLine == cpos.line) = true := by rfl) (hs : starEach (e :: []) X.env = (false, eval e X.env) :: starEach [] X.env := by rfl) (hplain : (backTo cpos (starEach [] X.env)).any (·.1) = false := by rfl) :
    QS C W X (.Expr (.Call (.Attribute o "append" apos) [e] [] cpos) pos) (sApp g f) := by
  have ha : PA X [e] (tCons (tM C W f) tNil) := pa_cons he pa_nil hs
  refine PS.imp (ps_expr (pe_bm PySem.F.plainAttrs_list PySem.F.slot_list_append PySem.F.type_list_append mt_append ho ha hbase hfew hline hs hplain) hsw) fun D σ H h => ?_
  show tP C W g σ H fun x H1 => tyV X.K "list" x H1 ∧ tM C W f σ H1 fun w H2 => rAppend x [w] H2 fun _ H3 => D.nx σ H3
  obtain ⟨H₀, F, ρ, S, h⟩ := h
  refine ⟨H₀, F, ρ, S, (Aft.to S h).imp fun q eq h v t H1 H₁ E1 et ev => ?_⟩
  have S1 := S.ext E1
  cases ea : atE ρ q with
  | none => rw [ea] at h; exact h.elim
  | some sub =>
    rw [ea] at h
    cases sub with
    | sh p => exact h.elim
    | obj c fs => exact h.elim
    | own l =>
      have ty : tyV X.K "list" v H1 := by
        obtain ⟨t', vs, Fs, e1, e2, e3, e4, e5, e6⟩ := S1.at ea
        have et2 : t' = t := by rw [et] at e1; cases e1; rfl
        subst et2
        have ev2 : v = vs := AtP.det ev e5
        subst ev2
        simp only [OwnR] at e2
        obtain ⟨a, xs, F', h1, h2, h3, h4⟩ := e2
        subst h1
        exact .inl ⟨rfl, xs, SqL.of h3⟩
      refine ⟨ty, H₁, F, ρ, S1, (Aft.to S1 h).imp fun r er h w H2 H₂ Fo Fr E2 S2 ro nd fr => ?_⟩
      obtain ⟨a, xs, h1, h2, h3, h4, _⟩ := app_step S2 ro nd fr et (ev.mono E2.s) h
      exact ⟨a, xs, w, h1, rfl, h2, h3, h4⟩
/-! ### o[i] = e -/
theorem OwnRs.put {G : Gc} {H₀ H : Hp} {n : OV} {w : V} {Fo : List Addr} (r : OwnR G H₀ H n w Fo) (ndo : Fo.Nodup) : ∀ {l : List OV} {xs : List V} {F : List Addr} (j : Nat), OwnRs G H₀ H l xs F → F.Nodup → (∀ b ∈ Fo, b ∉ F) → ∃ F', OwnRs G H₀ H (l.set j n) (xs.set j w) F' ∧ F'.Nodup ∧ ∀ b ∈ F', b ∈ F ∨ b ∈ Fo
  | [], xs, F, j, h, nd, ap => by
    simp only [OwnRs] at h
    obtain ⟨h1, h2⟩ := h
    subst h1 h2
    exact ⟨[], by simp [OwnRs], List.nodup_nil, fun b hb => by cases hb⟩
  | q :: l, xs, F, 0, h, nd, ap => by
    simp only [OwnRs] at h
    obtain ⟨x, ys, F1, F2, h1, h2, h3, h4⟩ := h
    subst h1 h2
    refine ⟨Fo ++ F2, by simp only [List.set_cons_zero, OwnRs]; exact ⟨w, ys, Fo, F2, rfl, rfl, r, h4⟩, List.nodup_append.mpr ⟨ndo, (List.nodup_append.mp nd).2.1, fun a ha b hb e => ap a ha (List.mem_append_right _ (e ▸ hb))⟩, fun b hb => ?_⟩
    exact (List.mem_append.mp hb).elim .inr fun z => .inl (List.mem_append_right _ z)
  | q :: l, xs, F, j + 1, h, nd, ap => by
    simp only [OwnRs] at h
    obtain ⟨x, ys, F1, F2, h1, h2, h3, h4⟩ := h
    subst h1 h2
    obtain ⟨n1, n2, n3⟩ := List.nodup_append.mp nd
    obtain ⟨F', k1, k2, k3⟩ := OwnRs.put r ndo j h4 n2 fun b hb z => ap b hb (List.mem_append_right _ z)
    refine ⟨F1 ++ F', by simp only [List.set_cons_succ, OwnRs]; exact ⟨x, _, F1, F', rfl, rfl, h3, k1⟩, List.nodup_append.mpr ⟨n1, k2, fun a ha b hb e => ?_⟩, fun b hb => ?_⟩
    · subst e
      rcases k3 a hb with z | z
      · exact n3 a ha a z rfl
      · exact ap a z (List.mem_append_left _ ha)
    · rcases List.mem_append.mp hb with z | z
      · exact .inl (List.mem_append_left _ z)
      · exact (k3 b z).imp (List.mem_append_right _) id
theorem OwnRf.put {G : Gc} {H₀ H : Hp} {n : OV} {w : V} {Fo : List Addr} {f : Str} (r : OwnR G H₀ H n w Fo) (ndo : Fo.Nodup) : ∀ {l : List (Str × OV)} {xs : List (Str × V)} {F : List Addr}, OwnRf G H₀ H l xs F → F.Nodup → (∀ b ∈ Fo, b ∉ F) → ∃ F', OwnRf G H₀ H (putO f n l) (putF f w xs) F' ∧ F'.Nodup ∧ ∀ b ∈ F', b ∈ F ∨ b ∈ Fo
  | [], xs, F, h, nd, ap => by
    simp only [OwnRf] at h
    obtain ⟨h1, h2⟩ := h
    subst h1 h2
    exact ⟨Fo, by simp only [putO, putF, OwnRf]; exact ⟨w, [], Fo, [], rfl, by simp, r, rfl, rfl⟩, ndo, fun b hb => .inr hb⟩
  | (g, q) :: l, xs, F, h, nd, ap => by
    simp only [OwnRf] at h
    obtain ⟨x, ys, F1, F2, h1, h2, h3, h4⟩ := h
    subst h1 h2
    obtain ⟨n1, n2, n3⟩ := List.nodup_append.mp nd
    by_cases hg : g = f
    · refine ⟨Fo ++ F2, by simp only [putO, putF, if_pos hg, OwnRf]; exact ⟨w, ys, Fo, F2, rfl, rfl, r, h4⟩, List.nodup_append.mpr ⟨ndo, n2, fun a ha b hb e => ap a ha (List.mem_append_right _ (e ▸ hb))⟩, fun b hb => ?_⟩
      exact (List.mem_append.mp hb).elim .inr fun z => .inl (List.mem_append_right _ z)
    · obtain ⟨F', k1, k2, k3⟩ := OwnRf.put r ndo h4 n2 fun b hb z => ap b hb (List.mem_append_right _ z)
      refine ⟨F1 ++ F', by simp only [putO, putF, if_neg hg, OwnRf]; exact ⟨x, _, F1, F', rfl, rfl, h3, k1⟩, List.nodup_append.mpr ⟨n1, k2, fun a ha b hb e => ?_⟩, fun b hb => ?_⟩
      · subst e
        rcases k3 a hb with z | z
        · exact n3 a ha a z rfl
        · exact ap a z (List.mem_append_left _ ha)
      · rcases List.mem_append.mp hb with z | z
        · exact .inl (List.mem_append_left _ z)
        · exact (k3 b z).imp (List.mem_append_right _) id
theorem OwnRf.length {G : Gc} {H₀ H : Hp} : ∀ {l : List (Str × OV)} {xs : List (Str × V)} {F : List Addr}, OwnRf G H₀ H l xs F → l.length = xs.length
  | [], xs, F, h => by simp only [OwnRf] at h; rw [h.1]; rfl
  | (g, q) :: l, xs, F, h => by
    simp only [OwnRf] at h
    obtain ⟨x, ys, F1, F2, h1, h2, h3, h4⟩ := h
    subst h1
    simp only [List.length_cons, OwnRf.length h4]
/-- what is held aside stays apart -/
theorem aside {n : OV} {w : V} {Fo : List Addr} {H' H₀' : Hp} (r : OwnR C.G H₀ H n w Fo) (fr : ∀ a ∈ Fo, C.He a = none ∧ H₀ a = none) (E : Ext H₀ H H₀' H') : OwnR C.G H₀' H' n w Fo ∧ ∀ a ∈ Fo, C.He a = none ∧ H₀' a = none := by
  refine ⟨OwnR.mono E.s0 (fun a ha => ?_) r, fun a ha => ⟨(fr a ha).1, ?_⟩⟩
  · obtain ⟨u, e⟩ := r.there a ha
    rw [e, E.s a u e]
  · obtain ⟨u, e⟩ := r.there a ha
    rw [E.n a (ne_none_of e)]
    exact (fr a ha).2
def stR (q : Pth) (p : PV) (n : OV) (ρ : Env) : RS := match atE ρ q, p with
  | some (.own l), .int k => (match ixN l.length k with
    | some j => .nx (upE ρ q (.own (l.set j n)))
    | none => .no)
  | _, _ => .no
def sSt (g : Env → R Pth) (fi : Env → R PV) (f : Env → R (OV × Env)) : Env → RS := fun ρ => (f ρ).to ρ fun r => (g r.2).to r.2 fun q => (fi r.2).to r.2 fun p => stR q p r.1 r.2
theorem st_step {q : Pth} {p : PV} {n : OV} {t v w y : V} {Fo : List Addr} (S : SR C H₀ F ρ σ H) (r : OwnR C.G H₀ H n w Fo) (nd : (Fo ++ F).Nodup) (fr : ∀ a ∈ Fo, C.He a = none ∧ H₀ a = none) (et : σ[q.1]? = some (some t)) (ev : AtP H t q.2 v) (ry : Rep C.G (md m H₀ H F) p y)
    (h : Aft C W D (stR q p n ρ)) : rSetL v y w H fun H' => D.nx σ H' := by
  unfold stR at h
  cases ea : atE ρ q with
  | none => rw [ea] at h; exact (show False from h).elim
  | some sub =>
    rw [ea] at h
    match sub, p, ea, h, ry with
    | .own l, .int k, ea, h, ry =>
      dsimp only at h
      cases ej : ixN l.length k with
      | none => rw [ej] at h; exact h.elim
      | some j =>
        rw [ej] at h
        obtain ⟨t', vs, Fs, e1, e2, e3, e4, e5, e6⟩ := S.at ea
        have et2 : t' = t := by rw [et] at e1; cases e1; rfl
        subst et2
        have ev2 : v = vs := AtP.det ev e5
        subst ev2
        simp only [OwnR] at e2
        obtain ⟨a, xs, F', h1, h2, h3, h4⟩ := e2
        simp only [Rep] at ry
        obtain ⟨n1, n2, n3⟩ := List.nodup_append.mp nd
        subst h2
        obtain ⟨na, nd'⟩ := List.nodup_cons.mp e3
        have aFo : a ∉ Fo := fun z => n3 a z a (e4 a List.mem_cons_self) rfl
        have keep1 : ∀ b ∈ F', upd H a (.lst (xs.set j w)) b = H b := fun b hb => upd_ne fun z => na (z ▸ hb)
        have keep2 : ∀ b ∈ Fo, upd H a (.lst (xs.set j w)) b = H b := fun b hb => upd_ne fun z => aFo (z ▸ hb)
        obtain ⟨F1, k1, k2, k3⟩ := OwnRs.put (H := upd H a (.lst (xs.set j w))) (OwnR.mono (Same.refl _) keep2 r) n1 j (OwnRs.mono (Same.refl _) keep1 h4) nd' fun b hb z => n3 b hb b (e4 b (List.mem_cons_of_mem _ z)) rfl
        obtain ⟨F2, S2⟩ := e6 a (.lst (xs.set j w)) F' (.own (l.set j n)) (a :: F1) rfl (by simp only [OwnR]; exact ⟨a, _, _, h1, rfl, upd_same, k1⟩)
          (List.nodup_cons.mpr ⟨fun z => (k3 a z).elim na aFo, k2⟩)
          fun b hb => by
            rcases List.mem_cons.mp hb with z | z
            · exact .inl (by rw [z]; exact List.mem_cons_self)
            · rcases k3 b z with z | z
              · exact .inl (List.mem_cons_of_mem _ z)
              · exact .inr ⟨fun y => n3 b z b y rfl, fr b z⟩
        exact ⟨a, xs, k, j, h1, ry, h3, by rw [← h4.length]; exact ej, h σ _ H₀ F2 S2⟩
    | .sh p', p, ea, h, rw' => exact (show False from h).elim
    | .obj c fs, p, ea, h, rw' => exact (show False from h).elim
    | .own l, .non, ea, h, rw' => exact (show False from h).elim
    | .own l, .bl _, ea, h, rw' => exact (show False from h).elim
    | .own l, .str _, ea, h, rw' => exact (show False from h).elim
    | .own l, .lst _, ea, h, rw' => exact (show False from h).elim
    | .own l, .scr _, ea, h, rw' => exact (show False from h).elim
    | .own l, .tup _, ea, h, rw' => exact (show False from h).elim
    | .own l, .ins _ _, ea, h, rw' => exact (show False from h).elim
theorem nd_keep {Fo F : List Addr} (nd : (Fo ++ F).Nodup) : (Fo ++ F).Nodup := nd
theorem qSt {ie : Expr} {g : Env → R Pth} {fi : Env → R PV} {f : Env → R (OV × Env)} (he : QM C W X e f) (ho : QP C W X o g) (hi : QE C W m X ie fi) (ha : ∀ v, assign (.Subscript o ie p) X.env v = (do
      let ov ← holding [v] (eval o X.env)
      let iv ← holding [v, ov] (eval ie X.env)
      standAt p
      holding [v, ov, iv] (setItem ov iv v)
      release [v, ov, iv] []) := by intro _; rfl) (hs : swapsWithSole [.Subscript o ie p] e pos.line X.env = pure false := by rfl) (hw : swappedStores [.Subscript o ie p] e X.env = pure none := by rfl)
    (h1 : (assignEach [.Subscript o ie p] X.env).map (·.2) = [assign (.Subscript o ie p) X.env] := by rfl) : QS C W X (.Assign [.Subscript o ie p] e pos) (sSt g fi f) := by
  refine PS.imp (ps_asg he (pg_sub ho hi set_list ha) hs hw h1) fun D σ H h => ?_
  show tM C W f σ H fun w H1 => tP C W g σ H1 fun v H2 => tE C W m fi σ H2 fun y H3 => rSetL v y w H3 fun H4 => D.nx σ H4
  obtain ⟨H₀, F, ρ, S, h⟩ := h
  refine ⟨H₀, F, ρ, S, (Aft.to S h).imp fun r _ h w H1 H₁ Fo Fr E1 S1 ro nd fr => ?_⟩
  refine ⟨H₁, Fr, r.2, S1, (Aft.to S1 h).imp fun q _ h v t H2 H₂ E2 et ev => ?_⟩
  have S2 := S1.ext E2
  obtain ⟨ro2, fr2⟩ := aside ro fr E2
  show tE C W m fi σ H2 fun y H3 => rSetL v y w H3 fun H4 => D.nx σ H4
  rw [tE_iff]
  refine ⟨H₂, Fr, r.2, S2, (Aft.to S2 h).imp fun p _ h y H3 H₃ E3 ry => ?_⟩
  obtain ⟨ro3, fr3⟩ := aside ro2 fr2 E3
  exact st_step (S2.ext E3) ro3 nd fr3 et (ev.mono E3.s) ry h
/-! ### o.f = e -/
def flR (q : Pth) (ok : Nat → Bool) (fl : Str) (n : OV) (ρ : Env) : RS := match atE ρ q with
  | some (.obj c fs) => if ok c = true ∧ fs.length < 1000 then .nx (upE ρ q (.obj c (putO fl n fs))) else .no
  | _ => .no
def sFl (g : Env → R Pth) (ok : Nat → Bool) (fl : Str) (f : Env → R (OV × Env)) : Env → RS := fun ρ => (f ρ).to ρ fun r => (g r.2).to r.2 fun q => flR q ok fl r.1 r.2
theorem qFl {g : Env → R Pth} {f : Env → R (OV × Env)} {ok : Nat → Bool} {fl : Str} (hK : X.K = C.G.K) (T : ∀ c, ok c = true → Cls C.G.K (C.G.CA c) ∧ NoAttr C.G.K (C.G.CA c) fl) (he : QM C W X e f) (ho : QP C W X o g) (hs : swapsWith e (some (.Attribute o fl p)) pos.line X.env = pure false := by rfl) : QS C W X (.Assign [.Attribute o fl p] e pos) (sFl g ok fl f) := by
  refine PS.imp (ps_fld ho he hs) fun D σ H h => ?_
  show tM C W f σ H fun w H1 => tP C W g σ H1 fun v H2 => ∃ a Ca dx fs, v = .ref a ∧ H2 a = some (.ins Ca dx fs) ∧ Cls X.K Ca ∧ NoAttr X.K Ca fl ∧ fs.length < 1000 ∧ D.nx σ (upd H2 a (.ins Ca dx (putF fl w fs)))
  obtain ⟨H₀, F, ρ, S, h⟩ := h
  refine ⟨H₀, F, ρ, S, (Aft.to S h).imp fun r _ h w H1 H₁ Fo Fr E1 S1 ro nd fr => ?_⟩
  refine ⟨H₁, Fr, r.2, S1, (Aft.to S1 h).imp fun q _ h v t H2 H₂ E2 et ev => ?_⟩
  have S2 := S1.ext E2
  obtain ⟨ro2, fr2⟩ := aside ro fr E2
  unfold flR at h
  cases ea : atE r.2 q with
  | none => rw [ea] at h; exact h.elim
  | some sub =>
    rw [ea] at h
    cases sub with
    | sh p => exact h.elim
    | own l => exact h.elim
    | obj c fs =>
      dsimp only at h
      by_cases hk : ok c = true ∧ fs.length < 1000
      · rw [if_pos hk] at h
        obtain ⟨T1, T2⟩ := T c hk.1
        obtain ⟨t', vs, Fs, e1, e2, e3, e4, e5, e6⟩ := S2.at ea
        have et2 : t' = t := by rw [et] at e1; cases e1; rfl
        subst et2
        have ev2 : v = vs := AtP.det ev e5
        subst ev2
        simp only [OwnR] at e2
        obtain ⟨a, dx, xs, F', h1, h2, h3, h4⟩ := e2
        obtain ⟨n1, n2, n3⟩ := List.nodup_append.mp nd
        subst h2
        obtain ⟨na, nd'⟩ := List.nodup_cons.mp e3
        have aFo : a ∉ Fo := fun z => n3 a z a (e4 a List.mem_cons_self) rfl
        have keep1 : ∀ b ∈ F', upd H2 a (.ins (C.G.CA c) dx (putF fl w xs)) b = H2 b := fun b hb => upd_ne fun z => na (z ▸ hb)
        have keep2 : ∀ b ∈ Fo, upd H2 a (.ins (C.G.CA c) dx (putF fl w xs)) b = H2 b := fun b hb => upd_ne fun z => aFo (z ▸ hb)
        obtain ⟨F1, k1, k2, k3⟩ := OwnRf.put (f := fl) (H := upd H2 a (.ins (C.G.CA c) dx (putF fl w xs))) (OwnR.mono (Same.refl _) keep2 ro2) n1 (OwnRf.mono (Same.refl _) keep1 h4) nd' fun b hb z => n3 b hb b (e4 b (List.mem_cons_of_mem _ z)) rfl
        obtain ⟨F2, S3⟩ := e6 a (.ins (C.G.CA c) dx (putF fl w xs)) F' (.obj c (putO fl r.1 fs)) (a :: F1) rfl (by simp only [OwnR]; exact ⟨a, dx, _, _, h1, rfl, upd_same, k1⟩)
          (List.nodup_cons.mpr ⟨fun z => (k3 a z).elim na aFo, k2⟩)
          fun b hb => by
            rcases List.mem_cons.mp hb with z | z
            · exact .inl (by rw [z]; exact List.mem_cons_self)
            · rcases k3 b z with z | z
              · exact .inl (List.mem_cons_of_mem _ z)
              · exact .inr ⟨fun y => n3 b z b y rfl, fr2 b z⟩
        exact ⟨a, _, dx, xs, h1, h3, by rw [hK]; exact T1, by rw [hK]; exact T2, by rw [← h4.length]; exact hk.2, h σ _ H₂ F2 S3⟩
      · rw [if_neg hk] at h
        exact h.elim
end
end L3

end
section
/-! L3. 11: new lists by operators; defs -/
namespace L3
open PySem PySem.Spec PyProof.Rows L2
section
variable {C : Fc} {W : WX} {D : Ends} {m : Bool} {X : Cx} {a b e : Expr} {es : List Expr} {pos p : Pos} {σ : L2.St} {H H₀ : Hp} {F : List Addr} {ρ : Env} {x : Str} {i : Nat} {fa fb : Env → R PV} {fas : Env → R (List PV)}
/-- an operator that makes a new list -/
def Op2F (Γ : Gc) (r : R2) (g : PV → PV → R (List PV)) : Prop := ∀ (H₀ H : Hp) (p q : PV) (l : List PV) (x y : V) (Q : VK), Same H₀ H → Rep Γ H₀ p x → Rep Γ H₀ q y → g p q = .ok l →
  (∀ xs a, H a = none → Reps Γ H₀ l xs → Q (.ref a) (upd H a (.lst xs))) → r x y H Q
def fOp (g : PV → PV → R (List PV)) (fa fb : Env → R PV) : Env → R OV := fun ρ => (fa ρ).bind fun p => (fb ρ).bind fun q => (g p q).bind fun l => .ok (.own (l.map .sh))
theorem qOpF {op : Operator} {r : R2} {g : PV → PV → R (List PV)} (ho : OpR X (binaryOp op) r) (hg : ∀ p q x, g p q ≠ .er x) (hr : Op2F C.G r g) (ha : QE C W true X a fa) (hb : QE C W true X b fb) : QF C W X (.BinOp a op b pos) (fOp g fa fb) := by
  refine PE.imp (pe_op ho ha hb) fun σ H Q h => ?_
  show tE C W true fa σ H fun x H1 => tE C W true fb σ H1 fun y H2 => r x y H2 Q
  rw [tF_iff] at h
  rw [tE_iff]
  obtain ⟨H₀, F, ρ, S, h⟩ := h
  unfold fOp at h
  rw [Goes.bind] at h
  refine ⟨H₀, F, ρ, S, h.imp fun p _ h v H1 H₁ E1 r1 => ?_⟩
  rw [Goes.bind] at h
  rw [tE_iff]
  refine ⟨H₁, F, ρ, S.ext E1, (h.later E1).imp fun q _ h w H2 H₂ E2 r2 => ?_⟩
  rw [Goes.bind] at h
  have E := E1.trans E2
  cases e : g p q with
  | er x => exact absurd e (hg p q x)
  | no => rw [e] at h; exact h.elim
  | ok l =>
    rw [e] at h
    refine hr H₂ H2 p q l v w Q E2.z (Rep.mono E2.s0 r1) r2 e fun xs a ha r => ?_
    obtain ⟨E3, o3, n3, f3⟩ := own_new (C := C) E2.z ha r
    exact h _ _ _ _ (E.trans E3) o3 n3 fun c hc => ⟨Same.free E.s (f3 c hc).1, (f3 c hc).2⟩
def mulL : PV → PV → R (List PV)
  | .lst l, .int k => if -(2 ^ 63) ≤ k ∧ k < 2 ^ 63 ∧ l.length * k.toNat ≤ sizeLine then .ok (List.replicate k.toNat l).flatten else .no
  | _, _ => .no
def addL : PV → PV → R (List PV)
  | .lst a, .lst b => if a.length + b.length ≤ sizeLine then .ok (a ++ b) else .no
  | _, _ => .no
theorem mulL_ok {G : Gc} : Op2F G rRep mulL := by
  intro H₀ H p q l x y Q zz rp rq e k
  unfold mulL at e
  split at e
  · simp only [Rep] at rp rq
    obtain ⟨a, xs, h1, h2, h3⟩ := rp
    split at e
    · rename_i hc
      cases e
      exact ⟨a, _, xs, h1, rq, zz _ _ h2, hc.1, hc.2.1, by rw [← h3.length]; exact hc.2.2, fun r hr => k _ r hr (h3.rep _)⟩
    · cases e
  · cases e
theorem addL_ok {G : Gc} : Op2F G rCat addL := by
  intro H₀ H p q l x y Q zz rp rq e k
  unfold addL at e
  split at e
  · simp only [Rep] at rp rq
    obtain ⟨a, xs, h1, h2, h3⟩ := rp
    obtain ⟨b, ys, g1, g2, g3⟩ := rq
    split at e
    · rename_i hc
      cases e
      exact ⟨a, b, xs, ys, h1, g1, zz _ _ h2, zz _ _ g2, by rw [← h3.length, ← g3.length]; exact hc, fun r hr => k _ r hr (h3.append g3)⟩
    · cases e
  · cases e
theorem qMulF (ha : QE C W true X a fa) (hb : QE C W true X b fb) : QF C W X (.BinOp a .Mult b pos) (fOp mulL fa fb) := qOpF op_rep (fun p q x => by unfold mulL; split <;> first | exact R.not_er | (intro z; cases z)) mulL_ok ha hb
theorem qAddF (ha : QE C W true X a fa) (hb : QE C W true X b fb) : QF C W X (.BinOp a .Add b pos) (fOp addL fa fb) := qOpF op_cat (fun p q x => by unfold addL; split <;> first | exact R.not_er | (intro z; cases z)) addL_ok ha hb
/-- what has no list in it leaves what is only looked at -/
def eFlat (f : Env → R PV) : Env → R PV := fun ρ => (f ρ).bind fun p => if p.flat = true then .ok p else .no
theorem qFlat (h : QE C W false X a fa) : QE C W m X a (eFlat fa) := by
  refine PE.imp h fun σ H Q h => ?_
  rw [tE_iff] at h ⊢
  obtain ⟨H₀, F, ρ, S, h⟩ := h
  unfold eFlat at h
  rw [Goes.bind] at h
  refine ⟨H₀, F, ρ, S, h.imp fun p _ h v H1 H₁ E1 r1 => ?_⟩
  by_cases hf : p.flat = true
  · rw [if_pos hf] at h
    have S1 := S.ext E1
    have hF : ∀ a ∈ F, ∀ o, vw H₁ H1 F a = some o → isLI o := fun a ha o e => by
      obtain ⟨u, e1, e2⟩ := S1.env.kind a ha
      unfold vw at e
      rw [if_pos ha, e1] at e
      cases e
      exact e2
    have r2 := Rep.mask hF hf r1
    have z : Same (mask (vw H₁ H1 F) F) H₁ := fun c o e => by
      unfold mask at e
      split at e
      · cases e
      · rename_i hc
        unfold vw at e
        rw [if_neg hc] at e
        exact e
    exact h v H1 H₁ E1 (Rep.mono (z_md fun a ha => (S1.fr a ha).2) (Rep.mono z r2))
  · rw [if_neg hf] at h
    exact h.elim
/-! ### calls in a suite -/
theorem qCallH {k : Nat} {f : Addr} {fd : FuncData} {ns : List Str} {Fn : List PV → R OV} (Fo : L2H.FnH X.prog X.w X.K X.mg X.base (L2N.CX X.prog X.w) k f fd ns (spP C.G Fn)) (hr : L2H.RoomH k X.A) (hc : L2H.HotC X) (tk : L2N.Takes X W) (hm : X.mg x = some (.ref f)) (hk : PySem.W.keepIn X.K (.ref f) = true) (hb : Binds X.K fd ns [])
    (ha : QA C W m X (e :: es) fas) (hg : Gl X x := by rfl) (hdb : (x == ("__debug__" : Str)) = false := by decide) (he : starEach (e :: es) X.env = (false, eval e X.env) :: starEach es X.env := by rfl) (hpl : (backTo pos (starEach es X.env)).any (·.1) = false := by rfl) :
    QF C W X (.Call (.Name x p) (e :: es) [] pos) (fCall m Fn [] fas) := by
  refine PE.imp (L2H.pe_callH (E := WE W) Fo hr hc hg hm hk hb (fun σ => L2N.passAt tk σ) ha hdb he hpl) fun σ H Q h => ?_
  show tAs C W m fas σ H fun vs H1 => spP C.G Fn vs H1 Q (WE W σ)
  rw [tF_iff] at h
  rw [tA_iff]
  obtain ⟨H₀, F, ρ, S, h⟩ := h
  unfold fCall at h
  rw [Goes.bind] at h
  refine ⟨H₀, F, ρ, S, h.imp fun ps _ h vs H1 H₁ E1 r1 => ?_⟩
  rw [List.append_nil] at h
  exact call_go (S.ext E1) r1 ((h.later E1).imp fun o _ h v H' H₀' Fv E ro nd fr => h v H' H₀' Fv (E1.trans E) ro nd fun a ha => ⟨Same.free E1.s (fr a ha).1, (fr a ha).2⟩)
/-- in a suite nothing is raised -/
theorem takes0 {X : Cx} : L2N.Takes X W0 := fun u s' ⟨_, _, _, _, _, _, _, _, _, _, _, _, _, _, _, _, w⟩ => w.elim
end
/-! ### defs -/
def startE (n : Nat) (ps : List PV) : Env := ps.map (fun p => some (.sh p)) ++ List.replicate (n - ps.length) none
def outS : RS → R OV
  | .nx _ => .ok (.sh .non)
  | .rt o => .ok o
  | .er x _ => .er x
  | _ => .no
def defF (n np : Nat) (f : Env → RS) : List PV → R OV := fun ps => if ps.length = np then outS (f (startE n ps)) else .no
theorem env_none {G : Gc} {H₀ H : Hp} : ∀ k : Nat, EnvR G H₀ H (List.replicate k none) (List.replicate k none) []
  | 0 => ⟨rfl, rfl⟩
  | k + 1 => ⟨none, _, rfl, env_none k⟩
theorem env_start {G : Gc} {H₀ H : Hp} {k : Nat} : ∀ {ps : List PV} {vs : List V}, Reps G H₀ ps vs → EnvR G H₀ H (ps.map (fun p => some (.sh p)) ++ List.replicate k none) (vs.map some ++ List.replicate k none) []
  | [], vs, r => by simp only [Reps] at r; subst r; exact env_none k
  | p :: ps, vs, r => by
    simp only [Reps] at r
    obtain ⟨x, ys, h1, h2, h3⟩ := r
    subst h1
    exact ⟨x, _, [], [], rfl, rfl, by simp only [OwnR]; exact ⟨h2, trivial⟩, env_start h3⟩
section
variable {P : Program} {w : World} {Γ : Gc} {mg : Str → Option Value} {base : Heap} {x qual : Str} {params : Arguments} {body : List Stmt} {scope : Scope} {dvs : List V} {kws : List (Str × V)} {fa : Addr} {fd : FuncData} {N ns : List Str} {k n np c : Nat} {f : Env → RS}
theorem goes_outS {C : Fc} {W : WX} {Q : VK} {σ : L2.St} {H H₀ : Hp} {r : RS} (hz : C.Hz = H₀) (he : C.He = H) (hW : ∀ cls d σ' H', W cls d σ H' → W cls d σ' H')
    (h : Goes C.G W (outS r) σ H H₀ fun o => ∀ v H' H₀' Fv, Ext H₀ H H₀' H' → OwnR C.G H₀' H' o v Fv → Fv.Nodup → (∀ a ∈ Fv, H a = none ∧ H₀' a = none) → Q v H') :
    Aft C W { nx := fun _ H' => Q .non H', rt := Q } r := by
  subst hz he
  cases r with
  | nx ρ => exact fun σ' H' H₀' F S => h .non H' H₀' [] S.entry (by simp [OwnR, Rep]) List.nodup_nil fun a ha => (by cases ha)
  | rt o => exact fun v H' H₀' Fv E ro nd fr => h v H' H₀' Fv E ro nd fr
  | bk ρ => exact (show False from h).elim
  | ct ρ => exact (show False from h).elim
  | er z ρ => exact fun cls d σ' H' H₀' F S rx => hW _ _ _ _ (h cls d H' H₀' S.entry rx)
  | no => exact h.elim
/-- THE RULE of a def -/
theorem qDef (Fd : FunD Γ.K x qual params body scope dvs kws fa fd) (S : FnScope N ns scope) (hn : N.length = n) (hnp : ns.length = np)
    (hbody : ∀ (cdv : Value) (A : Around) (outer : List PySem.Env) (s : Shared) (H : Hp) (E : XK) (C : Fc), C.G = Γ → C.fx = none → Room k (A.deeper (envOfC qual scope s.heap.objs.size fa cdv)) →
      L2N.Takes (cxOf (L2N.CX P w) P w Γ.K mg base N qual scope fa cdv A outer s H E) (fun cls d _ H => E cls d H) → PassesOwn (model P w) (A.deeper (envOfC qual scope s.heap.objs.size fa cdv)) (envOfC qual scope s.heap.objs.size fa cdv) (cxOf (L2N.CX P w) P w Γ.K mg base N qual scope fa cdv A outer s H E).xe →
      QSs C (fun cls d _ H => E cls d H) (cxOf (L2N.CX P w) P w Γ.K mg base N qual scope fa cdv A outer s H E) body f) :
    FnOk P w Γ.K mg base (L2N.CX P w) (k + 1) fa fd ns (spP Γ (defF n np f)) := by
  refine Fd.ok S (fun vs H Q E h => ?_) fun cdv A outer s H vs Q E hr h => ?_
  · obtain ⟨H₀, ps, hz, r, h⟩ := h
    unfold defF at h
    by_cases hl : ps.length = np
    · rw [← r.length, hl, hnp]
    · rw [if_neg hl] at h
      exact h.elim
  · obtain ⟨H₀, ps, hz, r, h⟩ := h
    unfold defF at h
    by_cases hl : ps.length = np
    · rw [if_pos hl] at h
      have tk : L2N.Takes (cxOf (L2N.CX P w) P w Γ.K mg base N qual scope fa cdv A outer s H E) (fun cls d _ H => E cls d H) := L2N.takes_of rfl rfl rfl rfl
      refine ⟨_, hbody cdv A outer s H E ⟨Γ, H, H₀, none, fun _ => none⟩ rfl rfl hr tk PassesOwn.leaving, H₀, [], startE n ps, ⟨Same.refl _, hz, fun _ _ => rfl, Same.refl _, ?_, List.nodup_nil, fun a ha => (by cases ha), fun i v z => (by cases z), fun a o z => (by cases z)⟩, goes_outS rfl rfl (fun _ _ _ _ z => z) h⟩
      unfold startE L2.start
      rw [hn, r.length]
      exact env_start r
    · rw [if_neg hl] at h
      exact h.elim
/-- the same within a suite -/
theorem qDefH (Fd : FunD Γ.K x qual params body scope dvs kws fa fd) (S : FnScope N ns scope) (hn : N.length = n) (hnp : ns.length = np)
    (hbody : ∀ (cdv : Value) (A : Around) (outer : List PySem.Env) (s : Shared) (H : Hp) (E : XK) (q : Addr × Obj) (C : Fc), C.G = Γ → C.fx = none → L2H.HotC (L2H.cxH (L2N.CX P w) P w Γ.K mg base N qual scope fa cdv A outer s H E q) → L2H.RoomH k (A.deeper (envOfC qual scope s.heap.objs.size fa cdv)) →
      L2N.Takes (L2H.cxH (L2N.CX P w) P w Γ.K mg base N qual scope fa cdv A outer s H E q) (fun cls d _ H => E cls d H) →
      QSs C (fun cls d _ H => E cls d H) (L2H.cxH (L2N.CX P w) P w Γ.K mg base N qual scope fa cdv A outer s H E q) body f) :
    L2H.FnH P w Γ.K mg base (L2N.CX P w) (k + 1) fa fd ns (spP Γ (defF n np f)) := by
  obtain ⟨oc, od, dV, kV, doc, pm, an, cdv, ct, osl, rfl, lk, hcd, _, _⟩ := Fd.ex
  refine L2H.fn_ofH lk hcd S (fun vs H Q E h => ?_) fun A outer s H vs Q E q hot hr h => ?_
  · obtain ⟨H₀, ps, hz, r, h⟩ := h
    unfold defF at h
    by_cases hl : ps.length = np
    · rw [← r.length, hl, hnp]
    · rw [if_neg hl] at h
      exact h.elim
  · obtain ⟨H₀, ps, hz, r, h⟩ := h
    unfold defF at h
    by_cases hl : ps.length = np
    · rw [if_pos hl] at h
      have tk : L2N.Takes (L2H.cxH (L2N.CX P w) P w Γ.K mg base N qual scope fa cdv A outer s H E q) (fun cls d _ H => E cls d H) := L2N.takes_of rfl rfl rfl rfl
      refine ⟨_, hbody cdv A outer s H E q ⟨Γ, H, H₀, none, fun _ => none⟩ rfl rfl ⟨q, hot, List.mem_cons_self⟩ hr tk, H₀, [], startE n ps, ⟨Same.refl _, hz, fun _ _ => rfl, Same.refl _, ?_, List.nodup_nil, fun a ha => (by cases ha), fun i v z => (by cases z), fun a o z => (by cases z)⟩, goes_outS rfl rfl (fun _ _ _ _ z => z) h⟩
      unfold startE L2.start
      rw [hn, r.length]
      exact env_start r
    · rw [if_neg hl] at h
      exact h.elim
/-! an __init__: its first slot is the new instance -/
def outI (c : Nat) : RS → R (List (Str × OV))
  | .nx (some (.obj c' fs) :: _) => if c' = c then .ok fs else .no
  | .er x (some (.obj _ _) :: _) => .er x
  | _ => .no
theorem outI_nx {c c' : Nat} {fs : List (Str × OV)} {ρ : Env} : outI c (.nx (some (.obj c' fs) :: ρ)) = if c' = c then .ok fs else .no := rfl
def initF (n np c : Nat) (f : Env → RS) : List PV → R (List (Str × OV)) := fun ps => if ps.length + 1 = np then outI c (f (some (.obj c []) :: startE (n - 1) ps)) else .no
theorem qInit (Fd : FunD Γ.K x qual params body scope dvs kws fa fd) (S : FnScope N ns scope) (hn : N.length = n) (hnp : ns.length = np)
    (hbody : ∀ (cdv : Value) (A : Around) (outer : List PySem.Env) (s : Shared) (H : Hp) (E : XK) (self : V) (C : Fc), C.G = Γ → C.fx = some (0, self) → Room k (A.deeper (envOfC qual scope s.heap.objs.size fa cdv)) →
      L2N.Takes (cxOf (L2N.CX P w) P w Γ.K mg base N qual scope fa cdv A outer s H E) (fun cls d _ H => E cls d H) → PassesOwn (model P w) (A.deeper (envOfC qual scope s.heap.objs.size fa cdv)) (envOfC qual scope s.heap.objs.size fa cdv) (cxOf (L2N.CX P w) P w Γ.K mg base N qual scope fa cdv A outer s H E).xe →
      QSs C (fun cls d _ H => E cls d H) (cxOf (L2N.CX P w) P w Γ.K mg base N qual scope fa cdv A outer s H E) body f) :
    FnOk P w Γ.K mg base (L2N.CX P w) (k + 1) fa fd ns (spI Γ c (initF n np c f)) := by
  refine Fd.ok S (fun vs H Q E h => ?_) fun cdv A outer s H vs Q E hr h => ?_
  · obtain ⟨x, dx, ws, H₀, ps, e1, hx, h0, hz, r, h⟩ := h
    unfold initF at h
    by_cases hl : ps.length + 1 = np
    · rw [e1, List.length_cons, ← r.length, hl, hnp]
    · rw [if_neg hl] at h
      exact h.elim
  · obtain ⟨x, dx, ws, H₀, ps, e1, hx, h0, hz, r, h⟩ := h
    subst e1
    unfold initF at h
    by_cases hl : ps.length + 1 = np
    · rw [if_pos hl] at h
      have tk : L2N.Takes (cxOf (L2N.CX P w) P w Γ.K mg base N qual scope fa cdv A outer s H E) (fun cls d _ H => E cls d H) := L2N.takes_of rfl rfl rfl rfl
      have dl : ∀ a o, del H x a = some o → a ≠ x ∧ H a = some o := fun a o e => by
        unfold del at e
        split at e
        · cases e
        · rename_i q
          exact ⟨q, e⟩
      have dx0 : del H x x = none := by unfold del; rw [if_pos rfl]
      let C : Fc := ⟨Γ, del H x, H₀, some (0, .ref x), fun _ => none⟩
      have S0 : SR C H₀ [x] (some (.obj c []) :: startE (n - 1) ps) (L2.start N (.ref x :: ws)) H := by
        refine ⟨fun a o e => (dl a o e).2, hz, fun _ _ => rfl, Same.refl _, ?_, by simp, fun a ha => ?_, fun i v z => ?_, fun a o z => (by cases z)⟩
        · unfold startE L2.start
          have e2 : N.length - (V.ref x :: ws).length = n - 1 - ps.length := by
            rw [hn, List.length_cons, r.length]
            omega
          rw [e2]
          refine ⟨.ref x, ws.map some ++ List.replicate (n - 1 - ps.length) none, [x], [], rfl, rfl, ?_, env_start r⟩
          simp only [OwnR, OwnRf]
          exact ⟨x, dx, [], [], rfl, rfl, hx, rfl, rfl⟩
        · rw [List.mem_singleton.mp ha]
          exact ⟨dx0, h0⟩
        · have z : (0, V.ref x) = (i, v) := Option.some.inj z
          cases z
          rfl
      refine ⟨_, hbody cdv A outer s H E (.ref x) C rfl rfl hr tk PassesOwn.leaving, H₀, [x], _, S0, ?_⟩
      -- the new instance still stands in the first slot
      have self : ∀ {c' : Nat} {fs : List (Str × OV)} {ρ' : Env} {σ' : L2.St} {H' H₀' : Hp} {F' : List Addr}, SR C H₀' F' (some (.obj c' fs) :: ρ') σ' H' → ∃ Fo : List Addr, OwnR Γ H₀' H' (.obj c' fs) (.ref x) Fo ∧ Fo.Nodup ∧ (∀ a ∈ Fo, del H x a = none ∧ H₀' a = none) ∧ H₀' x = none ∧ Ext H₀ (del H x) H₀' (del H' x) := by
        intro c' fs ρ' σ' H' H₀' F' T
        obtain ⟨v, Fo, Fr, g1, g2, g3, g4, g5⟩ := EnvR.take (i := 0) T.env rfl T.nd
        have g6 := T.fx 0 _ rfl
        rw [g1] at g6
        have ev : v = .ref x := by cases g6; rfl
        subst ev
        have fr : ∀ a ∈ Fo, del H x a = none ∧ H₀' a = none := fun a ha => T.fr a (g5 a (.inl ha))
        have xF : x ∈ Fo := by
          simp only [OwnR] at g2
          obtain ⟨a, dx', vs', F1, k1, k2, _⟩ := g2
          cases k1
          rw [k2]
          exact List.mem_cons_self
        have x0 := (fr x xF).2
        refine ⟨Fo, g2, (List.nodup_append.mp g4).1, fr, x0, fun a o e => ?_, T.hz, fun a o e => ?_, T.n⟩
        · obtain ⟨q1, _⟩ := dl a o e
          unfold del
          rw [if_neg q1]
          exact T.e a o e
        · unfold del
          rw [if_neg fun q => by rw [q, x0] at e; cases e]
          exact T.z a o e
      generalize f (some (.obj c []) :: startE (n - 1) ps) = r at h
      cases r with
      | nx ρ' =>
        match ρ', h with
        | some (.obj c' fs) :: ρ', h =>
          intro σ' H' H₀' F' T
          obtain ⟨Fo, g2, g3, g4, g5, g6⟩ := self T
          by_cases hc : c' = c
          · subst hc
            have h : match (outI c' (.nx (some (.obj c' fs) :: ρ'))) with
              | .ok fs => ∀ H' H₀' Fv, Ext H₀ (del H x) H₀' (del H' x) → OwnR Γ H₀' H' (.obj c' fs) (.ref x) Fv → Fv.Nodup → (∀ a ∈ Fv, (a = x ∨ H a = none) ∧ H₀' a = none) → Q .non H'
              | .er z => ∀ cls d H' H₀', Ext H₀ (del H x) H₀' (del H' x) → RepX Γ H₀' z cls d → E cls d H'
              | .no => False := h
            rw [outI_nx, if_pos rfl] at h
            refine h H' H₀' Fo g6 g2 g3 fun a ha => ⟨?_, (g4 a ha).2⟩
            have z := (g4 a ha).1
            unfold del at z
            split at z
            · rename_i q; exact .inl q
            · exact .inr z
          · have h : match (outI c (.nx (some (.obj c' fs) :: ρ'))) with
              | .ok fs => ∀ H' H₀' Fv, Ext H₀ (del H x) H₀' (del H' x) → OwnR Γ H₀' H' (.obj c fs) (.ref x) Fv → Fv.Nodup → (∀ a ∈ Fv, (a = x ∨ H a = none) ∧ H₀' a = none) → Q .non H'
              | .er z => ∀ cls d H' H₀', Ext H₀ (del H x) H₀' (del H' x) → RepX Γ H₀' z cls d → E cls d H'
              | .no => False := h
            rw [outI_nx, if_neg hc] at h
            exact h.elim
        | [], h => exact (show False from h).elim
        | none :: _, h => exact (show False from h).elim
        | some (.sh _) :: _, h => exact (show False from h).elim
        | some (.own _) :: _, h => exact (show False from h).elim
      | er z ρ' =>
        match ρ', h with
        | some (.obj c' fs) :: ρ', h =>
          intro cls d σ' H' H₀' F' T rx
          obtain ⟨Fo, g2, g3, g4, g5, g6⟩ := self T
          have h : ∀ cls d H' H₀', Ext H₀ (del H x) H₀' (del H' x) → RepX Γ H₀' z cls d → E cls d H' := h
          exact h cls d H' H₀' g6 rx
        | [], h => exact (show False from h).elim
        | none :: _, h => exact (show False from h).elim
        | some (.sh _) :: _, h => exact (show False from h).elim
        | some (.own _) :: _, h => exact (show False from h).elim
      | rt o => exact (show False from h).elim
      | bk ρ' => exact (show False from h).elim
      | ct ρ' => exact (show False from h).elim
      | no => exact (show False from h).elim
    · rw [if_neg hl] at h
      exact h.elim
end
end L3

end
section
/-! L3. 12: xs.append(y); z = list(y) -/
namespace L3
open PySem PySem.Spec PyProof.Rows L2
def shs : List OV → Option (List PV)
  | [] => some []
  | .sh p :: l => (shs l).map (p :: ·)
  | _ :: _ => none
def sAppList (g : Env → R Pth) (j i : Nat) (f : Env → RS) : Env → RS := fun ρ => (g ρ).to ρ fun q => match atE ρ q, ρ[j]? with
  | some (.own l), some (some (.own its)) => (match shs its with
    | some _ => sSeq (apR q (.own its)) (fun ρ' => f (ρ'.set i (some (.own its)))) (ρ.set j none)
    | none => .no)
  | _, _ => .no
theorem shs_ok {G : Gc} {H₀ H : Hp} : ∀ {l : List OV} {ps : List PV} {xs : List V} {F : List Addr}, shs l = some ps → OwnRs G H₀ H l xs F → Reps G H₀ ps xs ∧ l = ps.map .sh
  | [], ps, xs, F, e, h => by cases e; simp only [OwnRs] at h; rw [h.1]; exact ⟨Reps.nil, rfl⟩
  | .sh p :: l, ps, xs, F, e, h => by
    simp only [shs] at e
    cases q : shs l with
    | none => rw [q] at e; cases e
    | some qs =>
      rw [q] at e
      cases e
      simp only [OwnRs, OwnR] at h
      obtain ⟨x, ys, F1, F2, h1, h2, h3, h4⟩ := h
      obtain ⟨r1, r2⟩ := shs_ok q h4
      subst h1
      exact ⟨Reps.cons h3.1 r1, by rw [r2]; rfl⟩
  | .own _ :: l, ps, xs, F, e, h => by cases e
  | .obj _ _ :: l, ps, xs, F, e, h => by cases e
section
variable {C : Fc} {W : WX} {X : Cx} {o : Expr} {rest : List Stmt} {y z : Str} {i j : Nat} {pos pos2 apos cpos py py2 pz pl pc : Pos}
theorem qAppList {g : Env → R Pth} {f : Env → RS} (hK : X.K = C.G.K) (hx : fxOk C i) (hN : X.N.Nodup) (hm : X.mg "list" = none) (ho : QP C W X o g) (hr : QSs C W X rest f)
    (hj : X.N[j]? = some y := by rfl) (hi : X.N[i]? = some z := by rfl) (hv : Vis X.env.scope y := by first | exact Or.inl rfl | exact Or.inr (Or.inl rfl) | exact Or.inr (Or.inr rfl)) (hl : Loc X.env.scope z := by first | exact Or.inl rfl | exact Or.inr rfl)
    (hf : X.fn z = true ∨ X.env.scope.names.lookup z = some .local := by first | exact .inl rfl | exact .inr rfl)
    (hd : (y == ("__debug__" : Str)) = false := by decide) (hcd : (y == ("__classdict__" : Str)) = false := by decide) (hgl : Gl X "list" := by rfl)
    (hsw : swapsWith (.Call (.Attribute o "append" apos) [.Name y py] [] cpos) none pos.line X.env = pure false := by rfl)
    (hbase : attributeBase o "append" X.env (eval o X.env) = eval o X.env := by rfl)
    (hfew : ((backTo cpos (starEach (.Name y py :: []) X.env)).all (fun x => !x.1) && (backToKw cpos (keywordEach [] X.env)).all (fun x => x.1.isSome)
      && decide ((.Name y py :: ([] : List Expr)).length + ([] : List Keyword).length + (if ([] : List Keyword).isEmpty then 0 else 1) < 30)) = true := by rfl)
    (hline : (apos.endLine == cpos.line) = true := by rfl) (hs : starEach (.Name y py :: []) X.env = (false, eval (.Name y py) X.env) :: starEach [] X.env := by rfl) (hplain : (backTo cpos (starEach [] X.env)).any (·.1) = false := by rfl)
    (hs2 : starEach (.Name y py2 :: []) X.env = (false, eval (.Name y py2) X.env) :: starEach [] X.env := by rfl) (hpl2 : (backTo pc (starEach [] X.env)).any (·.1) = false := by rfl)
    (hsw2 : swapsWith (.Call (.Name "list" pl) [.Name y py2] [] pc) (some (.Name z pz)) pos2.line X.env = pure false := by rfl) :
    QSs C W X (.Expr (.Call (.Attribute o "append" apos) [.Name y py] [] cpos) pos :: .Assign [.Name z pz] (.Call (.Name "list" pl) [.Name y py2] [] pc) pos2 :: rest) (sAppList g j i f) := by
  have hy1 : PE X (.Name y py) (tVar j) := pe_var hj hv hd hcd
  have hy2 : PE X (.Name y py2) (tVar j) := pe_var hj hv hd hcd
  have ha1 : PA X [.Name y py] (tCons (tVar j) tNil) := pa_cons hy1 pa_nil hs
  have ha2 : PA X [.Name y py2] (tCons (tVar j) tNil) := pa_cons hy2 pa_nil hs2
  have s1 := ps_expr (pe_bm PySem.F.plainAttrs_list PySem.F.slot_list_append PySem.F.type_list_append mt_append ho ha1 hbase hfew hline hs hplain) hsw
  have s2 := ps_set (pos' := pz) (pos := pos2) hN hi hl (pe_callTy (p := pl) (pos := pc) call_list_of hgl hm bt_list ha2 (by decide) (by decide) hs2 hpl2) hsw2 hf
  refine PSs.imp (pss_cons s1 (pss_cons s2 hr)) fun D σ H h => ?_
  show tP C W g σ H fun x H1 => tyV X.K "list" x H1 ∧ ∃ v, σ[j]? = some (some v) ∧ rAppend x [v] H1 fun _ H2 => ∃ v, σ[j]? = some (some v) ∧ ∃ p ys, [v] = [.ref p] ∧ (SqL X.K H2 p ys ∨ SqT X.K H2 p ys) ∧ ∀ l, H2 l = none → tS C W f D (σ.set i (some (.ref l))) (upd H2 l (.lst ys))
  obtain ⟨H₀, F, ρ, S, h⟩ := h
  refine ⟨H₀, F, ρ, S, (Aft.to S h).imp fun q eq h v t H1 H₁ E1 et ev => ?_⟩
  have S1 := S.ext E1
  cases ea : atE ρ q with
  | none => rw [ea] at h; exact (show False from h).elim
  | some sub =>
    rw [ea] at h
    cases ej : ρ[j]? with
    | none => rw [ej] at h; cases sub <;> exact (show False from h).elim
    | some oj =>
      rw [ej] at h
      match sub, oj, ea, ej, h with
      | .own l, some (.own its), ea, ej, h =>
        dsimp only at h
        cases es : shs its with
        | none => rw [es] at h; exact h.elim
        | some ps =>
          rw [es] at h
          dsimp only at h
          have ty : tyV X.K "list" v H1 := by
            obtain ⟨t', vs, Fs, e1, e2, e3, e4, e5, e6⟩ := S1.at ea
            have et2 : t' = t := by rw [et] at e1; cases e1; rfl
            subst et2
            have ev2 : v = vs := AtP.det ev e5
            subst ev2
            simp only [OwnR] at e2
            obtain ⟨a, xs, F', h1, h2, h3, h4⟩ := e2
            subst h1
            exact .inl ⟨rfl, xs, SqL.of h3⟩
          obtain ⟨w, Fo, Fr, k1, k2, k3, k4, k5⟩ := S1.env.take ej S1.nd
          have S2 : SR { C with Hx := H₁ } H₁ Fr (ρ.set j none) σ H1 := ⟨S1.e, S1.z, S1.n, S1.hz, k3, (List.nodup_append.mp k4).2.1, fun a ha => S1.fr a (k5 a (.inr ha)), S1.fx, Same.refl _⟩
          have k2' := k2
          simp only [OwnR] at k2'
          obtain ⟨b, ys, F', g1, g2, g3, g4⟩ := k2'
          obtain ⟨r1, r2⟩ := shs_ok es g4
          -- what stands behind the append
          have hA : Aft { C with Hx := H₁ } W { nx := fun σ' H' => σ' = σ → ∀ l, H' l = none → Same H₁ H' → tS C W f D (σ'.set i (some (.ref l))) (upd H' l (.lst ys)), rt := D.rt, bk := D.bk, ct := D.ct } (apR q (.own its) (ρ.set j none)) := by
            unfold sSeq at h
            cases er : apR q (.own its) (ρ.set j none) with
            | nx ρ' =>
              rw [er] at h
              intro σ' H' H₀' F' T e l hl zz
              obtain ⟨E2, o2, n2, f2⟩ := own_new (C := C) T.z hl (Reps.mono T.hx r1)
              have T2 := (T.unx S1.hx).ext E2
              obtain ⟨F2, T3⟩ := T2.put (i := i) o2 n2 (fun a ha => ⟨Same.free T.e (f2 a ha).1, (f2 a ha).2, fun z => by
                obtain ⟨u, e⟩ := T.env.there a z
                rw [(f2 a ha).1] at e
                cases e⟩) hx
              rw [r2] at h
              exact ⟨_, F2, _, T3, h⟩
            | rt o => exfalso; revert er; unfold apR; split <;> first | (intro z; cases z; done) | (split <;> (intro z; cases z))
            | bk ρ' => exfalso; revert er; unfold apR; split <;> first | (intro z; cases z; done) | (split <;> (intro z; cases z))
            | ct ρ' => exfalso; revert er; unfold apR; split <;> first | (intro z; cases z; done) | (split <;> (intro z; cases z))
            | er x ρ' => exfalso; revert er; unfold apR; split <;> first | (intro z; cases z; done) | (split <;> (intro z; cases z))
            | no => rw [er] at h; exact h.elim
          obtain ⟨a, xs, p1, p2, p3, p4, p5⟩ := app_step S2 k2 k4 (fun a ha => S1.fr a (k5 a (.inl ha))) et ev hA
          refine ⟨ty, w, k1, a, xs, w, p1, rfl, p2, p3, w, k1, b, ys, by rw [g1], .inl (SqL.of ?_), fun l hl => p4 rfl l hl fun c u e => ?_⟩
          · have nb : b ≠ a := fun z => (List.nodup_append.mp k4).2.2 b (by rw [g2]; exact List.mem_cons_self) a p5 z
            rw [upd_ne nb]
            exact g3
          · have nc : c ≠ a := fun z => by rw [z, (S2.fr a p5).2] at e; cases e
            rw [upd_ne nc]
            exact S1.z c u e
      | .sh p, oj, ea, ej, h => exact (show False from h).elim
      | .obj c fs, oj, ea, ej, h => exact (show False from h).elim
      | .own l, none, ea, ej, h => exact (show False from h).elim
      | .own l, some (.sh p), ea, ej, h => exact (show False from h).elim
      | .own l, some (.obj c fs), ea, ej, h => exact (show False from h).elim
end
end L3

end
section
/-! L3. 13: the head's facts -/
namespace X4
open PySem PySem.Spec PyProof.Rows L2 He
abbrev Ck := PySem.W.Frag → Bool
/-- an own error class: its name, its field, its __init__ -/
structure SupD where
  x : Str
  f : Str
  qual : Str
  params : Arguments
  body : List Stmt
  scope : Scope
abbrev SupW := Option (Str × Str × Arguments × FuncBody × Scope × Addr × Addr)
def supW (K : PySem.W.Frag) (x : Str) : SupW := match K.lookup (ma K (ga K x) "__init__") with
  | some ⟨_, _, .func fd, _⟩ => some (fd.name, fd.qualname, fd.params, fd.body, fd.scope, fd.globals, fd.builtins)
  | _ => none
def SupD.val (d : SupD) : SupW := some ("__init__", d.qual, d.params, .stmts d.body, d.scope, mainGlobals, builtinsNs)
def supCl : List (Str × Addr) → Value → Value → Value → Option (Addr × Addr)
  | [(n, cc)], .none, .none, .ref cda => if n = "__class__" then some (cc, cda) else none
  | _, _, _, _ => none
theorem supCl_ok {cl : List (Str × Addr)} {dV kV cd : Value} {cc cda : Addr} (h : supCl cl dV kV cd = some (cc, cda)) : cl = [(("__class__" : Str), cc)] ∧ dV = .none ∧ kV = .none ∧ cd = .ref cda := by
  unfold supCl at h
  split at h
  · split at h
    · rename_i hn
      subst hn
      cases h
      exact ⟨rfl, rfl, rfl, rfl⟩
    · cases h
  · cases h
def supFn (K : PySem.W.Frag) (qual mfile : Str) (C fI : Addr) : Bool := match K.lookup fI with
  | some ⟨_, _, .func fd, _⟩ => (match supCl fd.closure fd.defaults fd.kwdefaults fd.code with
    | some (cc, cda) => PySem.W.codeIn K (.ref cda) qual && ((match K.lookup cda with
        | some ⟨_, _, .fields vs, _⟩ => (match (vs[2]? : Option Value) with
          | some (Value.str file _) => mfile == file
          | _ => false)
        | _ => false) && (match K.lookup cc with
        | some ⟨_, _, .cell (some (.ref D)), _⟩ => decide (D = C)
        | _ => false))
    | none => false)
  | _ => false
def supCls (K : PySem.W.Frag) (C : Addr) : Bool := match K.lookup C with
  | some ⟨.type "type", _, .cls cd, sl⟩ => (match cd.mro, sl.toList with
    | .ref C' :: bm, [_, _, _, _, some (.builtin n), _] => C' == C && n == "ValueError.__new__" && !cd.hasDel && cd.hasDict && PySem.HandSPX.refsVE bm
    | _, _ => false)
  | _ => false
def supB (mfile : Str) (d : SupD) : Ck := fun K => supCls K (ga K d.x) && (eqO (PySem.W.findIn K (.ref (ga K d.x)) "__setattr__") (some (some (.builtin "object.__setattr__"))) && (eqO (PySem.W.findIn K (.ref (ga K d.x)) d.f) (some none) && (eqO (PySem.W.findIn K (.ref (ga K d.x)) "__init__") (some (some (.ref (ma K (ga K d.x) "__init__")))) &&
  (decide (PySem.W.typeIn K (.ref (ma K (ga K d.x) "__init__")) = some (.type "function")) && (decide (PySem.W.subIn K (.ref (ga K d.x)) (.type "ValueError") = some true) && (decide (PySem.W.mroIn K (ga K d.x) (.ref (ga K d.x)) = some true) && (eqO (PySem.W.ks_superIn K (ga K d.x) (ga K d.x) "__init__") (some (some (.builtin "ValueError.__init__"))) &&
  (eqO (PySem.W.nsIn K cStatics "thirdparty.any") (some none) && (eqO (PySem.W.nsIn K mainGlobals "super") (some none) && supFn K d.qual mfile (ga K d.x) (ma K (ga K d.x) "__init__"))))))))))
theorem supCls_ok {K : PySem.W.Frag} {C : Addr} (q : supCls K C = true) : ∃ nm q N bs bm sn sub ab col dd k0 k1 k2 k3 k5, K.lookup C = some (excClassObj nm q C N bs bm true sn sub ab col dd k0 k1 k2 k3 k5 "ValueError.__new__") ∧ PySem.HandSPX.refsVE bm = true := by
  unfold supCls at q
  split at q
  · rename_i dd cd sl ho
    split at q
    · rename_i C' bm k0 k1 k2 k3 n k5 hm hs
      simp only [Bool.and_eq_true, beq_iff_eq, Bool.not_eq_true'] at q
      obtain ⟨⟨⟨⟨rfl, rfl⟩, hdel⟩, hdd⟩, ht⟩ := q
      obtain ⟨nm, bs, mro, ns, qn, hd, sn, sub, ab, col, del⟩ := cd
      dsimp only at hm hdel hdd
      subst hm hdel hdd
      have hsl : sl = #[k0, k1, k2, k3, some (.builtin "ValueError.__new__"), k5] := by
        obtain ⟨l⟩ := sl
        simp only at hs
        rw [hs]
      subst hsl
      exact ⟨nm, qn, ns, bs, bm, sn, sub, ab, col, dd, k0, k1, k2, k3, k5, ho, ht⟩
    · cases q
  · cases q
theorem sup_ok {prog : Program} {K : PySem.W.Frag} {d : SupD} {mfile : Str} {p1 p2 p3 p4 p5 p6 p7 p8 q1 q2 q3 q4 : Pos} {msg : Str} {k : Nat} (e : supW K d.x = d.val) (c : supB mfile d K = true) (hp : d.params = X3.supA p1 p2 d.f) (hb : d.body = X3.supB msg d.f k p3 p4 p5 p6 p7 p8 q1 q2 q3 q4) (hs : d.scope = X3.supS d.f)
    (hmf : prog.main.file = mfile) (htop : (prog.main.scope.names.lookup ("super" : Str)).isSome = false) (hne : (d.f == ("self" : Str)) = false ∧ (d.f == ("super" : Str)) = false ∧ (d.f == ("__class__" : Str)) = false ∧ (d.f == ("__debug__" : Str)) = false) (hbn : X3.BindS d.f) (hline : X3.LineS msg k p3 p4 p5 p6 p7) :
    X3.SupC prog K (ga K d.x) (ma K (ga K d.x) "__init__") d.f := by
  obtain ⟨x, f, qual, params, body, scope⟩ := d
  dsimp only at hp hb hs hne hbn
  subst hp hb hs
  obtain ⟨c1, c⟩ := ba c
  obtain ⟨c2, c⟩ := ba c
  obtain ⟨c3, c⟩ := ba c
  obtain ⟨c4, c⟩ := ba c
  obtain ⟨c5, c⟩ := ba c
  obtain ⟨c6, c⟩ := ba c
  obtain ⟨c7, c⟩ := ba c
  obtain ⟨c8, c⟩ := ba c
  obtain ⟨c9, c⟩ := ba c
  obtain ⟨c10, c11⟩ := ba c
  refine ⟨supCls_ok c1, eqO_ok c2, eqO_ok c3, eqO_ok c4, of_decide_eq_true c5, of_decide_eq_true c6, of_decide_eq_true c7, eqO_ok c8, eqO_ok c9, eqO_ok c10, htop, hne, hbn, ?_⟩
  unfold supW at e
  unfold supFn at c11
  dsimp only at e c11
  cases q : K.lookup (ma K (ga K x) "__init__") with
  | none => rw [q] at c11; cases c11
  | some o =>
    obtain ⟨oc, od, dt, osl⟩ := o
    rw [q] at c11 e
    cases dt with
    | func fd =>
      obtain ⟨n1, n2, n3, n4, n5, n6, n7, n8, n9, n10, n11, n12, n13, n14, n15⟩ := fd
      have e2 : (some (n1, n2, n3, n4, n5, n6, n15) : SupW) = some (("__init__" : Str), qual, X3.supA p1 p2 f, FuncBody.stmts (X3.supB msg f k p3 p4 p5 p6 p7 p8 q1 q2 q3 q4), X3.supS f, mainGlobals, builtinsNs) := e
      simp only [Option.some.injEq, Prod.mk.injEq] at e2
      obtain ⟨h1, h2, h3, h4, h5, h6, h7⟩ := e2
      subst h1 h2 h3 h4 h5 h6 h7
      dsimp only at c11
      cases qc : supCl n7 n8 n9 n13 with
      | none => rw [qc] at c11; cases c11
      | some cq =>
        obtain ⟨cc, cda⟩ := cq
        rw [qc] at c11
        obtain ⟨g1, g2, g3, g4⟩ := supCl_ok qc
        subst g1 g2 g3 g4
        obtain ⟨b2, b⟩ := ba c11
        obtain ⟨b3, b4⟩ := ba b
        refine ⟨_, msg, k, oc, od, n10, n11, n12, cda, cc, n14, osl, p1, p2, p3, p4, p5, p6, p7, p8, q1, q2, q3, q4, rfl, b2, hline, ?_, ?_⟩
        · split at b3
          · rename_i z1 z2 vs z3 hk
            split at b3
            · rename_i file tf hv
              exact ⟨_, _, _, vs, file, tf, hk, hv, by rw [hmf]; exact b3⟩
            · cases b3
          · cases b3
        · split at b4
          · rename_i z1 z2 D z3 hk
            have eD : D = ga K x := of_decide_eq_true b4
            subst eD
            exact ⟨_, _, _, hk⟩
          · cases b4
    | _ => cases c11
/-! the Hook -/
def asX (g : Addr → Option Obj) : Nat → List Addr
  | 0 => [mainGlobals, cStatics]
  | n + 1 => growD g (asX g n)
abbrev AlX : Type := Bool × List FnW × List SupW
def obsX (fs : List Ck) (fn : List DefD) (sx : List SupD) (K : PySem.W.Frag) : AlX := ((fs.all fun f => f K) && fn.all fun d => d.ok K, fn.map fun d => fnW K d.at_, sx.map fun d => supW K d.x)
def valX (fn : List DefD) (sx : List SupD) : AlX := (true, fn.map DefD.val, sx.map SupD.val)
def SaysX (fs : List Ck) (fn : List DefD) (sx : List SupD) (K : PySem.W.Frag) : Prop := obsX fs fn sx K = valX fn sx
def obsXG (n : Nat) (fs : List Ck) (fn : List DefD) (sx : List SupD) (g : Addr → Option Obj) : AlX := obsX fs fn sx (frG g (asX g n))
def hookX (n : Nat) (fs : List Ck) (fn : List DefD) (sx : List SupD) : PySem.W.Hook where
  α := AlX
  obs := fun s => obsXG n fs fn sx s.heap.get?
  val := fun _ => valX fn sx
  says := fun _ h => ∃ K : PySem.W.Frag, K.In h ∧ SaysX fs fn sx K
  of := fun _ _ e => ⟨_, frG_in, e⟩
  keeps := fun _ _ _ ⟨K, hK, c⟩ k => ⟨K, PySem.W.Frag.In.keeps hK k, c⟩
theorem obsXG_eq {n : Nat} {fs : List Ck} {fn : List DefD} {sx : List SupD} {g : Addr → Option Obj} {s : Shared} (h : ∀ a, g a = s.heap.get? a) : obsXG n fs fn sx g = (hookX n fs fn sx).obs s := by
  have e : g = s.heap.get? := funext h
  rw [e] <;> rfl
section
variable {fs : List Ck} {fn : List DefD} {sx : List SupD} {K : PySem.W.Frag}
theorem SaysX.fact (c : SaysX fs fn sx K) (i : Nat) {f : Ck} (h : fs[i]? = some f := by rfl) : f K = true := by
  have c1 := (ba (show ((fs.all fun f => f K) && fn.all fun d => d.ok K) = true from congrArg (fun z : AlX => z.1) c)).1
  exact List.all_eq_true.mp c1 f (List.mem_of_getElem? h)
theorem SaysX.def_ (c : SaysX fs fn sx K) (i : Nat) {d : DefD} (h : fn[i]? = some d := by rfl) : ∃ fd, FunD K d.name d.qual d.params d.body d.scope (d.dvs K) (d.kws K) (fAd K d.at_) fd := by
  have c2 := (ba (show ((fs.all fun f => f K) && fn.all fun d => d.ok K) = true from congrArg (fun z : AlX => z.1) c)).2
  have e : fn.map (fun d => fnW K d.at_) = fn.map DefD.val := congrArg (fun z : AlX => z.2.1) c
  have e2 : (fn.map fun d => fnW K d.at_)[i]? = (fn.map DefD.val)[i]? := by rw [e]
  rw [List.getElem?_map, List.getElem?_map, h] at e2
  exact DefD.funD (Option.some.inj e2) (List.all_eq_true.mp c2 d (List.mem_of_getElem? h))
theorem SaysX.sup (c : SaysX fs fn sx K) (i : Nat) {d : SupD} (h : sx[i]? = some d := by rfl) : supW K d.x = d.val := by
  have e : sx.map (fun d => supW K d.x) = sx.map SupD.val := congrArg (fun z : AlX => z.2.2) c
  have e2 : (sx.map fun d => supW K d.x)[i]? = (sx.map SupD.val)[i]? := by rw [e]
  rw [List.getElem?_map, List.getElem?_map, h] at e2
  exact Option.some.inj e2
end
/-! single facts -/
def fa (f : Fa) : Ck := fun K => f.ok K
/-- a value by its address -/
def tupAt (a : PySem.W.Frag → Addr) (vs : List Dv) : Ck := fun K => match K.lookup (a K) with
  | some ⟨.type c, _, .seq its _, _⟩ => decide (c = "tuple") && (decide (its.size ≤ sizeLine) && relAll (vs.map (Dv.v K)) its.toList)
  | _ => false
theorem tupAt_ok {K : PySem.W.Frag} {a : PySem.W.Frag → Addr} {vs : List Dv} (h : tupAt a vs K = true) (H : Hp) : SqT K H (a K) (vs.map (Dv.v K)) := by
  unfold tupAt at h
  cases q : K.lookup (a K) with
  | none =>
    rw [q] at h
    cases h
  | some o =>
    obtain ⟨oc, od, dt, osl⟩ := o
    rw [q] at h
    cases oc with
    | type c =>
      cases dt with
      | seq its n =>
        obtain ⟨h1, h2⟩ := ba (show (decide (c = "tuple") && (decide (its.size ≤ sizeLine) && relAll (vs.map (Dv.v K)) its.toList)) = true from h)
        obtain ⟨h3, h4⟩ := ba h2
        exact .inr ⟨_, its, n, q, congrArg Value.type (of_decide_eq_true h1), rfl, of_decide_eq_true h3, relAll_ok h4⟩
      | _ => cases h
    | _ => cases dt <;> cases h
def exiB (K : PySem.W.Frag) (D : Addr) : Bool := (PySem.W.clsIn K D).isSome && (eqO (PySem.W.findIn K (.ref D) "__getattribute__") (some (some (.builtin "BaseException.__getattribute__"))) && (eqO (PySem.W.findIn K (.ref D) "__getattr__") (some none) && (decide (PySem.W.subIn K (.ref D) (.type "BaseException") = some true) &&
  (eqO (PySem.W.findIn K (.ref D) "__class__") (some (some (.builtin "object.__class__"))) && (eqO (PySem.W.specialIn K (.builtin "object.__class__") "__get__") (some (some (.builtin "getset_descriptor.__get__"))) && (decide (PySem.W.takesIn K (.builtin "object.__class__") = some true) && decide (PySem.W.mroIn K D (.type "object") = some true)))))))
theorem exi_ok {K : PySem.W.Frag} {D : Addr} (c : exiB K D = true) : X3.ExI K D := by
  obtain ⟨c1, c⟩ := ba c
  obtain ⟨c2, c⟩ := ba c
  obtain ⟨c3, c⟩ := ba c
  obtain ⟨c4, c⟩ := ba c
  obtain ⟨c5, c⟩ := ba c
  obtain ⟨c6, c⟩ := ba c
  obtain ⟨c7, c8⟩ := ba c
  exact ⟨c1, eqO_ok c2, eqO_ok c3, of_decide_eq_true c4, eqO_ok c5, eqO_ok c6, of_decide_eq_true c7, of_decide_eq_true c8⟩
def iscB (K : PySem.W.Frag) (x : Str) : Bool := (Fa.cls x).ok K && (eqO (PySem.W.findIn K (.ref (ga K x)) "__class__") (some (some (.builtin "object.__class__"))) && (eqO (PySem.W.specialIn K (.builtin "object.__class__") "__get__") (some (some (.builtin "getset_descriptor.__get__"))) && (decide (PySem.W.takesIn K (.builtin "object.__class__") = some true) && decide (PySem.W.mroIn K (ga K x) (.type "object") = some true))))
theorem isc_ok {K : PySem.W.Frag} {x : Str} (c : iscB K x = true) : L3.IsC K (ga K x) := by
  obtain ⟨c1, c⟩ := ba c
  obtain ⟨c2, c⟩ := ba c
  obtain ⟨c3, c⟩ := ba c
  obtain ⟨c4, c5⟩ := ba c
  exact ⟨cls_ok c1, eqO_ok c2, eqO_ok c3, of_decide_eq_true c4, of_decide_eq_true c5⟩
def kitB2 (v u : PySem.W.Frag → Value) (b : Bool) : Ck := fun K => decide (PySem.W.kitOne K (v K) (u K) = some b)
def exmB (x y : Str) (b : Bool) : Ck := fun K => decide (PySem.W.exmOne K (.ref (ga K x)) (.ref (ga K y)) = some b)
def raisB (x : Str) : Ck := fun K => decide (PySem.W.subIn K (.ref (ga K x)) (.type "BaseException") = some true) && decide (PySem.W.typeIn K (.ref (ga K x)) = some (.type "type"))
theorem rais_ok {X : Cx} {x : Str} (c : raisB x X.K = true) : Raises X (.ref (ga X.K x)) := by
  obtain ⟨c1, c2⟩ := ba c
  exact raises_own (of_decide_eq_true c1) (of_decide_eq_true c2)
/-! the end -/
theorem walk_X {l : PySem.W.OpenLaw} {n k : Nat} {q : Program} {loose : List Str} {XP : (Str → Option Value) → Heap → Prop} {YP : World → Heap → Prop} {d : DefRec} {x : Str} {Fn : List L3.PV → L3.R L3.OV}
    (hn : l.most = some n) (hn2 : n ≤ sizeLine) (hdf : d.params.defaults = []) (hr : Room k callerA)
    (F : ∀ (w : World) (mg : Str → Option Value) (fa : Addr) (h : Heap), YP w h → h.Ns mainGlobals mg → mg d.name = some (.ref fa) →
      ∃ (Γ : L3.Gc) (fd : FuncData), Γ.K.In h ∧ (∀ (s : Shared) (u : Value), BindsTo s fd ⟨[u], []⟩ [(x, u)]) ∧ ∀ base : Heap, Γ.K.In base → base.Ns mainGlobals mg → FnOk l.prog w Γ.K mg base (L2N.CX l.prog w) k fa fd [x] (L3.spP Γ Fn))
    (hF : ∀ ns : List Int, ns.length ≤ n → (∀ z ∈ ns, Builtin.Int.intBits z ≤ 1048576) → Fn [.scr (ns.map .int)] = .ok (.sh (.bl true))) :
    PySem.W.WalkO q loose XP YP l.row.toRowW d [] (fun f vs => PySem.call f vs) := by
  refine Att.attach_callB hn hdf fun w s₀ s₁ mg mb fa o pm cd doc a vs ns G Y ho hd hcd hmg hobj hints hlen hbits hg => ?_
  obtain ⟨Γ, fd, KX, hb, hFn⟩ := F w mg fa _ Y G.T.g hmg
  refine law_call KX G.T.g G.T.b G.T.builtins G.T.nolimit hg hobj hints (Nat.le_trans hlen hn2) hr hFn hb (fun H hO hS => ?_) fun H e s' hc => ?_
  · refine ⟨H, [.scr (ns.map .int)], Same.refl _, ?_, ?_⟩
    · refine L3.Reps.one ?_
      simp only [L3.Rep]
      refine ⟨a, _, rfl, hS, ?_⟩
      clear hlen hbits hints hS
      induction ns with
      | nil => exact L3.Reps.nil
      | cons i ns ih => exact L3.Reps.cons (by simp only [L3.Rep]) ih
    · rw [hF ns hlen hbits]
      intro v H' H₀' Fv E r nd fr
      simp only [L3.OwnR, L3.Rep] at r
      exact r.1
  · obtain ⟨_, _, _, _, _, _, _, _, _, _, _, _, z⟩ := hc
    exact z
end X4

end
section
/-! L3. 14: own ==, list(range(..)), small helps -/
namespace L3
open PySem PySem.Spec PyProof.Rows L2
/-! ### != by an own __eq__ -/
section
open PySem.W
variable {prog : Program} {w : World} {A : Around} {E : Value → Shared → Prop} {s : Shared} {K : Frag} {x C L f : Addr} {h₀ : Heap} {m : Str → Option Value} {ox : Obj} {od : Option Obj} {b tb : Value}
theorem ne_body {Q : Fin → Shared → Prop} (hu : A.units < cLine) (X : K.In s.heap) (I : InstAt s.heap x ox C od) (hs : findIn K (.ref C) "__eq__" = some (some (.ref f))) (hf : isFn K (.ref f) = true)
    (h : wpAny (model prog w) A (call (.ref f) [.ref x, b]) (fun v s' => ∃ k, v = .bool k ∧ Q (.done (.ret (.bool (!k)))) s') E s) : wpAny (model prog w) A (Builtin.«object.__ne__» ⟨[.ref x, b], []⟩) Q E s := by
  unfold Builtin.«object.__ne__»
  repeat (first | with_reducible refine wpAny_cRoomFor hu ?_ | (with_reducible refine ifBound_K (args := [b]) X I hs hf (wpAny_mono h (fun v s' q => ?_) fun _ _ e => e)) | wp_step)
  obtain ⟨k, rfl, q⟩ := q
  repeat (first | with_reducible refine wpAny_truthy_bool ?_ | wp_step)
  exact q
theorem ne_K {Q : Value → Shared → Prop} (hu : A.units + 1 < cLine) (Fr0 : Fr h₀ L s.heap m) (X₀ : K.In h₀) (I : InstAt s.heap x ox C od) (hb : Looks (model prog w) s.heap (typeOf b) tb) (hn : notFirst K C tb = true)
    (hs : findIn K (.ref C) "__eq__" = some (some (.ref f))) (hf : isFn K (.ref f) = true) (hne : findIn K (.ref C) "__ne__" = some (some (.builtin "object.__ne__"))) (hob : subIn K (.ref C) (.type "object") = some true)
    (h : wpAny (model prog w) A.in1 (call (.ref f) [.ref x, b]) (fun v s' => ∃ k, v = .bool k ∧ Q (.bool (!k)) s') E s) : wpAny (model prog w) A (richCompare .NotEq (.ref x) b) Q E s := by
  have X := X₀.keeps Fr0.keep
  have hu0 : A.units < cLine := Nat.lt_of_succ_lt hu
  have one : wpAny (model prog w) A (tryCompare (.ref x) (cmpInfo .NotEq).2.1 b) (fun r s' => ∃ v, r = some v ∧ Q v s') E s := by
    show wpAny (model prog w) A (tryCompare (.ref x) "__ne__" b) (fun r s' => ∃ v, r = some v ∧ Q v s') E s
    unfold tryCompare
    refine wpAny_bind ?_
    simp only [callSpecialIfBound?, bindSpecialIfBound?]
    refine wpAny_holding (wpAny_bind (wpAny_bind (wpAny_bind (I.type.here ((looks_findIn X hne).here ?_)))))
    simp only [F.cmp_object.ne.bind]
    refine wpAny_bind (wpAny_askSetting (wpAny_ite ?_))
    have hc : wpAny (model prog w) A (call (.builtin "object.__ne__") [.ref x, b]) (fun v s' => ∃ k, v = .bool k ∧ Q (.bool k) s') E s := by
      refine wpAny_call (codeAny_call_builtin F.cmp_object.ne.plain F.cmpEntry_ne ?_)
      simp only [checkBuiltinCall, F.cmpKind_ne, F.cmpSplit_ne]
      have LI : Looks (model prog w) s.heap (isInstance (.ref x) (.type "object")) true := I.type.andThen (looks_subIn X hob)
      refine wpAny_bind (LI.here ?_)
      have ha := F.cmpArgs_ne (.ref x) b
      cases hsig : Manifest.signature? "object.__ne__" with
      | none =>
        refine wpAny_pure ?_
        exact ne_body (A := A.in1) (by show A.units + 1 < cLine; exact hu) X I hs hf (wpAny_mono h (fun v s' q => (let ⟨k, e, q⟩ := q; ⟨k, e, ⟨!k, rfl, q⟩⟩)) fun _ _ e => e)
      | some sig =>
        simp only [argsOk, hsig] at ha
        have h2 : Bind.checkArgs "object.__ne__" sig ⟨[.ref x, b], []⟩ = pure () := ha
        show wpAny _ _ (Bind.checkArgs "object.__ne__" sig ⟨[.ref x, b], []⟩) _ _ _
        rw [h2]
        refine wpAny_pure ?_
        exact ne_body (A := A.in1) (by show A.units + 1 < cLine; exact hu) X I hs hf (wpAny_mono h (fun v s' q => (let ⟨k, e, q⟩ := q; ⟨k, e, ⟨!k, rfl, q⟩⟩)) fun _ _ e => e)
    have fin : wpAny (model prog w) A (call (.builtin "object.__ne__") ([.ref x] ++ [b]) >>= fun v => pure (some v)) (fun r s' => wpAny (model prog w) A (match r with
        | some .notImplemented => pure none
        | none => pure none
        | some v => pure (some v)) (fun r s' => ∃ v, r = some v ∧ Q v s') E s') E s := wpAny_bind (wpAny_mono hc (fun v s' q => (by obtain ⟨k, rfl, q⟩ := q; exact wpAny_pure (wpAny_pure ⟨_, rfl, q⟩))) fun _ _ h' => h')
    split
    · exact wpAny_bind (wpAny_pure (wpAny_pure fin))
    · exact wpAny_tryCatch (wpAny_bind (wpAny_pure (wpAny_pure fin)))
  unfold richCompare
  simp only [oneThing_ref]
  refine wpAny_holding (wpAny_bind (wpAny_cRoomFor hu0 ?_))
  refine wpAny_bind (I.type.here (wpAny_bind (hb.here ?_)))
  split
  · rename_i q
    have e : subIn K tb (.ref C) = some false := by
      rcases Bool.or_eq_true_iff.mp hn with e | e
      · rw [beq_iff_eq.mp e] at q; simp at q
      · exact beq_iff_eq.mp e
    refine wpAny_bind ((looks_subIn X e).here ?_)
    simp only [Bool.false_eq_true, if_false]
    refine wpAny_bind (wpAny_mono one (fun r s' z => ?_) fun _ _ e => e)
    obtain ⟨v, rfl, hq⟩ := z
    exact wpAny_pure hq
  · refine wpAny_bind (wpAny_pure ?_)
    simp only [Bool.false_eq_true, if_false]
    refine wpAny_bind (wpAny_mono one (fun r s' z => ?_) fun _ _ e => e)
    obtain ⟨v, rfl, hq⟩ := z
    exact wpAny_pure hq
end
/-- what an own == must have -/
structure EqC (K : PySem.W.Frag) (Ca f : Addr) : Prop where
  eq : PySem.W.findIn K (.ref Ca) "__eq__" = some (some (.ref f))
  fn : PySem.W.isFn K (.ref f) = true
  ne : PySem.W.findIn K (.ref Ca) "__ne__" = some (some (.builtin "object.__ne__"))
  ob : PySem.W.subIn K (.ref Ca) (.type "object") = some true
  tu : PySem.W.subIn K (.type "tuple") (.ref Ca) = some false
def rEqO (K : PySem.W.Frag) (Ca : Addr) (sp : Sp) (neg : Bool) : R2 := fun x y H Q => ∃ a b dx fs, x = .ref a ∧ y = .ref b ∧ H a = some (.ins Ca dx fs) ∧ ((∃ dy gs, H b = some (.ins Ca dy gs)) ∨ ∃ xs, SqT K H b xs) ∧
  sp [x, y] H (fun v H' => ∃ k, v = .bl k ∧ Q (.bl (if neg then !k else k)) H') fun _ _ _ => False
section
variable {X : Cx} {Ca f : Addr} {fd : FuncData} {ns : List Str} {k : Nat} {sp : Sp}
theorem type_of_y {pins : List (Addr × Obj)} {σ : L2.St} {H : Hp} {s : Shared} {b : Addr} (T : EqC X.K Ca f) (I : Inv X pins σ H s) (h : (∃ dy gs, H b = some (.ins Ca dy gs)) ∨ ∃ xs, SqT X.K H b xs) :
    ∃ tb, PySem.W.Looks (model X.prog X.w) s.heap (typeOf (.ref b)) tb ∧ PySem.W.notFirst X.K Ca tb = true := by
  rcases h with ⟨dy, gs, h⟩ | ⟨xs, h⟩
  · obtain ⟨mA, J, _⟩ := ins_get I.hok h
    obtain ⟨od, J, _⟩ := J.look
    exact ⟨_, J.type, by simp [PySem.W.notFirst]⟩
  · obtain ⟨its, rv, pl, hz⟩ := I.tuple h
    obtain ⟨o, ho, hc, _⟩ := pl
    exact ⟨.type "tuple", fun A Q E s' kk q => wpAny_typeOf_ref (kk _ _ ho) (by rw [hc]; exact q), by simp [PySem.W.notFirst, T.tu]⟩
theorem run_eqO {A : Around} {pins : List (Addr × Obj)} {σ : L2.St} {H : Hp} {s : Shared} {a b : Addr} {Q : VK} (Fo : FnOk X.prog X.w X.K X.mg X.base (L2N.CX X.prog X.w) k f fd ns sp) (hr : Room k A) (hfr : A.frames = X.A.frames) (hb : Binds X.K fd ns []) (I : Inv X pins σ H s)
    (h : sp [.ref a, .ref b] H (fun v H' => ∃ k, v = .bl k ∧ Q (.bl k) H') fun _ _ _ => False) :
    wpAny (model X.prog X.w) A (call (.ref f) [.ref a, .ref b]) (fun u s' => ∃ k H', u = .bool k ∧ Inv X pins σ H' s' ∧ Q (.bl k) H') X.xe s := by
  have e0 : Env0 X.prog X.w X.K X.mg X.base A X.stack s H := by
    have e := I.env0
    exact ⟨by rw [hfr]; exact e.frames, e.mod, e.bs, e.bsz, e.funs, e.frf, e.hok, e.bare⟩
  have hl := Fo.len _ _ _ _ h
  have r2 : Vals [V.ref a, V.ref b] [Value.ref a, Value.ref b] := .cons rfl (.cons rfl .nil)
  refine wpAny_call (codeAny_mono (Fo.run A X.stack s H ⟨[.ref a, .ref b], []⟩ [.ref a, .ref b] [.ref a, .ref b] _ _ hr e0 (by
    have := hb s [.ref a, .ref b] I.kIn (by simpa using hl)
    simpa using this) r2 h) fun r s' hq => ?_)
  cases r with
  | error e =>
    obtain ⟨_, _, _, _, _, _, _, _, _, _, _, _, z⟩ := hq
    exact z.elim
  | ok fl =>
    cases fl with
    | ret u =>
      obtain ⟨z, H', I', rz, k, ez, q⟩ := I.after hq
      subst ez
      cases rz
      exact ⟨k, H', rfl, I', q⟩
    | next => exact False.elim hq
    | brk => exact False.elim hq
    | cont => exact False.elim hq
theorem op_eqO (T : EqC X.K Ca f) (Fo : FnOk X.prog X.w X.K X.mg X.base (L2N.CX X.prog X.w) k f fd ns sp) (hr : Room k X.A) (hb : Binds X.K fd ns []) : OpR X (compareOp .Eq) (rEqO X.K Ca sp false) := by
  intro pins s σ H x y v u Q I rx ry h
  obtain ⟨a, b, dx, fs, rfl, rfl, ha, hy, h⟩ := h
  cases rx
  cases ry
  obtain ⟨mA, J, _⟩ := ins_get I.hok ha
  obtain ⟨od, J, _⟩ := J.look
  obtain ⟨m, hF⟩ := I.fr
  obtain ⟨tb, L1, L2⟩ := type_of_y T I hy
  show wpAny (model X.prog X.w) X.A (richCompare .Eq (.ref a) (.ref b)) (EP X pins σ Q) X.xe s
  refine PySem.W.cmp_K (op := .Eq) hr.units0 hF I.ok.mod.kin J L1 L2 T.eq T.fn ?_
  refine wpAny_mono (run_eqO Fo hr rfl hb I h) (fun v s' q => ?_) fun _ _ e => e
  obtain ⟨k, H', rfl, I', q⟩ := q
  exact ⟨.bl k, H', I', rfl, q⟩
theorem op_neO (T : EqC X.K Ca f) (Fo : FnOk X.prog X.w X.K X.mg X.base (L2N.CX X.prog X.w) k f fd ns sp) (hr : Room (k + 1) X.A) (hb : Binds X.K fd ns []) : OpR X (compareOp .NotEq) (rEqO X.K Ca sp true) := by
  intro pins s σ H x y v u Q I rx ry h
  obtain ⟨a, b, dx, fs, rfl, rfl, ha, hy, h⟩ := h
  cases rx
  cases ry
  obtain ⟨mA, J, _⟩ := ins_get I.hok ha
  obtain ⟨od, J, _⟩ := J.look
  obtain ⟨m, hF⟩ := I.fr
  obtain ⟨tb, L1, L2⟩ := type_of_y T I hy
  show wpAny (model X.prog X.w) X.A (richCompare .NotEq (.ref a) (.ref b)) (EP X pins σ Q) X.xe s
  refine ne_K (by have := hr.units; omega) hF I.ok.mod.kin J L1 L2 T.eq T.fn T.ne T.ob ?_
  refine wpAny_mono (run_eqO (A := X.A.in1) (Q := fun v H' => ∃ k, v = .bl k ∧ Q (.bl (!k)) H') Fo hr.in1 rfl hb I ?_) (fun v s' q => ?_) fun _ _ e => e
  · refine cast ?_ h
    congr
    funext v H'
    refine propext ⟨fun ⟨k, e, q⟩ => ⟨k, e, k, rfl, q⟩, fun ⟨k, e, k', e', q⟩ => ⟨k, e, ?_⟩⟩
    cases e'
    exact q
  · obtain ⟨k, H', rfl, I', k', e, q⟩ := q
    cases e
    exact ⟨k, rfl, .bl (!k), H', I', rfl, q⟩
end
def eqY (c : Nat) : PV → Bool
  | .ins c'' _ => decide (c'' = c)
  | .tup _ => true
  | _ => false
def eqoK (c : Nat) (Fn : List PV → R OV) (neg : Bool) (p q : PV) : R PV := match p with
  | .ins c' _ => if c' = c ∧ eqY c q = true then (match Fn [p, q] with
      | .ok (.sh (.bl b)) => .ok (.bl (if neg then !b else b))
      | _ => .no) else .no
  | _ => .no
def eEqO (neg : Bool) (c : Nat) (Fn : List PV → R OV) (fa fb : Env → R PV) : Env → R PV := fun ρ => (fa ρ).bind fun p => (fb ρ).bind fun q => eqoK c Fn neg p q
section
variable {C : Fc} {W : WX} {m : Bool} {X : Cx} {a b : Expr} {pos : Pos} {f : Addr} {fd : FuncData} {ns : List Str} {k c : Nat} {Fn : List PV → R OV} {fa fb : Env → R PV} {σ : L2.St} {H : Hp} {neg : Bool}
theorem eqo_go (hK : X.K = C.G.K) {Q : VK} (h : tE C W m (eEqO neg c Fn fa fb) σ H Q) : tE C W m fa σ H fun x H1 => tE C W m fb σ H1 fun y H2 => rEqO X.K (C.G.CA c) (spP C.G Fn) neg x y H2 Q := by
  rw [tE_iff] at h ⊢
  obtain ⟨H₀, F, ρ, S, h⟩ := h
  unfold eEqO at h
  rw [Goes.bind] at h
  refine ⟨H₀, F, ρ, S, h.imp fun p _ h1 v H1 H₁ E1 r1 => ?_⟩
  clear h
  rw [Goes.bind] at h1
  rw [tE_iff]
  have S1 := S.ext E1
  refine ⟨H₁, F, ρ, S1, (h1.later E1).imp fun q _ h w H2 H₂ E2 r2 => ?_⟩
  clear h1
  have S2 := S1.ext E2
  have r1 := Rep.mono (md_ext E2) r1
  have E := E1.trans E2
  unfold eqoK at h
  cases p with
  | ins c' fs =>
    dsimp only at h
    by_cases hc : c' = c ∧ eqY c q = true
    rotate_left
    · rw [if_neg hc] at h
      exact h.elim
    rw [if_pos hc] at h
    obtain ⟨hc1, hc2⟩ := hc
    subst hc1
    have r1' := r1
    simp only [Rep] at r1'
    obtain ⟨a', dx, vs, e1, e2, e3⟩ := r1'
    have yk : ∃ b', w = .ref b' ∧ ((∃ dy gs, H2 b' = some (.ins (C.G.CA c') dy gs)) ∨ ∃ xs, SqT X.K H2 b' xs) := by
      cases q with
      | ins c'' gs =>
        have hc3 : c'' = c' := by simpa [eqY] using hc2
        subst hc3
        have r2' := r2
        simp only [Rep] at r2'
        obtain ⟨b', dy, ws, g1, g2, g3⟩ := r2'
        exact ⟨b', g1, .inl ⟨dy, ws, md_H S2.z _ _ g2⟩⟩
      | tup l =>
        have r2' := r2
        simp only [Rep] at r2'
        obtain ⟨b', xs, g1, g2, g3⟩ := r2'
        exact ⟨b', g1, .inr ⟨xs, by rw [hK]; exact Same.seqT (md_H S2.z) g2⟩⟩
      | _ => simp [eqY] at hc2
    obtain ⟨b', g1, g2⟩ := yk
    subst e1 g1
    cases eF : Fn [.ins c' fs, q] with
    | er z => rw [eF] at h; exact h.elim
    | no => rw [eF] at h; exact h.elim
    | ok o =>
      rw [eF] at h
      match o, eF, h with
      | .sh (.bl bb), eF, h =>
        refine ⟨a', b', dx, vs, rfl, rfl, md_H S2.z _ _ e2, g2, md m H₂ H2 F, [.ins c' fs, q], md_H S2.z, Reps.cons r1 (Reps.one r2), ?_⟩
        rw [eF]
        intro v H' Hc Fv Ec ro nd fr
        obtain ⟨H₀', E', c1, c2, c3⟩ := cap S2 Ec
        simp only [OwnR, Rep] at ro
        exact ⟨bb, ro.1, h _ H' H₀' (E.trans E') (by simp only [Rep])⟩
      | .sh .non, eF, h => exact (show False from h).elim
      | .sh (.int _), eF, h => exact (show False from h).elim
      | .sh (.str _), eF, h => exact (show False from h).elim
      | .sh (.lst _), eF, h => exact (show False from h).elim
      | .sh (.scr _), eF, h => exact (show False from h).elim
      | .sh (.tup _), eF, h => exact (show False from h).elim
      | .sh (.ins _ _), eF, h => exact (show False from h).elim
      | .own _, eF, h => exact (show False from h).elim
      | .obj _ _, eF, h => exact (show False from h).elim
  | _ => exact (show False from h).elim
theorem tst_go' {f : Env → R PV} {Q : Bool → Hp → Prop} (h : tTt C W (eTst f) σ H Q) : tE C W m f σ H fun x H' => ∃ k, x = .bl k ∧ Q k H' := tst_go h
theorem qEqO (hK : X.K = C.G.K) (Fo : FnOk X.prog X.w X.K X.mg X.base (L2N.CX X.prog X.w) k f fd ns (spP C.G Fn)) (T : EqC X.K (C.G.CA c) f) (hr : Room k X.A) (hb : Binds X.K fd ns []) (ha : QE C W m X a fa) (hb' : QE C W m X b fb) (hm : behindInMarks .Eq b = false := by first | exact nomark _ | rfl) :
    QE C W m X (.Compare a [.Eq] [b] pos) (eEqO false c Fn fa fb) := PE.imp (pe_cmpR (op_eqO T Fo hr hb) ha hb' hm) fun σ H Q h => eqo_go hK h
theorem qNeO (hK : X.K = C.G.K) (Fo : FnOk X.prog X.w X.K X.mg X.base (L2N.CX X.prog X.w) k f fd ns (spP C.G Fn)) (T : EqC X.K (C.G.CA c) f) (hr : Room (k + 1) X.A) (hb : Binds X.K fd ns []) (ha : QE C W m X a fa) (hb' : QE C W m X b fb) (hm : behindInMarks .NotEq b = false := by first | exact nomark _ | rfl) :
    QE C W m X (.Compare a [.NotEq] [b] pos) (eEqO true c Fn fa fb) := PE.imp (pe_cmpR (op_neO T Fo hr hb) ha hb' hm) fun σ H Q h => eqo_go hK h
theorem tEqO (hK : X.K = C.G.K) (Fo : FnOk X.prog X.w X.K X.mg X.base (L2N.CX X.prog X.w) k f fd ns (spP C.G Fn)) (T : EqC X.K (C.G.CA c) f) (hr : Room k X.A) (hb : Binds X.K fd ns []) (ha : QE C W m X a fa) (hb' : QE C W m X b fb) (hm : behindInMarks .Eq b = false := by first | exact nomark _ | rfl) :
    QT C W X (.Compare a [.Eq] [b] pos) (eTst (eEqO false c Fn fa fb)) := PT.imp (pt_cmpR (op_eqO T Fo hr hb) ha hb' hm) fun σ H Q h => eqo_go (m := m) hK (tst_go' h)
theorem tNeO (hK : X.K = C.G.K) (Fo : FnOk X.prog X.w X.K X.mg X.base (L2N.CX X.prog X.w) k f fd ns (spP C.G Fn)) (T : EqC X.K (C.G.CA c) f) (hr : Room (k + 1) X.A) (hb : Binds X.K fd ns []) (ha : QE C W m X a fa) (hb' : QE C W m X b fb) (hm : behindInMarks .NotEq b = false := by first | exact nomark _ | rfl) :
    QT C W X (.Compare a [.NotEq] [b] pos) (eTst (eEqO true c Fn fa fb)) := PT.imp (pt_cmpR (op_neO T Fo hr hb) ha hb' hm) fun σ H Q h => eqo_go (m := m) hK (tst_go' h)
/-! ### list(range(n)) -/
def bLstR : List PV → R OV
  | [.int n] => if 0 ≤ n ∧ n ≤ 1000000 then .ok (.own ((rngP 0 n.toNat).map .sh)) else .no
  | _ => .no
theorem reps_rng {G : Gc} {Hv : Hp} {n : Int} : Reps G Hv (rngP 0 n.toNat) (rgV 0 n) := by
  unfold rngP rgV
  rw [show (n - 0).toNat = n.toNat by simp]
  generalize List.range n.toNat = l
  induction l with
  | nil => exact Reps.nil
  | cons i l ih => exact Reps.cons (by simp only [Rep]) ih
theorem qListR {e : Expr} {p pos p2 pos2 : Pos} {fe : Env → R PV} (hc : X.calm = true) (hm : X.mg "list" = none) (hm2 : X.mg "range" = none) (he : QE C W true X e fe) (hg : Gl X "list" := by rfl) (hg2 : Gl X "range" := by rfl) (na : starEach [e] X.env = (false, eval e X.env) :: starEach [] X.env := by rfl)
    (na2 : starEach [.Call (.Name "range" p2) [e] [] pos2] X.env = (false, eval (.Call (.Name "range" p2) [e] [] pos2) X.env) :: starEach [] X.env := by rfl) : QF C W X (.Call (.Name "list" p) [.Call (.Name "range" p2) [e] [] pos2] [] pos) (fB bLstR (aCons fe aNil)) := by
  refine PE.imp (pe_listRg hc hg hm (prg_1 hg2 hm2 he na) na2) fun σ H Q h => ?_
  show tE C W true fe σ H fun x H1 => ∃ n, x = .int n ∧ RgOk 0 n ∧ ∀ q, H1 q = none → Q (.ref q) (upd H1 q (.lst (rgV 0 n)))
  rw [tF_iff] at h
  rw [tE_iff]
  obtain ⟨H₀, F, ρ, S, h⟩ := h
  unfold fB aCons aNil at h
  rw [Goes.bind, Goes.bind] at h
  refine ⟨H₀, F, ρ, S, h.imp fun p _ h v H1 H₁ E1 r1 => ?_⟩
  have h : Goes C.G W (bLstR [p]) σ H H₀ fun o => ∀ v H' H₀' Fv, Ext H₀ H H₀' H' → OwnR C.G H₀' H' o v Fv → Fv.Nodup → (∀ a ∈ Fv, H a = none ∧ H₀' a = none) → Q v H' := h
  unfold bLstR at h
  cases p with
  | int n =>
    dsimp only at h
    by_cases hn : 0 ≤ n ∧ n ≤ 1000000
    · rw [if_pos hn] at h
      simp only [Rep] at r1
      refine ⟨n, r1, RgOk.of_le (Int.le_refl _) (by omega) (by omega) hn.1, fun q hq => ?_⟩
      obtain ⟨E3, o3, n3, f3⟩ := own_new (C := C) E1.z hq (reps_rng (G := C.G) (Hv := H₁) (n := n))
      exact h _ _ _ _ (E1.trans E3) o3 n3 fun c hc => ⟨Same.free E1.s (f3 c hc).1, (f3 c hc).2⟩
    · rw [if_neg hn] at h
      exact h.elim
  | _ => exact (show False from h).elim
end
/-! ### small helps -/
theorem fxo_none {G : Gc} {He Hz Hx : Hp} {i : Nat} : fxOk ⟨G, He, Hz, none, Hx⟩ i := fun _ _ z => nomatch z
theorem fxo_some {G : Gc} {He Hz Hx : Hp} {i j : Nat} {v : V} (h : j ≠ i) : fxOk ⟨G, He, Hz, some (j, v), Hx⟩ i := fun j' v' z => by
  have z : (j, v) = (j', v') := Option.some.inj z
  cases z
  exact h
theorem fxs_none {G : Gc} {He Hz Hx : Hp} {l : List Nat} : ∀ i ∈ l, fxOk ⟨G, He, Hz, none, Hx⟩ i := fun _ _ => fxo_none
theorem fxs_some {G : Gc} {He Hz Hx : Hp} {l : List Nat} {j : Nat} {v : V} (h : j ∉ l) : ∀ i ∈ l, fxOk ⟨G, He, Hz, some (j, v), Hx⟩ i := fun i hi => fxo_some fun z => h (z ▸ hi)
/-- a name that an inner block takes, as a comprehension's target -/
theorem lcNameC {C : Fc} {X : Cx} {pos : Pos} {scope : Scope} {i : Nat} {x : Str} (hx : fxOk C i) (hN : X.N.Nodup) (hi : X.N[i]? = some x) (hl : ∀ c cl, (compEnvC scope cl c X.env).scope.names.lookup x = some .cell) (hc : (scope.names.lookup x == some .cell) = true) :
    ∃ g : TG, (∀ (s : Shared) (H : Hp) (c : Addr) (cl : List (Str × Addr)) (fp : List Addr), PG (X.blk s H scope (compEnvC scope cl c X.env) fp) (.Name x pos) g) ∧ ∀ (p : PV) (v : V) (H₀ : Hp) (F : List Addr) (ρ ρ' : Env) (σ : L2.St) (H : Hp) (Q : L2.St → Hp → Prop), SR C H₀ F ρ σ H → Rep C.G H₀ p v → tgS (.nm i) p ρ = .ok ρ' → (∀ σ' F', SR C H₀ F' ρ' σ' H → (∀ vs, (∀ j ∈ (Tg.nm i).slots, j ∈ vs) → wipe σ' vs = wipe σ vs) → Q σ' H) → g v σ H Q :=
  ⟨gName i, fun s H c cl fp => pg_name hN hi (.inr (hl c cl)) (.inl hc), fun p v H₀ F ρ ρ' σ H Q S r e k => by
    simp only [tgS] at e
    cases e
    obtain ⟨F', S'⟩ := S.sh r hx
    exact k _ F' S' fun vs hv => wipe_set (hv i (by simp [Tg.slots]))⟩
/-- isinstance of a built-in class, of what is no instance of an own class -/
def tbT (t : String) : String → Option Bool := fun s => if s = "NoneType" ∨ s = "bool" ∨ s = "int" ∨ s = "str" ∨ s = "list" ∨ s = "tuple" then kitB s t else none
theorem tbT_ok {t : String} : ∀ s b, tbT t s = some b → kitB s t = some b := fun s b h => by
  unfold tbT at h
  split at h
  · exact h
  · cases h
def ibN : Nat → Option Bool := fun _ => none
theorem ibN_ok {P : Nat → Bool → Prop} : ∀ c b, ibN c = some b → P c b := fun _ _ h => nomatch h
theorem hotc {X : Cx} {a : Addr} {ob : Obj} {cls : Value} {d : Option Addr} {pl : List (Addr × Obj)} (hz : L2N.Zn cls d ob) (hf : ∃ vs, ob.data = .fields vs) : L2H.HotC (X.suite a ((a, ob) :: pl)) :=
  let ⟨vs, e⟩ := hf
  ⟨(a, ob), ⟨rfl, vs, e, hz.2.2 vs e⟩, List.mem_cons_self⟩
theorem room_mark {k : Nat} {A : Around} {h : Option Value} (r : L2H.RoomH k A) : L2H.RoomH k (A.mark h) := ⟨r.dp, r.un⟩
theorem hu_of {k : Nat} {A : Around} (r : Room k A) : A.units + 65 < cLine := by have := r.un; omega
theorem huH_of {k : Nat} {A : Around} (r : L2H.RoomH k A) : A.units + 65 < cLine := by have := r.un; omega
theorem dep_of {k : Nat} {A : Around} (r : Room k A) : A.depth + 1 < recursionLimit := by have := r.dp; omega
end L3

end
section
/-! L3. 15: the head's facts, more of them -/
namespace X4
open PySem PySem.Spec PyProof.Rows L2 He
def eqcB (x : Str) : Ck := fun K => eqO (PySem.W.findIn K (.ref (ga K x)) "__eq__") (some (some (.ref (ma K (ga K x) "__eq__")))) && (PySem.W.isFn K (.ref (ma K (ga K x) "__eq__")) && (eqO (PySem.W.findIn K (.ref (ga K x)) "__ne__") (some (some (.builtin "object.__ne__"))) &&
  (decide (PySem.W.subIn K (.ref (ga K x)) (.type "object") = some true) && decide (PySem.W.subIn K (.type "tuple") (.ref (ga K x)) = some false))))
theorem eqc_ok {K : PySem.W.Frag} {x : Str} (c : eqcB x K = true) : L3.EqC K (ga K x) (ma K (ga K x) "__eq__") := by
  obtain ⟨c1, c⟩ := ba c
  obtain ⟨c2, c⟩ := ba c
  obtain ⟨c3, c⟩ := ba c
  obtain ⟨c4, c5⟩ := ba c
  exact ⟨eqO_ok c1, c2, eqO_ok c3, of_decide_eq_true c4, of_decide_eq_true c5⟩
def xfCk (x : Str) : Ck := fun K => L2.xfB K (ga K x)
theorem xfc_ok {K : PySem.W.Frag} {x : Str} (c : xfCk x K = true) : XfC K (ga K x) := xfB_ok c
def exiC (x : Str) : Ck := fun K => exiB K (ga K x)
def kitRR (x y : Str) (b : Bool) : Ck := fun K => decide (PySem.W.kitOne K (.ref (ga K x)) (.ref (ga K y)) = some b)
def kitTR (t : String) (y : Str) (b : Bool) : Ck := fun K => decide (PySem.W.kitOne K (.type t) (.ref (ga K y)) = some b)
theorem kitRR_ok {K : PySem.W.Frag} {x y : Str} {b : Bool} (c : kitRR x y b K = true) : PySem.W.kitOne K (.ref (ga K x)) (.ref (ga K y)) = some b := of_decide_eq_true c
theorem kitTR_ok {K : PySem.W.Frag} {t : String} {y : Str} {b : Bool} (c : kitTR t y b K = true) : PySem.W.kitOne K (.type t) (.ref (ga K y)) = some b := of_decide_eq_true c
theorem exmB_ok {K : PySem.W.Frag} {x y : Str} {b : Bool} (c : exmB x y b K = true) : PySem.W.exmOne K (.ref (ga K x)) (.ref (ga K y)) = some b := of_decide_eq_true c
def tupC (x : Str) (vs : List Dv) : Ck := fun K => tupB K x vs
/-- all defs at once -/
theorem SaysX.defs {fs : List Ck} {fn : List DefD} {sx : List SupD} {K : PySem.W.Frag} (c : SaysX fs fn sx K) (h0 : 0 < fn.length) : ∃ fd : Nat → FuncData, ∀ (i : Nat) (d : DefD), fn[i]? = some d → FunD K d.name d.qual d.params d.body d.scope (d.dvs K) (d.kws K) (fAd K d.at_) (fd i) := by
  obtain ⟨f0, _⟩ := c.def_ 0 (d := fn[0]) (by rw [List.getElem?_eq_getElem h0])
  have key : ∀ i : Nat, ∃ f : FuncData, ∀ d : DefD, fn[i]? = some d → FunD K d.name d.qual d.params d.body d.scope (d.dvs K) (d.kws K) (fAd K d.at_) f := by
    intro i
    cases e : fn[i]? with
    | none => exact ⟨f0, fun d h => nomatch h⟩
    | some d0 =>
      obtain ⟨f, hf⟩ := c.def_ i e
      exact ⟨f, fun d h => by cases h; exact hf⟩
  exact ⟨fun i => (key i).choose, fun i => (key i).choose_spec⟩
theorem binds_all {K : PySem.W.Frag} {x qual : Str} {params : Arguments} {body : List Stmt} {scope : Scope} {dvs : List V} {kws : List (Str × V)} {f : Addr} {fd : FuncData} {ps : List Str} (F : FunD K x qual params body scope dvs kws f fd) (hd : dvs ≠ [])
    (h : ∀ (T : Addr) (kV doc pm : Value) (an : Option Addr) (cdv ct : Value) (us its : List Value), us.length = ps.length → its.length = dvs.length →
      ∃ k, bindArgs (PySem.W.fnOf x qual params body scope (.ref T) kV doc pm an cdv ct) ⟨us, []⟩ = seqItems? (.ref T) >>= k ∧ k (some its.toArray) = pure (ps.zip us)) : Vals [] [] ∧ Binds K fd ps [] := by
  obtain ⟨ds, h1, h2⟩ := FunD.binds1 (ps := ps) F ps.length dvs.length hd (by simp) fun T kV doc pm an cdv ct us its hu hi => by
    obtain ⟨k, e1, e2⟩ := h T kV doc pm an cdv ct us its hu hi
    exact ⟨k, e1, by rw [e2, List.drop_eq_nil_of_le (by omega), List.append_nil]⟩
  rw [List.drop_eq_nil_of_le (Nat.le_refl _)] at h1
  cases h1
  exact ⟨.nil, h2⟩
end X4

end
section
/-! L3. 16: the plain functions, reckoned by simp -/
namespace L3
open PySem PySem.Spec PyProof.Rows L2
/-- a proof by computing that simp is to name -/
theorem nr {α : Sort _} {a b : α} (h : a = b) : a = b := h
/-! ### one thing after another: every rule has its continuation by name, so that simp never looks under a binder -/
section
variable {ρ ρ' : Env} {fa fb : Env → R PV} {c d : Env → R Bool} {s t : Env → RS} {fas : Env → R (List PV)} {fo go : Env → R OV} {fm : Env → R (OV × Env)} {p q : PV} {o : OV} {i j : Nat} {x : PX}
def seqS : RS → (Env → RS) → RS
  | .nx ρ, g => g ρ
  | r, _ => r
@[simp] theorem seqS_nx : seqS (.nx ρ) s = s ρ := nr rfl
@[simp] theorem seqS_rt : seqS (.rt o) s = .rt o := nr rfl
@[simp] theorem seqS_bk : seqS (.bk ρ) s = .bk ρ := nr rfl
@[simp] theorem seqS_ct : seqS (.ct ρ) s = .ct ρ := nr rfl
@[simp] theorem seqS_er : seqS (.er x ρ) s = .er x ρ := nr rfl
@[simp] theorem sSeq_at : sSeq s t ρ = seqS (s ρ) t := by unfold sSeq; cases s ρ <;> rfl
@[simp] theorem sNx_at : sNx ρ = .nx ρ := nr rfl
@[simp] theorem sBk_at : sBk ρ = .bk ρ := nr rfl
@[simp] theorem sCt_at : sCt ρ = .ct ρ := nr rfl
def ifS : R Bool → (Env → RS) → (Env → RS) → Env → RS
  | .ok k, s, t, ρ => if k = true then s ρ else t ρ
  | .er x, _, _, ρ => .er x ρ
  | .no, _, _, _ => .no
@[simp] theorem ifS_true : ifS (.ok true) s t ρ = s ρ := nr rfl
@[simp] theorem ifS_false : ifS (.ok false) s t ρ = t ρ := nr rfl
@[simp] theorem ifS_er : ifS (.er x) s t ρ = .er x ρ := nr rfl
@[simp] theorem sIf_at : sIf c s t ρ = ifS (c ρ) s t ρ := by unfold sIf; cases c ρ <;> rfl
def setS (i : Nat) : R (OV × Env) → Env → RS
  | .ok q, _ => .nx (q.2.set i (some q.1))
  | .er x, ρ => .er x ρ
  | .no, _ => .no
@[simp] theorem setS_ok : setS i (.ok (o, ρ)) ρ' = .nx (ρ.set i (some o)) := nr rfl
@[simp] theorem setS_er : setS i (.er x) ρ' = .er x ρ' := nr rfl
@[simp] theorem sSet_at : sSet i fm ρ = setS i (fm ρ) ρ := by unfold sSet; cases fm ρ <;> rfl
def rtS : R (OV × Env) → Env → RS
  | .ok q, _ => .rt q.1
  | .er x, ρ => .er x ρ
  | .no, _ => .no
@[simp] theorem rtS_ok : rtS (.ok (o, ρ)) ρ' = .rt o := nr rfl
@[simp] theorem rtS_er : rtS (.er x) ρ' = .er x ρ' := nr rfl
@[simp] theorem sRt_at : sRt fm ρ = rtS (fm ρ) ρ := by unfold sRt; cases fm ρ <;> rfl
@[simp] theorem sRtN_at : sRtN ρ = .rt (.sh .non) := nr rfl
def doS {α : Type} : R α → Env → RS
  | .ok _, ρ => .nx ρ
  | .er x, ρ => .er x ρ
  | .no, _ => .no
@[simp] theorem doS_ok {α : Type} {a : α} : doS (.ok a) ρ = .nx ρ := nr rfl
@[simp] theorem doS_er {α : Type} : doS (.er x : R α) ρ = .er x ρ := nr rfl
@[simp] theorem sDo_at {α : Type} {f : Env → R α} : sDo f ρ = doS (f ρ) ρ := by unfold sDo; cases f ρ <;> rfl
def rzS (k : Nat) (fl : Str) : R PV → Env → RS
  | .ok p, ρ => .er ⟨k, [(fl, p)]⟩ ρ
  | .er x, ρ => .er x ρ
  | .no, _ => .no
@[simp] theorem rzS_ok {k : Nat} {fl : Str} : rzS k fl (.ok p) ρ = .er ⟨k, [(fl, p)]⟩ ρ := nr rfl
@[simp] theorem sRz_at {k : Nat} {fl : Str} : sRz k fl fa ρ = rzS k fl (fa ρ) ρ := by unfold sRz; cases fa ρ <;> rfl
@[simp] theorem sFz_at : sFz i s ρ = s (frz i ρ) := nr rfl
def tgN : R Env → Env → RS
  | .ok ρ', _ => .nx ρ'
  | .er x, ρ => .er x ρ
  | .no, _ => .no
@[simp] theorem tgN_ok : tgN (.ok ρ) ρ' = .nx ρ := nr rfl
def tgG (T : Tg) : R PV → Env → RS
  | .ok p, ρ => tgN (tgS T p ρ) ρ
  | .er x, ρ => .er x ρ
  | .no, _ => .no
@[simp] theorem tgG_ok {T : Tg} : tgG T (.ok p) ρ = tgN (tgS T p ρ) ρ := nr rfl
@[simp] theorem sTg_at {T : Tg} : sTg T fa ρ = tgG T (fa ρ) ρ := by
  unfold sTg
  cases fa ρ with
  | ok p =>
    show (tgS T p ρ).to ρ _ = tgN _ _
    cases tgS T p ρ <;> rfl
  | er x => rfl
  | no => rfl
def parS (i j : Nat) : R (List PV) → Env → RS
  | .ok [p, q], ρ => .nx ((ρ.set i (some (.sh p))).set j (some (.sh q)))
  | .ok _, _ => .no
  | .er x, ρ => .er x ρ
  | .no, _ => .no
@[simp] theorem parS_ok : parS i j (.ok [p, q]) ρ = .nx ((ρ.set i (some (.sh p))).set j (some (.sh q))) := nr rfl
@[simp] theorem sPar_at (h : ∃ p q, fas ρ = .ok [p, q]) : sPar i j fas ρ = parS i j (fas ρ) ρ := by
  obtain ⟨p, q, h⟩ := h
  unfold sPar
  rw [h]
  rfl
def forS (T : Tg) (fg : List Nat) (s : Env → RS) : R (List PV) → Env → RS
  | .ok ps, ρ => forGo T fg s ps (wipeE ρ fg)
  | .er x, ρ => .er x ρ
  | .no, _ => .no
@[simp] theorem forS_ok {T : Tg} {fg : List Nat} {ps : List PV} : forS T fg s (.ok ps) ρ = forGo T fg s ps (wipeE ρ fg) := nr rfl
@[simp] theorem sFor_at {T : Tg} {fg : List Nat} {fi : Env → R (List PV)} : sFor T fg fi s ρ = forS T fg s (fi ρ) ρ := by unfold sFor; cases fi ρ <;> rfl
@[simp] theorem sWhile_at {fu : Env → Nat} {fg : List Nat} : sWhile fu fg c s ρ = whGo fg c s (fu ρ) (wipeE ρ fg) := nr rfl
/-! expressions -/
@[simp] theorem eVar_zero {ρ : Env} : eVar 0 (some (.sh p) :: ρ) = .ok p := nr rfl
@[simp] theorem eVar_succ {x : Option OV} {ρ : Env} : eVar (i + 1) (x :: ρ) = eVar i ρ := nr rfl
@[simp] theorem eOwn_zero {ρ : Env} : eOwn 0 (some o :: ρ) = .ok o.pv := nr rfl
@[simp] theorem eOwn_succ {x : Option OV} {ρ : Env} : eOwn (i + 1) (x :: ρ) = eOwn i ρ := nr rfl
@[simp] theorem eCst_at : eCst p ρ = .ok p := nr rfl
def bin2 (g : PV → PV → R PV) : R PV → R PV → R PV
  | .ok p, .ok q => g p q
  | .ok _, r => r
  | r, _ => r
@[simp] theorem bin2_ok {g : PV → PV → R PV} : bin2 g (.ok p) (.ok q) = g p q := nr rfl
@[simp] theorem bin2_er {g : PV → PV → R PV} {r : R PV} : bin2 g (.er x) r = .er x := nr rfl
@[simp] theorem bin2_er' {g : PV → PV → R PV} : bin2 g (.ok p) (.er x) = .er x := nr rfl
@[simp] theorem eBin_at {g : PV → PV → R PV} : eBin g fa fb ρ = bin2 g (fa ρ) (fb ρ) := by
  unfold eBin
  cases fa ρ <;> cases fb ρ <;> rfl
@[simp] theorem eIdx_at : eIdx fa fb ρ = bin2 idxR (fa ρ) (fb ρ) := eBin_at
def un1 (g : PV → R PV) : R PV → R PV
  | .ok p => g p
  | r => r
@[simp] theorem un1_ok {g : PV → R PV} : un1 g (.ok p) = g p := nr rfl
@[simp] theorem un1_er {g : PV → R PV} : un1 g (.er x) = .er x := nr rfl
@[simp] theorem eUn_at {g : PV → R PV} : eUn g fa ρ = un1 g (fa ρ) := by unfold eUn; cases fa ρ <;> rfl
def tst : R PV → R Bool
  | .ok (.bl b) => .ok b
  | .ok _ => .no
  | .er x => .er x
  | .no => .no
@[simp] theorem tst_bl {b : Bool} : tst (.ok (.bl b)) = .ok b := nr rfl
@[simp] theorem tst_er : tst (.er x) = .er x := nr rfl
@[simp] theorem eTst_at : eTst fa ρ = tst (fa ρ) := by
  unfold eTst
  cases fa ρ with
  | ok p => cases p <;> rfl
  | er x => rfl
  | no => rfl
def tru1 : R PV → R Bool
  | .ok p => truthR p
  | .er x => .er x
  | .no => .no
@[simp] theorem tru1_ok : tru1 (.ok p) = truthR p := nr rfl
@[simp] theorem eTru_at : eTru fa ρ = tru1 (fa ρ) := by unfold eTru; cases fa ρ <;> rfl
def andR : R Bool → R Bool → R Bool
  | .ok k, r => if k = true then r else .ok false
  | r, _ => r
@[simp] theorem andR_true {r : R Bool} : andR (.ok true) r = r := nr rfl
@[simp] theorem andR_false {r : R Bool} : andR (.ok false) r = .ok false := nr rfl
@[simp] theorem andR_ok {b k : Bool} : andR (.ok b) (.ok k) = .ok (b && k) := by cases b <;> rfl
@[simp] theorem bAnd_at : bAnd c d ρ = andR (c ρ) (d ρ) := by unfold bAnd; cases c ρ <;> rfl
def orR : R Bool → R Bool → R Bool
  | .ok k, r => if k = true then .ok true else r
  | r, _ => r
@[simp] theorem orR_true {r : R Bool} : orR (.ok true) r = .ok true := nr rfl
@[simp] theorem orR_false {r : R Bool} : orR (.ok false) r = r := nr rfl
@[simp] theorem orR_ok {b k : Bool} : orR (.ok b) (.ok k) = .ok (b || k) := by cases b <;> rfl
@[simp] theorem bOr_at : bOr c d ρ = orR (c ρ) (d ρ) := by unfold bOr; cases c ρ <;> rfl
def notR : R Bool → R Bool
  | .ok k => .ok (!k)
  | r => r
@[simp] theorem notR_ok {b : Bool} : notR (.ok b) = .ok (!b) := nr rfl
@[simp] theorem notR_er : notR (.er x) = .er x := nr rfl
@[simp] theorem bNot_at : bNot c ρ = notR (c ρ) := by unfold bNot; cases c ρ <;> rfl
def andP : R PV → R PV → R PV
  | .ok (.bl k), r => if k = true then r else .ok (.bl false)
  | .ok _, _ => .no
  | r, _ => r
@[simp] theorem andP_true {r : R PV} : andP (.ok (.bl true)) r = r := nr rfl
@[simp] theorem andP_false {r : R PV} : andP (.ok (.bl false)) r = .ok (.bl false) := nr rfl
@[simp] theorem andP_ok {b k : Bool} : andP (.ok (.bl b)) (.ok (.bl k)) = .ok (.bl (b && k)) := by cases b <;> rfl
@[simp] theorem eAnd_at : eAnd fa fb ρ = andP (fa ρ) (fb ρ) := by
  unfold eAnd
  cases fa ρ with
  | ok p => cases p with
    | bl b => cases b <;> rfl
    | _ => rfl
  | er x => rfl
  | no => rfl
def orP : R PV → R PV → R PV
  | .ok (.bl k), r => if k = true then .ok (.bl true) else r
  | .ok _, _ => .no
  | r, _ => r
@[simp] theorem orP_true {r : R PV} : orP (.ok (.bl true)) r = .ok (.bl true) := nr rfl
@[simp] theorem orP_false {r : R PV} : orP (.ok (.bl false)) r = r := nr rfl
@[simp] theorem orP_ok {b k : Bool} : orP (.ok (.bl b)) (.ok (.bl k)) = .ok (.bl (b || k)) := by cases b <;> rfl
@[simp] theorem eOr_at : eOr fa fb ρ = orP (fa ρ) (fb ρ) := by
  unfold eOr
  cases fa ρ with
  | ok p => cases p with
    | bl b => cases b <;> rfl
    | _ => rfl
  | er x => rfl
  | no => rfl
def notP : R PV → R PV
  | .ok (.bl b) => .ok (.bl (!b))
  | .ok _ => .no
  | r => r
@[simp] theorem notP_ok {b : Bool} : notP (.ok (.bl b)) = .ok (.bl (!b)) := nr rfl
@[simp] theorem eNot_at : eNot fa ρ = notP (fa ρ) := by
  unfold eNot
  cases fa ρ with
  | ok p => cases p <;> rfl
  | er x => rfl
  | no => rfl
def ifR {α : Type} : R Bool → R α → R α → R α
  | .ok k, r, r' => if k = true then r else r'
  | .er x, _, _ => .er x
  | .no, _, _ => .no
@[simp] theorem ifR_true {α : Type} {r r' : R α} : ifR (.ok true) r r' = r := nr rfl
@[simp] theorem ifR_false {α : Type} {r r' : R α} : ifR (.ok false) r r' = r' := nr rfl
theorem ifR_ok {α : Type} {b : Bool} {u v : α} : ifR (.ok b) (.ok u) (.ok v) = .ok (if b = true then u else v) := by cases b <;> rfl
@[simp] theorem ifR_int {b : Bool} {u v : Int} : ifR (.ok b) (.ok (PV.int u)) (.ok (PV.int v)) = .ok (PV.int (if b = true then u else v)) := by cases b <;> rfl
@[simp] theorem eIf_at : eIf c fa fb ρ = ifR (c ρ) (fa ρ) (fb ρ) := by unfold eIf; cases c ρ <;> rfl
def cons2 : R PV → R (List PV) → R (List PV)
  | .ok p, .ok ps => .ok (p :: ps)
  | .ok _, r => r
  | .er x, _ => .er x
  | .no, _ => .no
@[simp] theorem cons2_ok {ps : List PV} : cons2 (.ok p) (.ok ps) = .ok (p :: ps) := nr rfl
@[simp] theorem cons2_er {r : R (List PV)} : cons2 (.er x) r = .er x := nr rfl
@[simp] theorem aNil_at : aNil ρ = .ok [] := nr rfl
@[simp] theorem aCons_at : aCons fa fas ρ = cons2 (fa ρ) (fas ρ) := by
  unfold aCons
  cases fa ρ <;> cases fas ρ <;> rfl
def app1 {α β : Type} (g : α → R β) : R α → R β
  | .ok a => g a
  | .er x => .er x
  | .no => .no
@[simp] theorem app1_ok {α β : Type} {g : α → R β} {a : α} : app1 g (.ok a) = g a := nr rfl
@[simp] theorem app1_er {α β : Type} {g : α → R β} : app1 g (.er x) = .er x := nr rfl
theorem bind_app {α β : Type} {r : R α} {g : α → R β} : r.bind g = app1 g r := by cases r <;> rfl
@[simp] theorem eTup_at : eTup fas ρ = app1 mkTup (fas ρ) := bind_app
@[simp] theorem fLst_at : fLst fas ρ = app1 mkLst (fas ρ) := bind_app
def fz1 : R OV → R PV
  | .ok o => .ok o.pv
  | .er x => .er x
  | .no => .no
@[simp] theorem fz1_ok : fz1 (.ok o) = .ok o.pv := nr rfl
@[simp] theorem fz1_er : fz1 (.er x) = .er x := nr rfl
@[simp] theorem eFz_at : eFz fo ρ = fz1 (fo ρ) := by unfold eFz; cases fo ρ <;> rfl
def sh1 : R PV → R OV
  | .ok p => .ok (.sh p)
  | .er x => .er x
  | .no => .no
@[simp] theorem sh1_ok : sh1 (.ok p) = .ok (.sh p) := nr rfl
@[simp] theorem sh1_er : sh1 (.er x) = .er x := nr rfl
@[simp] theorem fSh_at : fSh fa ρ = sh1 (fa ρ) := by unfold fSh; cases fa ρ <;> rfl
@[simp] theorem eB_at {g : List PV → R PV} : eB g fas ρ = app1 g (fas ρ) := bind_app
@[simp] theorem fB_at {g : List PV → R OV} : fB g fas ρ = app1 g (fas ρ) := bind_app
@[simp] theorem iSeq_at : iSeq fa ρ = app1 seqR (fa ρ) := bind_app
@[simp] theorem iRg_at {g : List PV → R (List PV)} : iRg g fas ρ = app1 g (fas ρ) := bind_app
@[simp] theorem tYesB_at : tYesB ρ = .ok true := nr rfl
def shM : R PV → Env → R (OV × Env)
  | .ok p, ρ => .ok (.sh p, ρ)
  | .er x, _ => .er x
  | .no, _ => .no
@[simp] theorem shM_ok : shM (.ok p) ρ = .ok (.sh p, ρ) := nr rfl
@[simp] theorem shM_er : shM (.er x) ρ = .er x := nr rfl
@[simp] theorem mSh_at : mSh fa ρ = shM (fa ρ) ρ := by unfold mSh; cases fa ρ <;> rfl
def frM : R OV → Env → R (OV × Env)
  | .ok o, ρ => .ok (o, ρ)
  | .er x, _ => .er x
  | .no, _ => .no
@[simp] theorem frM_ok : frM (.ok o) ρ = .ok (o, ρ) := nr rfl
@[simp] theorem frM_er : frM (.er x) ρ = .er x := nr rfl
@[simp] theorem mFr_at : mFr fo ρ = frM (fo ρ) ρ := by unfold mFr; cases fo ρ <;> rfl
def mvC (x : Option OV) : R (OV × Env) → R (OV × Env)
  | .ok q => .ok (q.1, x :: q.2)
  | r => r
@[simp] theorem mvC_ok {y : Option OV} : mvC y (.ok (o, ρ)) = .ok (o, y :: ρ) := nr rfl
@[simp] theorem mMv_zero {ρ : Env} : mMv 0 (some o :: ρ) = .ok (o, none :: ρ) := nr rfl
@[simp] theorem mMv_succ {y : Option OV} {ρ : Env} : mMv (i + 1) (y :: ρ) = mvC y (mMv i ρ) := by
  unfold mMv
  rw [List.getElem?_cons_succ]
  cases h : (ρ[i]? : Option (Option OV)) with
  | none => rfl
  | some z => cases z <;> simp [mvC]
def lst1 : R (List PV) → R OV
  | .ok l => .ok (.own (l.map .sh))
  | .er x => .er x
  | .no => .no
@[simp] theorem lst1_ok {l : List PV} : lst1 (.ok l) = .ok (.own (l.map .sh)) := nr rfl
def opF (g : PV → PV → R (List PV)) : R PV → R PV → R OV
  | .ok p, .ok q => lst1 (g p q)
  | .ok _, .er x => .er x
  | .ok _, .no => .no
  | .er x, _ => .er x
  | .no, _ => .no
@[simp] theorem opF_ok {g : PV → PV → R (List PV)} : opF g (.ok p) (.ok q) = lst1 (g p q) := nr rfl
@[simp] theorem fOp_at {g : PV → PV → R (List PV)} : fOp g fa fb ρ = opF g (fa ρ) (fb ρ) := by
  unfold fOp
  cases fa ρ with
  | ok p =>
    cases fb ρ with
    | ok q =>
      show (g p q).bind _ = lst1 _
      cases g p q <;> rfl
    | er x => rfl
    | no => rfl
  | er x => rfl
  | no => rfl
def flat1 : R PV → R PV
  | .ok p => if p.flat = true then .ok p else .no
  | r => r
@[simp] theorem flat1_ok (h : p.flat = true) : flat1 (.ok p) = .ok p := if_pos h
@[simp] theorem flat1_er : flat1 (.er x) = .er x := nr rfl
@[simp] theorem eFlat_at : eFlat fa ρ = flat1 (fa ρ) := by unfold eFlat; cases fa ρ <;> rfl
def call1 (m : Bool) (Fn : List PV → R OV) (dps : List PV) : R (List PV) → R OV
  | .ok ps => capR m (Fn (ps ++ dps))
  | .er x => .er x
  | .no => .no
@[simp] theorem call1_ok {m : Bool} {Fn : List PV → R OV} {dps ps : List PV} : call1 m Fn dps (.ok ps) = capR m (Fn (ps ++ dps)) := nr rfl
@[simp] theorem fCall_at {m : Bool} {Fn : List PV → R OV} {dps : List PV} : fCall m Fn dps fas ρ = call1 m Fn dps (fas ρ) := by unfold fCall; cases fas ρ <;> rfl
theorem capR_flat {m : Bool} (h : o.flat = true) : capR m (.ok o) = .ok o := if_pos (.inr h)
theorem capR_flat_er {m : Bool} (h : PV.flatf x.fs = true) : capR m (.er x) = .er x := if_pos (.inr h)
def meth1 (m : Bool) (k : Nat) (mth : Str) (Fn : List PV → R OV) (dps : List PV) : R PV → R (List PV) → R OV
  | .ok (.ins c' fs), r => if c' = k ∧ fs.lookup mth = none then (match r with
    | .ok ps => capR m (Fn (.ins c' fs :: (ps ++ dps)))
    | .er x => .er x
    | .no => .no) else .no
  | .ok _, _ => .no
  | .er x, _ => .er x
  | .no, _ => .no
@[simp] theorem meth1_ins {m : Bool} {k c' : Nat} {fs : List (Str × PV)} {mth : Str} {Fn : List PV → R OV} {dps ps : List PV} (h1 : c' = k) (h2 : fs.lookup mth = none) : meth1 m k mth Fn dps (.ok (.ins c' fs)) (.ok ps) = capR m (Fn (.ins c' fs :: (ps ++ dps))) := if_pos ⟨h1, h2⟩
@[simp] theorem fMeth_at {m : Bool} {k : Nat} {mth : Str} {Fn : List PV → R OV} {dps : List PV} : fMeth m k mth Fn dps fa fas ρ = meth1 m k mth Fn dps (fa ρ) (fas ρ) := by
  unfold fMeth
  cases fa ρ with
  | ok p =>
    cases p with
    | ins c' fs =>
      show (if _ then (fas ρ).bind _ else _) = if _ then _ else _
      cases fas ρ <;> rfl
    | _ => rfl
  | er x => rfl
  | no => rfl
def mkO (m : Bool) (k : Nat) : R (List (Str × OV)) → R OV
  | .ok fs => capR m (.ok (.obj k fs))
  | .er x => capR m (.er x)
  | .no => .no
@[simp] theorem mkO_ok {m : Bool} {k : Nat} {fs : List (Str × OV)} : mkO m k (.ok fs) = capR m (.ok (.obj k fs)) := nr rfl
@[simp] theorem mkO_er {m : Bool} {k : Nat} : mkO m k (.er x) = capR m (.er x) := nr rfl
def make1 (m : Bool) (k : Nat) (FI : List PV → R (List (Str × OV))) (dps : List PV) : R (List PV) → R OV
  | .ok ps => mkO m k (FI (ps ++ dps))
  | .er x => .er x
  | .no => .no
@[simp] theorem make1_ok {m : Bool} {k : Nat} {FI : List PV → R (List (Str × OV))} {dps ps : List PV} : make1 m k FI dps (.ok ps) = mkO m k (FI (ps ++ dps)) := nr rfl
@[simp] theorem fMake_at {m : Bool} {k : Nat} {FI : List PV → R (List (Str × OV))} {dps : List PV} : fMake m k FI dps fas ρ = make1 m k FI dps (fas ρ) := by
  unfold fMake
  cases fas ρ with
  | ok ps =>
    show capR m ((FI (ps ++ dps)).bind _) = mkO m k _
    cases FI (ps ++ dps) <;> rfl
  | er x => rfl
  | no => rfl
def fldR (f : Str) (ok : Nat → Bool) : R PV → R PV
  | .ok (.ins c fs) => if ok c then R.of (fs.lookup f) else .no
  | .ok _ => .no
  | r => r
@[simp] theorem fldR_ins {f : Str} {ok : Nat → Bool} {k : Nat} {fs : List (Str × PV)} (h : ok k = true) : fldR f ok (.ok (.ins k fs)) = R.of (fs.lookup f) := if_pos h
@[simp] theorem eFld_at {f : Str} {ok : Nat → Bool} : eFld f ok fa ρ = fldR f ok (fa ρ) := by
  unfold eFld
  cases fa ρ with
  | ok p => cases p <;> rfl
  | er x => rfl
  | no => rfl
@[simp] theorem eIsi_at {tb : String → Option Bool} {ib : Nat → Option Bool} : eIsi tb ib fa ρ = un1 (isiP tb ib) (fa ρ) := eUn_at
def sl3 : R PV → R (Option Int) → R (Option Int) → R PV
  | .ok p, .ok l, .ok h => slR p l h
  | .ok _, .ok _, .er x => .er x
  | .ok _, .er x, _ => .er x
  | .er x, _, _ => .er x
  | _, _, _ => .no
@[simp] theorem sl3_ok {l h : Option Int} : sl3 (.ok p) (.ok l) (.ok h) = slR p l h := nr rfl
@[simp] theorem eSl_at {l h : Env → R (Option Int)} : eSl fa l h ρ = sl3 (fa ρ) (l ρ) (h ρ) := by
  unfold eSl
  cases fa ρ <;> cases l ρ <;> cases h ρ <;> rfl
@[simp] theorem oNone_at : oNone ρ = .ok none := nr rfl
def oInt1 : R PV → R (Option Int)
  | .ok (.int i) => .ok (some i)
  | .ok _ => .no
  | .er x => .er x
  | .no => .no
@[simp] theorem oInt1_int {i : Int} : oInt1 (.ok (.int i)) = .ok (some i) := nr rfl
@[simp] theorem oSome_at : oSome fa ρ = oInt1 (fa ρ) := by
  unfold oSome
  cases fa ρ with
  | ok p => cases p <;> rfl
  | er x => rfl
  | no => rfl
def isN1 (neg : Bool) : R PV → R PV
  | .ok p => .ok (.bl (isN p != neg))
  | r => r
@[simp] theorem isN1_ok {neg : Bool} : isN1 neg (.ok p) = .ok (.bl (isN p != neg)) := nr rfl
@[simp] theorem eIsN_at : eIsN fa ρ = isN1 false (fa ρ) := by unfold eIsN; cases fa ρ <;> simp [isN1]
@[simp] theorem eNotN_at : eNotN fa ρ = isN1 true (fa ρ) := by unfold eNotN; cases fa ρ <;> simp [isN1]
@[simp] theorem isN_non : isN .non = true := nr rfl
@[simp] theorem isN_int {i : Int} : isN (.int i) = false := nr rfl
@[simp] theorem isN_tup {l : List PV} : isN (.tup l) = false := nr rfl
@[simp] theorem eEqO_at {neg : Bool} {k : Nat} {Fn : List PV → R OV} : eEqO neg k Fn fa fb ρ = bin2 (eqoK k Fn neg) (fa ρ) (fb ρ) := by
  unfold eEqO
  cases fa ρ <;> cases fb ρ <;> rfl
@[simp] theorem eXf_at {ok : Nat → Bool} {x : PX} {fl : Str} (h : ok x.c = true) : eXf ok x fl ρ = R.of (x.fs.lookup fl) := if_pos h
@[simp] theorem eXi_at {ib : Nat → Option Bool} {x : PX} : eXi ib x ρ = R.of ((ib x.c).map .bl) := nr rfl
def tryS (hs : List Hd) : RS → RS
  | .er x ρ' => handle hs x ρ'
  | r => r
@[simp] theorem tryS_er {hs : List Hd} : tryS hs (.er x ρ) = handle hs x ρ := nr rfl
@[simp] theorem tryS_nx {hs : List Hd} : tryS hs (.nx ρ) = .nx ρ := nr rfl
@[simp] theorem tryS_rt {hs : List Hd} : tryS hs (.rt o) = .rt o := nr rfl
@[simp] theorem tryS_bk {hs : List Hd} : tryS hs (.bk ρ) = .bk ρ := nr rfl
@[simp] theorem tryS_ct {hs : List Hd} : tryS hs (.ct ρ) = .ct ρ := nr rfl
@[simp] theorem sTry_at {hs : List Hd} : sTry s hs ρ = tryS hs (s ρ) := by unfold sTry; cases s ρ <;> rfl
@[simp] theorem handle_nm {m : Nat → Option Bool} {su : PX → Env → RS} {hs : List Hd} (h1 : m x.c = some true) (h3 : i < ρ.length) : handle (⟨m, some i, su⟩ :: hs) x ρ = goneS i (calmS (su x (ρ.set i none))) := by
  unfold handle
  simp only [h1]
  exact if_pos h3
@[simp] theorem handle_bare {m : Nat → Option Bool} {su : PX → Env → RS} {hs : List Hd} (h1 : m x.c = some true) : handle (⟨m, none, su⟩ :: hs) x ρ = calmS (su x ρ) := by
  unfold handle
  simp only [h1]
@[simp] theorem handle_not {m : Nat → Option Bool} {nm : Option Nat} {su : PX → Env → RS} {hs : List Hd} (h1 : m x.c = some false) : handle (⟨m, nm, su⟩ :: hs) x ρ = handle hs x ρ := by
  rw [handle]
  simp only [h1]
@[simp] theorem handle_nil : handle [] x ρ = .er x ρ := nr rfl
@[simp] theorem calmS_nx : calmS (.nx ρ) = .nx ρ := nr rfl
@[simp] theorem calmS_rt : calmS (.rt o) = .rt o := nr rfl
@[simp] theorem calmS_bk : calmS (.bk ρ) = .bk ρ := nr rfl
@[simp] theorem calmS_ct : calmS (.ct ρ) = .ct ρ := nr rfl
@[simp] theorem goneS_nx : goneS i (.nx ρ) = .nx (ρ.set i none) := nr rfl
@[simp] theorem goneS_rt : goneS i (.rt o) = .rt o := nr rfl
@[simp] theorem goneS_bk : goneS i (.bk ρ) = .bk (ρ.set i none) := nr rfl
@[simp] theorem goneS_ct : goneS i (.ct ρ) = .ct (ρ.set i none) := nr rfl
/-! results -/
@[simp] theorem outS_nx : outS (.nx ρ) = .ok (.sh .non) := nr rfl
@[simp] theorem outS_rt : outS (.rt o) = .ok o := nr rfl
@[simp] theorem outS_er {x : PX} : outS (.er x ρ) = .er x := nr rfl
theorem defF_at {n np : Nat} {ps : List PV} (h : ps.length = np) : defF n np s ps = outS (s (startE n ps)) := if_pos h
theorem initF_at {n np k : Nat} {ps : List PV} (h : ps.length + 1 = np) : initF n np k s ps = outI k (s (some (.obj k []) :: startE (n - 1) ps)) := if_pos h
@[simp] theorem outI_ok {k : Nat} {fs : List (Str × OV)} : outI k (.nx (some (.obj k fs) :: ρ)) = .ok fs := if_pos rfl
@[simp] theorem outI_er {k k' : Nat} {fs : List (Str × OV)} : outI k (.er x (some (.obj k' fs) :: ρ)) = .er x := nr rfl
/-! places -/
@[simp] theorem atE_zero {ρ : Env} {π : List Stp} : atE (some o :: ρ) (0, π) = getP π o := nr rfl
@[simp] theorem atE_succ {x : Option OV} {ρ : Env} {π : List Stp} : atE (x :: ρ) (i + 1, π) = atE ρ (i, π) := nr rfl
@[simp] theorem upE_zero {ρ : Env} {π : List Stp} {n : OV} : upE (some o :: ρ) (0, π) n = some (setP π o n) :: ρ := nr rfl
@[simp] theorem upE_succ {x : Option OV} {ρ : Env} {π : List Stp} {n : OV} : upE (x :: ρ) (i + 1, π) n = x :: upE ρ (i, π) n := by
  unfold upE
  rw [List.getElem?_cons_succ]
  cases h : (ρ[i]? : Option (Option OV)) with
  | none => rfl
  | some y => cases y <;> simp
@[simp] theorem getP_nil : getP [] o = some o := by unfold getP; rfl
def getL (π : List Stp) : Option OV → Option OV
  | some o => getP π o
  | none => none
@[simp] theorem getL_some {π : List Stp} : getL π (some o) = getP π o := nr rfl
@[simp] theorem getP_ix {l : List OV} {π : List Stp} : getP (.ix j :: π) (.own l) = getL π l[j]? := by
  show (l[j]?).bind (getP π) = _
  cases l[j]? <;> rfl
@[simp] theorem getP_fl {f : Str} {k : Nat} {fs : List (Str × OV)} {π : List Stp} : getP (.fl f :: π) (.obj k fs) = getL π (fs.lookup f) := by
  show (fs.lookup f).bind (getP π) = _
  cases fs.lookup f <;> rfl
@[simp] theorem setP_nil {n : OV} : setP [] o n = n := by unfold setP; rfl
theorem setP_ix {l : List OV} {π : List Stp} {n : OV} : setP (.ix j :: π) (.own l) n = (match l[j]? with
    | some o => .own (l.set j (setP π o n))
    | none => .own l) := rfl
@[simp] theorem setP_ix1 {l : List OV} {n : OV} : setP [.ix j] (.own l) n = .own (l.set j n) := by
  rw [setP_ix]
  cases h : l[j]? with
  | some o => simp only [setP_nil]
  | none =>
    have hl : l.length ≤ j := List.getElem?_eq_none_iff.mp h
    show OV.own l = _
    rw [List.set_eq_of_length_le hl]
@[simp] theorem setP_fl1 {f : Str} {k : Nat} {fs : List (Str × OV)} {n y : OV} (h : fs.lookup f = some y) : setP [.fl f] (.obj k fs) n = .obj k (putO f n fs) := by
  show (match fs.lookup f with
    | some o => OV.obj k (putO f (setP [] o n) fs)
    | none => .obj k fs) = _
  rw [h]
  simp
def ownR (q : Pth) : Option OV → R Pth
  | some (.own _) => .ok q
  | some (.obj _ _) => .ok q
  | _ => .no
@[simp] theorem ownR_own {q : Pth} {l : List OV} : ownR q (some (.own l)) = .ok q := nr rfl
@[simp] theorem ownR_obj {q : Pth} {k : Nat} {fs : List (Str × OV)} : ownR q (some (.obj k fs)) = .ok q := nr rfl
theorem pthR_at {q : Pth} : pthR ρ q = ownR q (atE ρ q) := by
  unfold pthR ownR
  rfl
@[simp] theorem pVar_at : pVar i ρ = ownR (i, []) (atE ρ (i, [])) := pthR_at
def ixR (ρ : Env) (q : Pth) : Option OV → PV → R Pth
  | some (.own l), .int k => (match ixN l.length k with
    | some j => pthR ρ (q.1, q.2 ++ [.ix j])
    | none => .no)
  | _, _ => .no
@[simp] theorem ixR_at {q : Pth} {l : List OV} {k : Int} (h0 : 0 ≤ k) (h1 : k < l.length) : ixR ρ q (some (.own l)) (.int k) = ownR (q.1, q.2 ++ [.ix k.toNat]) (atE ρ (q.1, q.2 ++ [.ix k.toNat])) := by
  have e : ixN l.length k = some k.toNat := by unfold ixN; rw [if_pos h0, if_pos h1]
  show (match ixN l.length k with
    | some j => pthR ρ (q.1, q.2 ++ [Stp.ix j])
    | none => .no) = _
  rw [e]
  exact pthR_at
def ix2 (ρ : Env) : R Pth → R PV → R Pth
  | .ok q, .ok p => ixR ρ q (atE ρ q) p
  | .ok _, .er x => .er x
  | .er x, _ => .er x
  | _, _ => .no
@[simp] theorem ix2_ok {q : Pth} : ix2 ρ (.ok q) (.ok p) = ixR ρ q (atE ρ q) p := nr rfl
@[simp] theorem pIx_at {g : Env → R Pth} : pIx g fa ρ = ix2 ρ (g ρ) (fa ρ) := by
  unfold pIx
  cases g ρ <;> cases fa ρ <;> rfl
def apG (q : Pth) : Option OV → R (OV × Env) → Env → RS
  | some (.own _), .ok r, _ => apR q r.1 r.2
  | some (.own _), .er x, ρ => .er x ρ
  | _, _, _ => .no
@[simp] theorem apG_ok {q : Pth} {l : List OV} : apG q (some (.own l)) (.ok (o, ρ)) ρ' = apR q o ρ := nr rfl
def ap2 (ρ : Env) : R Pth → R (OV × Env) → RS
  | .ok q, r => apG q (atE ρ q) r ρ
  | .er x, _ => .er x ρ
  | .no, _ => .no
@[simp] theorem ap2_ok {q : Pth} {r : R (OV × Env)} : ap2 ρ (.ok q) r = apG q (atE ρ q) r ρ := nr rfl
@[simp] theorem sApp_at {g : Env → R Pth} : sApp g fm ρ = ap2 ρ (g ρ) (fm ρ) := by
  unfold sApp
  cases g ρ with
  | ok q =>
    show (match atE ρ q with
      | some (.own _) => (fm ρ).to ρ fun r => apR q r.1 r.2
      | _ => .no) = apG q (atE ρ q) (fm ρ) ρ
    cases atE ρ q with
    | none => rfl
    | some y =>
      cases y with
      | own l => cases fm ρ <;> rfl
      | _ => rfl
  | er x => rfl
  | no => rfl
def apN (q : Pth) (n : OV) (ρ : Env) : Option OV → RS
  | some (.own l) => if l.length < sizeLine then .nx (upE ρ q (.own (l ++ [n]))) else .no
  | _ => .no
@[simp] theorem apN_own {q : Pth} {n : OV} {l : List OV} (h : l.length < sizeLine) : apN q n ρ (some (.own l)) = .nx (upE ρ q (.own (l ++ [n]))) := if_pos h
@[simp] theorem apR_at {q : Pth} {n : OV} : apR q n ρ = apN q n ρ (atE ρ q) := nr rfl
def stG (q : Pth) (n : OV) (ρ : Env) : Option OV → PV → RS
  | some (.own l), .int k => (match ixN l.length k with
    | some j => .nx (upE ρ q (.own (l.set j n)))
    | none => .no)
  | _, _ => .no
@[simp] theorem stG_own {q : Pth} {n : OV} {l : List OV} {k : Int} (h0 : 0 ≤ k) (h1 : k < l.length) : stG q n ρ (some (.own l)) (.int k) = .nx (upE ρ q (.own (l.set k.toNat n))) := by
  have e : ixN l.length k = some k.toNat := by unfold ixN; rw [if_pos h0, if_pos h1]
  show (match ixN l.length k with
    | some j => RS.nx (upE ρ q (.own (l.set j n)))
    | none => .no) = _
  rw [e]
theorem stR_at {q : Pth} {n : OV} : stR q p n ρ = stG q n ρ (atE ρ q) p := rfl
def st2 : R Pth → R PV → OV → Env → RS
  | .ok q, .ok p, o, ρ => stR q p o ρ
  | .ok _, .er x, _, ρ => .er x ρ
  | .er x, _, _, ρ => .er x ρ
  | _, _, _, _ => .no
@[simp] theorem st2_ok {q : Pth} : st2 (.ok q) (.ok p) o ρ = stG q o ρ (atE ρ q) p := nr rfl
def st3 (g : Env → R Pth) (fi : Env → R PV) : R (OV × Env) → Env → RS
  | .ok r, _ => st2 (g r.2) (fi r.2) r.1 r.2
  | .er x, ρ => .er x ρ
  | .no, _ => .no
@[simp] theorem st3_ok {g : Env → R Pth} {fi : Env → R PV} : st3 g fi (.ok (o, ρ)) ρ' = st2 (g ρ) (fi ρ) o ρ := nr rfl
@[simp] theorem sSt_at {g : Env → R Pth} {fi : Env → R PV} : sSt g fi fm ρ = st3 g fi (fm ρ) ρ := by
  unfold sSt
  cases fm ρ with
  | ok r =>
    show (g r.2).to r.2 (fun q => (fi r.2).to r.2 fun p => stR q p r.1 r.2) = st2 (g r.2) (fi r.2) r.1 r.2
    cases g r.2 <;> cases fi r.2 <;> rfl
  | er x => rfl
  | no => rfl
def flG (q : Pth) (ok : Nat → Bool) (fl : Str) (n : OV) (ρ : Env) : Option OV → RS
  | some (.obj c fs) => if ok c = true ∧ fs.length < 1000 then .nx (upE ρ q (.obj c (putO fl n fs))) else .no
  | _ => .no
@[simp] theorem flG_obj {q : Pth} {ok : Nat → Bool} {fl : Str} {n : OV} {k : Nat} {fs : List (Str × OV)} (h : ok k = true) (h2 : fs.length < 1000) : flG q ok fl n ρ (some (.obj k fs)) = .nx (upE ρ q (.obj k (putO fl n fs))) := if_pos ⟨h, h2⟩
def fl2 (ok : Nat → Bool) (fl : Str) : R Pth → OV → Env → RS
  | .ok q, o, ρ => flR q ok fl o ρ
  | .er x, _, ρ => .er x ρ
  | .no, _, _ => .no
@[simp] theorem fl2_ok {ok : Nat → Bool} {fl : Str} {q : Pth} : fl2 ok fl (.ok q) o ρ = flG q ok fl o ρ (atE ρ q) := nr rfl
def fl3 (g : Env → R Pth) (ok : Nat → Bool) (fl : Str) : R (OV × Env) → Env → RS
  | .ok r, _ => fl2 ok fl (g r.2) r.1 r.2
  | .er x, ρ => .er x ρ
  | .no, _ => .no
@[simp] theorem fl3_ok {g : Env → R Pth} {ok : Nat → Bool} {fl : Str} : fl3 g ok fl (.ok (o, ρ)) ρ' = fl2 ok fl (g ρ) o ρ := nr rfl
@[simp] theorem sFl_at {g : Env → R Pth} {ok : Nat → Bool} {fl : Str} : sFl g ok fl fm ρ = fl3 g ok fl (fm ρ) ρ := by
  unfold sFl
  cases fm ρ with
  | ok r =>
    show (g r.2).to r.2 (fun q => flR q ok fl r.1 r.2) = fl2 ok fl (g r.2) r.1 r.2
    cases g r.2 <;> rfl
  | er x => rfl
  | no => rfl
@[simp] theorem putO_nil {f : Str} {n : OV} : putO f n [] = [(f, n)] := nr rfl
@[simp] theorem putO_ne {f g : Str} {n x : OV} {r : List (Str × OV)} (h : g ≠ f) : putO f n ((g, x) :: r) = (g, x) :: putO f n r := if_neg h
@[simp] theorem putO_eq {f : Str} {n x : OV} {r : List (Str × OV)} : putO f n ((f, x) :: r) = (f, n) :: r := if_pos rfl
@[simp] theorem frz_zero {ρ : Env} : frz 0 (some o :: ρ) = some (.sh o.pv) :: ρ := nr rfl
@[simp] theorem frz_succ {x : Option OV} {ρ : Env} : frz (i + 1) (x :: ρ) = x :: frz i ρ := by
  unfold frz
  rw [List.getElem?_cons_succ]
  cases h : (ρ[i]? : Option (Option OV)) with
  | none => rfl
  | some y => cases y <;> simp
@[simp] theorem wipeE_nil : wipeE ρ [] = ρ := nr rfl
@[simp] theorem wipeE_cons {v : Nat} {vs : List Nat} : wipeE ρ (v :: vs) = (wipeE ρ vs).set v none := nr rfl
@[simp] theorem tgS_nm : tgS (.nm i) p ρ = .ok (ρ.set i (some (.sh p))) := nr rfl
@[simp] theorem tgS_tup {l : List PV} {is : List Nat} (h : l.length = is.length) : tgS (.tp is) (.tup l) ρ = .ok (setMany is l ρ) := if_pos h
@[simp] theorem tgS_lst {l : List PV} {is : List Nat} (h : l.length = is.length) : tgS (.tp is) (.lst l) ρ = .ok (setMany is l ρ) := if_pos h
@[simp] theorem setMany_nil {ps : List PV} : setMany [] ps ρ = ρ := nr rfl
@[simp] theorem setMany_cons {is : List Nat} {ps : List PV} : setMany (i :: is) (p :: ps) ρ = setMany is ps (ρ.set i (some (.sh p))) := nr rfl
/-- xs.append(y); z = list(y) -/
def apl2 (ρ : Env) (i j : Nat) (f : Env → RS) : R Pth → RS
  | .ok q => (match atE ρ q, ρ[j]? with
    | some (.own _), some (some (.own its)) => (match shs its with
      | some _ => sSeq (apR q (.own its)) (fun ρ' => f (ρ'.set i (some (.own its)))) (ρ.set j none)
      | none => .no)
    | _, _ => .no)
  | .er x => .er x ρ
  | .no => .no
@[simp] theorem sAppList_at {g : Env → R Pth} : sAppList g j i s ρ = apl2 ρ i j s (g ρ) := by
  unfold sAppList
  cases g ρ with
  | ok q => rfl
  | er x => rfl
  | no => rfl
theorem shs_map : ∀ l : List PV, shs (l.map OV.sh) = some l
  | [] => rfl
  | p :: l => by rw [List.map_cons, shs, shs_map l]; rfl
end
/-! values -/
@[simp] theorem pv_sh {p : PV} : (OV.sh p).pv = p := by simp only [OV.pv]
@[simp] theorem pv_own {l : List OV} : (OV.own l).pv = .lst (OV.pvs l) := by simp only [OV.pv]
@[simp] theorem pv_obj {c : Nat} {fs : List (Str × OV)} : (OV.obj c fs).pv = .ins c (OV.pvf fs) := by simp only [OV.pv]
theorem pvs_eq : ∀ l : List OV, OV.pvs l = l.map OV.pv
  | [] => by simp only [OV.pvs, List.map_nil]
  | o :: l => by simp only [OV.pvs, List.map_cons, pvs_eq l]
@[simp] theorem pvs_nil : OV.pvs [] = [] := by simp only [OV.pvs]
@[simp] theorem pvs_cons {o : OV} {l : List OV} : OV.pvs (o :: l) = o.pv :: OV.pvs l := by simp only [OV.pvs]
@[simp] theorem pvs_append {l k : List OV} : OV.pvs (l ++ k) = OV.pvs l ++ OV.pvs k := by simp only [pvs_eq, List.map_append]
@[simp] theorem pvs_map {α : Type} {f : α → OV} {l : List α} : OV.pvs (l.map f) = l.map fun x => (f x).pv := by rw [pvs_eq, List.map_map]; rfl
@[simp] theorem pvf_nil : OV.pvf [] = [] := by simp only [OV.pvf]
@[simp] theorem pvf_cons {f : Str} {o : OV} {l : List (Str × OV)} : OV.pvf ((f, o) :: l) = (f, o.pv) :: OV.pvf l := by simp only [OV.pvf]
theorem pvs_length (l : List OV) : (OV.pvs l).length = l.length := by rw [pvs_eq, List.length_map]
section
variable {a b : Int} {x y : Str} {l r : List PV} {p q : PV}
@[simp] theorem add_int : pyAdd (.int a) (.int b) = .ok (.int (a + b)) := nr rfl
@[simp] theorem add_str (h : x.length + y.length ≤ sizeLine) : pyAdd (.str x) (.str y) = .ok (.str (x ++ y)) := if_pos h
@[simp] theorem add_lst (h : l.length + r.length ≤ sizeLine) : pyAdd (.lst l) (.lst r) = .ok (.lst (l ++ r)) := if_pos h
@[simp] theorem add_tup (h : l.length + r.length ≤ sizeLine) : pyAdd (.tup l) (.tup r) = .ok (.tup (l ++ r)) := if_pos h
@[simp] theorem sub_int : pySub (.int a) (.int b) = .ok (.int (a - b)) := nr rfl
@[simp] theorem neg_int : pyNeg (.int a) = .ok (.int (-a)) := nr rfl
@[simp] theorem mod_int (h : 0 < b) : pyMod (.int a) (.int b) = .ok (.int (a % b)) := by
  show (if decide (0 < b) = true then _ else _) = _
  rw [if_pos (decide_eq_true h)]
theorem log2_le {n k : Nat} (h : n < 2 ^ k) (hk : 0 < k) : n.log2 < k := by
  by_cases z : n = 0
  · subst z; simpa using hk
  · exact (Nat.log2_lt z).mpr h
@[simp] theorem fdiv_int (h : 0 < b) (h2 : b < 2 ^ 200) : pyFdiv (.int a) (.int b) = .ok (.int (a / b)) := by
  show (if (decide (0 < b) && decide (b.natAbs.log2 < 9000)) = true then _ else _) = _
  have e : b.natAbs.log2 < 200 := log2_le (by have : (b.natAbs : Int) < 2 ^ 200 := by omega
                                              exact_mod_cast this) (by decide)
  rw [if_pos (by simp [h]; omega)]
@[simp] theorem mul_int (h : -(2 ^ 64) < b ∧ b < 2 ^ 64) : pyMul (.int a) (.int b) = .ok (.int (a * b)) := by
  show (if mulOk a b = true then _ else _) = _
  rw [if_pos (by unfold mulOk; simp only [Bool.or_eq_true, decide_eq_true_eq]; omega)]
theorem mul_int_l (h : -(2 ^ 64) < a ∧ a < 2 ^ 64) : pyMul (.int a) (.int b) = .ok (.int (a * b)) := by
  show (if mulOk a b = true then _ else _) = _
  rw [if_pos (by unfold mulOk; simp only [Bool.or_eq_true, decide_eq_true_eq]; omega)]
@[simp] theorem pow_int (h : 0 ≤ b) (h1 : b ≤ 1000000) (h2 : a.natAbs < 2 ^ 64) : pyPow (.int a) (.int b) = .ok (.int (a ^ b.toNat)) := by
  show (if (decide (0 ≤ b) && decide (b ≤ 1000000) && decide (a.natAbs < 2 ^ 64)) = true then _ else _) = _
  rw [if_pos (by simp only [Bool.and_eq_true, decide_eq_true_eq]; exact ⟨⟨h, h1⟩, h2⟩)]
@[simp] theorem lt_int : pyLt (.int a) (.int b) = .ok (.bl (decide (a < b))) := nr rfl
@[simp] theorem le_int : pyLe (.int a) (.int b) = .ok (.bl (decide (a ≤ b))) := nr rfl
@[simp] theorem gt_int : pyGt (.int a) (.int b) = .ok (.bl (decide (b < a))) := nr rfl
@[simp] theorem ge_int : pyGe (.int a) (.int b) = .ok (.bl (decide (b ≤ a))) := nr rfl
@[simp] theorem eq_int : pyEq (.int a) (.int b) = .ok (.bl (decide (a = b))) := nr rfl
@[simp] theorem ne_int : pyNe (.int a) (.int b) = .ok (.bl (!decide (a = b))) := nr rfl
@[simp] theorem eq_str : pyEq (.str x) (.str y) = .ok (.bl (decide (x = y))) := nr rfl
@[simp] theorem ne_str : pyNe (.str x) (.str y) = .ok (.bl (!decide (x = y))) := nr rfl
@[simp] theorem eq_bl {c d : Bool} : pyEq (.bl c) (.bl d) = .ok (.bl (decide (c = d))) := nr rfl
@[simp] theorem ne_bl {c d : Bool} : pyNe (.bl c) (.bl d) = .ok (.bl (!decide (c = d))) := nr rfl
@[simp] theorem idx_lst : idxR (.lst l) (.int a) = R.of (atI l a) := nr rfl
@[simp] theorem idx_scr : idxR (.scr l) (.int a) = R.of (atI l a) := nr rfl
@[simp] theorem idx_tup : idxR (.tup l) (.int a) = R.of (atI l a) := nr rfl
@[simp] theorem mkTup_ok (h : l.length ≤ sizeLine) : mkTup l = .ok (.tup l) := if_pos h
@[simp] theorem mkLst_ok (h : l.length ≤ sizeLine) : mkLst l = .ok (.own (l.map .sh)) := if_pos h
@[simp] theorem len_lst : bLen [.lst l] = .ok (.int l.length) := nr rfl
@[simp] theorem len_scr : bLen [.scr l] = .ok (.int l.length) := nr rfl
@[simp] theorem len_tup : bLen [.tup l] = .ok (.int l.length) := nr rfl
@[simp] theorem abs_int : bAbs [.int a] = .ok (.int (if a < 0 then -a else a)) := nr rfl
@[simp] theorem int_int : bInt [.int a] = .ok (.int a) := nr rfl
@[simp] theorem max_int : bMax [.int a, .int b] = .ok (.int (if b > a then b else a)) := nr rfl
@[simp] theorem min_int : bMin [.int a, .int b] = .ok (.int (if b < a then b else a)) := nr rfl
@[simp] theorem tuple_lst : bTuple [.lst l] = .ok (.tup l) := nr rfl
@[simp] theorem tuple_tup : bTuple [.tup l] = .ok (.tup l) := nr rfl
@[simp] theorem list_lst : bList [.lst l] = .ok (.own (l.map .sh)) := nr rfl
@[simp] theorem list_tup : bList [.tup l] = .ok (.own (l.map .sh)) := nr rfl
@[simp] theorem seq_lst : seqR (.lst l) = .ok l := nr rfl
@[simp] theorem seq_scr : seqR (.scr l) = .ok l := nr rfl
@[simp] theorem seq_tup : seqR (.tup l) = .ok l := nr rfl
@[simp] theorem rng1_int (h : -(2 ^ 62) ≤ a ∧ a < 2 ^ 62) : rng1R [.int a] = .ok (rngP 0 a.toNat) := if_pos h
@[simp] theorem rng2_int (h : -(2 ^ 62) ≤ a ∧ a < 2 ^ 62) (h' : -(2 ^ 62) ≤ b ∧ b < 2 ^ 62) : rng2R [.int a, .int b] = .ok (rngP a (b - a).toNat) := if_pos ⟨h.1, h.2, h'.1, h'.2⟩
@[simp] theorem listR_int (h : 0 ≤ a ∧ a ≤ 1000000) : bLstR [.int a] = .ok (.own ((rngP 0 a.toNat).map .sh)) := if_pos h
/-- the one item of a list -/
theorem atI_of {α : Type} {l : List α} {a : Int} (h0 : 0 ≤ a) (h1 : a < l.length) : atI l a = l[a.toNat]? := by
  unfold atI ixN
  rw [if_pos h0, if_pos h1]
  rfl
theorem atI_natP {α : Type} {l : List α} {k : Nat} : atI l (k : Int) = l[k]? := by
  by_cases h : (k : Int) < l.length
  · rw [atI_of (by omega) h, Int.toNat_natCast]
  · unfold atI ixN
    rw [if_pos (by omega), if_neg h]
    exact (List.getElem?_eq_none (by omega)).symm
@[simp] theorem atI_map {α β : Type} {f : α → β} {l : List α} : atI (l.map f) a = (atI l a).map f := by
  unfold atI
  rw [List.length_map]
  cases ixN l.length a with
  | none => rfl
  | some j => simp
theorem atI_some {α : Type} {l : List α} {a : Int} (h0 : 0 ≤ a) (h1 : a < l.length) : atI l a = some (l[a.toNat]'(by omega)) := by
  rw [atI_of h0 h1]
  exact List.getElem?_eq_getElem _
@[simp] theorem atI_zero {α : Type} {x : α} {l : List α} : atI (x :: l) 0 = some x := by
  rw [atI_of (by omega) (by simp only [List.length_cons]; omega)]
  rfl
@[simp] theorem atI_one {α : Type} {x y : α} {l : List α} : atI (x :: y :: l) 1 = some y := by
  rw [atI_of (by omega) (by simp only [List.length_cons]; omega)]
  rfl
@[simp] theorem atI_two {α : Type} {x y z : α} {l : List α} : atI (x :: y :: z :: l) 2 = some z := by
  rw [atI_of (by omega) (by simp only [List.length_cons]; omega)]
  rfl
end
/-! loops -/
section
variable {α : Type} {T : Tg} {fg : List Nat} {fb : Env → RS} {ρ : Env} {f : α → PV}
theorem forGo_nil : forGo T fg fb [] ρ = .nx ρ := rfl
theorem forGo_cons_nx {p : PV} {ps : List PV} {ρ1 ρ2 : Env} (h1 : tgS T p ρ = .ok ρ1) (h2 : fb ρ1 = .nx ρ2) : forGo T fg fb (p :: ps) ρ = forGo T fg fb ps (wipeE ρ2 fg) := by
  rw [forGo, h1]
  dsimp only
  rw [h2]
theorem forGo_cons_ct {p : PV} {ps : List PV} {ρ1 ρ2 : Env} (h1 : tgS T p ρ = .ok ρ1) (h2 : fb ρ1 = .ct ρ2) : forGo T fg fb (p :: ps) ρ = forGo T fg fb ps (wipeE ρ2 fg) := by
  rw [forGo, h1]
  dsimp only
  rw [h2]
theorem forGo_cons_bk {p : PV} {ps : List PV} {ρ1 ρ2 : Env} (h1 : tgS T p ρ = .ok ρ1) (h2 : fb ρ1 = .bk ρ2) : forGo T fg fb (p :: ps) ρ = .nx (wipeE ρ2 fg) := by
  rw [forGo, h1]
  dsimp only
  rw [h2]
theorem forGo_cons_rt {p : PV} {ps : List PV} {ρ1 : Env} {o : OV} (h1 : tgS T p ρ = .ok ρ1) (h2 : fb ρ1 = .rt o) : forGo T fg fb (p :: ps) ρ = .rt o := by
  rw [forGo, h1]
  dsimp only
  rw [h2]
theorem forGo_cons_er {p : PV} {ps : List PV} {ρ1 ρ2 : Env} {x : PX} (h1 : tgS T p ρ = .ok ρ1) (h2 : fb ρ1 = .er x ρ2) : forGo T fg fb (p :: ps) ρ = .er x ρ2 := by
  rw [forGo, h1]
  dsimp only
  rw [h2]
/-- how one turn goes on: its environment at the next turn's start -/
def Turn (T : Tg) (fg : List Nat) (fb : Env → RS) (p : PV) (ρ ρ' : Env) : Prop := ∃ ρ1 ρ2, tgS T p ρ = .ok ρ1 ∧ (fb ρ1 = .nx ρ2 ∨ fb ρ1 = .ct ρ2) ∧ wipeE ρ2 fg = ρ'
theorem Turn.go {p : PV} {ps : List PV} {ρ' : Env} (h : Turn T fg fb p ρ ρ') : forGo T fg fb (p :: ps) ρ = forGo T fg fb ps ρ' := by
  obtain ⟨ρ1, ρ2, h1, h2 | h2, rfl⟩ := h
  · exact forGo_cons_nx h1 h2
  · exact forGo_cons_ct h1 h2
theorem Turn.nm {i : Nat} {p : PV} {ρ2 ρ' : Env} (h : fb (ρ.set i (some (.sh p))) = .nx ρ2) (e : wipeE ρ2 fg = ρ') : Turn (.nm i) fg fb p ρ ρ' := ⟨_, ρ2, rfl, .inl h, e⟩
/-- by the state: a fold -/
theorem forGo_fold {β : Type} (enc : β → Env) (stp : β → α → β) (I : β → Prop) : ∀ (l : List α) (b : β), I b → (∀ x ∈ l, ∀ b, I b → I (stp b x) ∧ Turn T fg fb (f x) (enc b) (enc (stp b x))) → forGo T fg fb (l.map f) (enc b) = .nx (enc (l.foldl stp b)) ∧ I (l.foldl stp b)
  | [], b, hb, _ => ⟨rfl, hb⟩
  | x :: l, b, hb, h => by
    obtain ⟨h1, h2⟩ := h x List.mem_cons_self b hb
    rw [List.map_cons, h2.go, List.foldl_cons]
    exact forGo_fold enc stp I l _ h1 fun y hy => h y (List.mem_cons_of_mem _ hy)
/-- the same, the turns counted -/
theorem forGo_foldN {β : Type} (enc : β → Env) (stp : β → α → β) (I : Nat → β → Prop) : ∀ (l : List α) (k : Nat) (b : β), I k b → (∀ j x b, l[j]? = some x → I (k + j) b → I (k + j + 1) (stp b x) ∧ Turn T fg fb (f x) (enc b) (enc (stp b x))) → forGo T fg fb (l.map f) (enc b) = .nx (enc (l.foldl stp b)) ∧ I (k + l.length) (l.foldl stp b)
  | [], k, b, hb, _ => ⟨rfl, hb⟩
  | x :: l, k, b, hb, h => by
    obtain ⟨h1, h2⟩ := h 0 x b rfl hb
    rw [List.map_cons, h2.go, List.foldl_cons]
    obtain ⟨e1, e2⟩ := forGo_foldN enc stp I l (k + 1) _ h1 fun j y b hy hi => by
      have := h (j + 1) y b hy (by rw [← Nat.add_assoc, Nat.add_right_comm]; exact hi)
      rw [← Nat.add_assoc, Nat.add_right_comm k j 1] at this
      exact this
    exact ⟨e1, by rw [List.length_cons, ← Nat.add_assoc, Nat.add_right_comm]; exact e2⟩
/-- by an invariant -/
theorem forGo_inv (I : Nat → Env → Prop) : ∀ (l : List α) (k : Nat) (ρ : Env), I k ρ → (∀ i x ρ, l[i]? = some x → I (k + i) ρ → ∃ ρ', Turn T fg fb (f x) ρ ρ' ∧ I (k + i + 1) ρ') → ∃ ρ', forGo T fg fb (l.map f) ρ = .nx ρ' ∧ I (k + l.length) ρ'
  | [], k, ρ, h0, _ => ⟨ρ, rfl, h0⟩
  | x :: l, k, ρ, h0, h => by
    obtain ⟨ρ1, t, h1⟩ := h 0 x ρ rfl h0
    rw [List.map_cons, t.go]
    obtain ⟨ρ', e, h2⟩ := forGo_inv I l (k + 1) ρ1 h1 fun i y ρ hy hi => by
      have := h (i + 1) y ρ hy (by rw [← Nat.add_assoc, Nat.add_right_comm]; exact hi)
      rw [← Nat.add_assoc, Nat.add_right_comm k i 1] at this
      exact this
    exact ⟨ρ', e, by rw [List.length_cons, ← Nat.add_assoc, Nat.add_right_comm]; exact h2⟩
/-- a loop that only looks: each turn leaves all as it was -/
theorem forGo_same (l : List α) (h : ∀ x ∈ l, Turn T fg fb (f x) ρ ρ) : forGo T fg fb (l.map f) ρ = .nx ρ := by
  induction l with
  | nil => rfl
  | cons x l ih =>
    rw [List.map_cons, (h x List.mem_cons_self).go]
    exact ih fun y hy => h y (List.mem_cons_of_mem _ hy)
/-- a loop that looks and hands back at the first bad item -/
theorem forGo_all {good : α → Bool} {o : OV} (l : List α) (h : ∀ x ∈ l, good x = true → Turn T fg fb (f x) ρ ρ) (h2 : ∀ x ∈ l, good x = false → ∃ ρ1, tgS T (f x) ρ = .ok ρ1 ∧ fb ρ1 = .rt o) : forGo T fg fb (l.map f) ρ = if l.all good = true then .nx ρ else .rt o := by
  induction l with
  | nil => rfl
  | cons x l ih =>
    rw [List.map_cons, List.all_cons]
    cases hg : good x with
    | true =>
      rw [(h x List.mem_cons_self hg).go, Bool.true_and]
      exact ih (fun y hy => h y (List.mem_cons_of_mem _ hy)) fun y hy => h2 y (List.mem_cons_of_mem _ hy)
    | false =>
      obtain ⟨ρ1, e1, e2⟩ := h2 x List.mem_cons_self hg
      rw [forGo_cons_rt e1 e2, Bool.false_and, if_neg Bool.false_ne_true]
theorem rngP_eq {lo : Int} {n : Nat} : rngP lo n = (List.range n).map fun (k : Nat) => PV.int (lo + (k : Int)) := rfl
theorem lcGo_map {i : Nat} {e : Env → R OV} {g : α → OV} (l : List α) (h : ∀ x ∈ l, e (ρ.set i (some (.sh (f x)))) = .ok (g x)) : lcGo (.nm i) tYesB e ρ (l.map f) = .ok (l.map g) := by
  induction l with
  | nil => rfl
  | cons x l ih =>
    rw [List.map_cons, lcGo, tgS_nm]
    simp only [R.bind_ok, tYesB_at, R.calm_ok', if_true, h x List.mem_cons_self, ih fun y hy => h y (List.mem_cons_of_mem _ hy), List.map_cons]
theorem lcGo_filter {i : Nat} {t : Env → R Bool} {e : Env → R OV} {g : α → OV} {c : α → Bool} (l : List α) (ht : ∀ x ∈ l, t (ρ.set i (some (.sh (f x)))) = .ok (c x)) (h : ∀ x ∈ l, c x = true → e (ρ.set i (some (.sh (f x)))) = .ok (g x)) : lcGo (.nm i) t e ρ (l.map f) = .ok ((l.filter c).map g) := by
  induction l with
  | nil => rfl
  | cons x l ih =>
    have ih := ih (fun y hy => ht y (List.mem_cons_of_mem _ hy)) fun y hy => h y (List.mem_cons_of_mem _ hy)
    rw [List.map_cons, lcGo, tgS_nm]
    cases hc : c x with
    | true => simp only [R.bind_ok, R.calm_ok', ht x List.mem_cons_self, hc, if_true, h x List.mem_cons_self hc, ih, List.map_cons, List.filter_cons]
    | false => simp only [R.bind_ok, R.calm_ok', ht x List.mem_cons_self, hc, Bool.false_eq_true, if_false, ih, List.filter_cons]
theorem fLc_at {T : Tg} {vs : List Nat} {fi : Env → R (List PV)} {t : Env → R Bool} {e : Env → R OV} {ps : List PV} {os : List OV} (h : fi ρ = .ok ps) (hl : ps.length ≤ sizeLine) (h2 : lcGo T t e (wipeE ρ vs) ps = .ok os) : fLc T vs fi t e ρ = .ok (.own os) := by
  unfold fLc
  rw [h, R.bind_ok, if_pos hl, h2]
  rfl
end
/-- one turn's end, as a value -/
def endT (fg : List Nat) : RS → Option Env
  | .nx ρ => some (wipeE ρ fg)
  | .ct ρ => some (wipeE ρ fg)
  | _ => none
@[simp] theorem endT_nx {fg : List Nat} {ρ : Env} : endT fg (.nx ρ) = some (wipeE ρ fg) := nr rfl
@[simp] theorem endT_ct {fg : List Nat} {ρ : Env} : endT fg (.ct ρ) = some (wipeE ρ fg) := nr rfl
theorem endT_some {fg : List Nat} {r : RS} {ρ' : Env} (h : endT fg r = some ρ') : ∃ ρ2, (r = .nx ρ2 ∨ r = .ct ρ2) ∧ wipeE ρ2 fg = ρ' := by
  cases r with
  | nx ρ => exact ⟨ρ, .inl rfl, Option.some.inj h⟩
  | ct ρ => exact ⟨ρ, .inr rfl, Option.some.inj h⟩
  | _ => cases h
theorem Turn.of {fg : List Nat} {fb : Env → RS} {i : Nat} {p : PV} {ρ ρ' : Env} (h : endT fg (fb (ρ.set i (some (.sh p)))) = some ρ') : Turn (.nm i) fg fb p ρ ρ' := by
  obtain ⟨ρ2, h1, h2⟩ := endT_some h
  exact ⟨_, ρ2, rfl, h1, h2⟩
theorem Turn.ofT {T : Tg} {fg : List Nat} {fb : Env → RS} {p : PV} {ρ ρ1 ρ' : Env} (h0 : tgS T p ρ = .ok ρ1) (h : endT fg (fb ρ1) = some ρ') : Turn T fg fb p ρ ρ' := by
  obtain ⟨ρ2, h1, h2⟩ := endT_some h
  exact ⟨_, ρ2, h0, h1, h2⟩
@[simp] theorem rngP_length {lo : Int} {n : Nat} : (rngP lo n).length = n := by simp [rngP]
theorem szl : sizeLine = 16777216 := by first | rfl | decide
@[simp] theorem isi_int_int {a : Int} : isiP (tbT "int") ibN (.int a) = .ok (.bl true) := nr (by kernel_rfl)
@[simp] theorem isi_bool_int {a : Int} : isiP (tbT "bool") ibN (.int a) = .ok (.bl false) := nr (by kernel_rfl)
@[simp] theorem isi_int_bl {a : Bool} : isiP (tbT "int") ibN (.bl a) = .ok (.bl true) := nr (by kernel_rfl)
@[simp] theorem isi_bool_bl {a : Bool} : isiP (tbT "bool") ibN (.bl a) = .ok (.bl true) := nr (by kernel_rfl)
@[simp] theorem isi_int_non : isiP (tbT "int") ibN .non = .ok (.bl false) := nr (by kernel_rfl)
@[simp] theorem isi_bool_non : isiP (tbT "bool") ibN .non = .ok (.bl false) := nr (by kernel_rfl)
@[simp] theorem isi_int_tup {l : List PV} : isiP (tbT "int") ibN (.tup l) = .ok (.bl false) := nr (by kernel_rfl)
@[simp] theorem isi_tuple_tup {l : List PV} : isiP (tbT "tuple") ibN (.tup l) = .ok (.bl true) := nr (by kernel_rfl)
@[simp] theorem isi_tuple_lst {l : List PV} : isiP (tbT "tuple") ibN (.lst l) = .ok (.bl false) := nr (by kernel_rfl)
@[simp] theorem isi_list_lst {l : List PV} : isiP (tbT "list") ibN (.lst l) = .ok (.bl true) := nr (by kernel_rfl)
@[simp] theorem isi_list_tup {l : List PV} : isiP (tbT "list") ibN (.tup l) = .ok (.bl false) := nr (by kernel_rfl)
@[simp] theorem isi_tuple_int {a : Int} : isiP (tbT "tuple") ibN (.int a) = .ok (.bl false) := nr (by kernel_rfl)
@[simp] theorem isi_tuple_non : isiP (tbT "tuple") ibN .non = .ok (.bl false) := nr (by kernel_rfl)
@[simp] theorem isi_list_non : isiP (tbT "list") ibN .non = .ok (.bl false) := nr (by kernel_rfl)
@[simp] theorem ovflat_sh {p : PV} : (OV.sh p).flat = p.flat := by simp only [OV.flat]
@[simp] theorem ovflat_own {l : List OV} : (OV.own l).flat = OV.flats l := by simp only [OV.flat]
@[simp] theorem ovflat_obj {c : Nat} {fs : List (Str × OV)} : (OV.obj c fs).flat = OV.flatf fs := by simp only [OV.flat]
@[simp] theorem ovflats_nil : OV.flats [] = true := by simp only [OV.flats]
@[simp] theorem ovflats_cons {o : OV} {l : List OV} : OV.flats (o :: l) = (o.flat && OV.flats l) := by simp only [OV.flats]
@[simp] theorem ovflatf_nil : OV.flatf [] = true := by simp only [OV.flatf]
@[simp] theorem ovflatf_cons {f : Str} {o : OV} {l : List (Str × OV)} : OV.flatf ((f, o) :: l) = (o.flat && OV.flatf l) := by simp only [OV.flatf]
@[simp] theorem pvflat_non : PV.non.flat = true := by simp only [PV.flat]
@[simp] theorem pvflat_bl {b : Bool} : (PV.bl b).flat = true := by simp only [PV.flat]
@[simp] theorem pvflat_int {b : Int} : (PV.int b).flat = true := by simp only [PV.flat]
@[simp] theorem pvflat_str {b : Str} : (PV.str b).flat = true := by simp only [PV.flat]
@[simp] theorem pvflat_tup {l : List PV} : (PV.tup l).flat = PV.flats l := by simp only [PV.flat]
@[simp] theorem pvflats_nil : PV.flats [] = true := by simp only [PV.flats]
@[simp] theorem pvflats_cons {o : PV} {l : List PV} : PV.flats (o :: l) = (o.flat && PV.flats l) := by simp only [PV.flats]
theorem pvflats_map {α : Type} {f : α → PV} {l : List α} (h : ∀ x ∈ l, (f x).flat = true) : PV.flats (l.map f) = true := by
  induction l with
  | nil => rw [List.map_nil, pvflats_nil]
  | cons x l ih => rw [List.map_cons, pvflats_cons, h x List.mem_cons_self, ih fun y hy => h y (List.mem_cons_of_mem _ hy), Bool.and_self]
theorem ovflats_map {α : Type} {f : α → OV} {l : List α} (h : ∀ x ∈ l, (f x).flat = true) : OV.flats (l.map f) = true := by
  induction l with
  | nil => rw [List.map_nil, ovflats_nil]
  | cons x l ih => rw [List.map_cons, ovflats_cons, h x List.mem_cons_self, ih fun y hy => h y (List.mem_cons_of_mem _ hy), Bool.and_self]
theorem whGo_true {fg : List Nat} {c : Env → R Bool} {s : Env → RS} {n : Nat} {ρ ρ2 : Env} (h : c ρ = .ok true) (h2 : s ρ = .nx ρ2) : whGo fg c s (n + 1) ρ = whGo fg c s n (wipeE ρ2 fg) := by
  rw [whGo, h, R.to_ok, if_pos rfl, h2]
theorem whGo_ct {fg : List Nat} {c : Env → R Bool} {s : Env → RS} {n : Nat} {ρ ρ2 : Env} (h : c ρ = .ok true) (h2 : s ρ = .ct ρ2) : whGo fg c s (n + 1) ρ = whGo fg c s n (wipeE ρ2 fg) := by
  rw [whGo, h, R.to_ok, if_pos rfl, h2]
theorem whGo_bk {fg : List Nat} {c : Env → R Bool} {s : Env → RS} {n : Nat} {ρ ρ2 : Env} (h : c ρ = .ok true) (h2 : s ρ = .bk ρ2) : whGo fg c s (n + 1) ρ = .nx (wipeE ρ2 fg) := by
  rw [whGo, h, R.to_ok, if_pos rfl, h2]
theorem whGo_rt {fg : List Nat} {c : Env → R Bool} {s : Env → RS} {n : Nat} {ρ : Env} {o : OV} (h : c ρ = .ok true) (h2 : s ρ = .rt o) : whGo fg c s (n + 1) ρ = .rt o := by
  rw [whGo, h, R.to_ok, if_pos rfl, h2]
theorem whGo_false {fg : List Nat} {c : Env → R Bool} {s : Env → RS} {n : Nat} {ρ : Env} (h : c ρ = .ok false) : whGo fg c s (n + 1) ρ = .nx ρ := by
  rw [whGo, h, R.to_ok, if_neg Bool.false_ne_true]
@[simp] theorem sl_take {l : List PV} {k : Int} (h : 0 ≤ k) : slR (.lst l) none (some k) = .ok (.lst (l.take k.toNat)) := by
  show R.ok (PV.lst (slR.cutVP l none (some k))) = _
  unfold slR.cutVP HT.sIx
  dsimp only
  rw [if_neg (by omega), List.drop_zero, Nat.sub_zero]
  congr 2
  by_cases c : k.toNat ≤ l.length
  · rw [Nat.min_eq_left c]
  · rw [Nat.min_eq_right (by omega), List.take_of_length_le (Nat.le_refl _), List.take_of_length_le (by omega)]
@[simp] theorem sl_drop {l : List PV} {k : Int} (h : 0 ≤ k) : slR (.lst l) (some k) none = .ok (.lst (l.drop k.toNat)) := by
  show R.ok (PV.lst (slR.cutVP l (some k) none)) = _
  unfold slR.cutVP HT.sIx
  dsimp only
  rw [if_neg (by omega)]
  congr 2
  by_cases c : k.toNat ≤ l.length
  · rw [Nat.min_eq_left c, List.take_of_length_le (by simp)]
  · rw [Nat.min_eq_right (by omega), List.drop_of_length_le (Nat.le_refl _), List.drop_of_length_le (by omega), List.take_nil]
/-- [x] * k -/
def repP (p : PV) (n : Nat) : List PV := List.replicate n p
@[simp] theorem repP_length {p : PV} {n : Nat} : (repP p n).length = n := by simp [repP]
theorem flatten_one {α : Type} {p : α} : ∀ n : Nat, (List.replicate n [p]).flatten = List.replicate n p
  | 0 => rfl
  | n + 1 => by rw [List.replicate_succ, List.flatten_cons, flatten_one n, List.replicate_succ]; rfl
theorem mul_one {p : PV} {k : Int} (h : k ≤ 16777216) (h0 : 0 ≤ k) : pyMul (.lst [p]) (.int k) = .ok (.lst (repP p k.toNat)) := by
  show (if -(2 ^ 63) ≤ k ∧ k < 2 ^ 63 ∧ [p].length * k.toNat ≤ sizeLine then R.ok (PV.lst (List.replicate k.toNat [p]).flatten) else R.no) = _
  rw [if_pos (by simp only [szl, List.length_cons, List.length_nil]; omega), flatten_one]
  rfl
end L3

end
section
/-! L3. 17: == and in over data -/
namespace L3
open PySem L2
mutual
def peq : PV → PV → Bool
  | .non, .non => true
  | .bl a, .bl b => a == b
  | .int a, .int b => a == b
  | .str a, .str b => decide (a = b)
  | .lst a, .lst b => peqs a b
  | .scr a, .scr b => peqs a b
  | .tup a, .tup b => peqs a b
  | .ins c a, .ins d b => c == d && peqf a b
  | _, _ => false
def peqs : List PV → List PV → Bool
  | [], [] => true
  | a :: as, b :: bs => peq a b && peqs as bs
  | _, _ => false
def peqf : List (Str × PV) → List (Str × PV) → Bool
  | [], [] => true
  | (f, a) :: as, (g, b) :: bs => decide (f = g) && (peq a b && peqf as bs)
  | _, _ => false
end
mutual
theorem peq_ok : ∀ p q : PV, peq p q = true → p = q
  | .non, q, h => by cases q <;> simp_all [peq]
  | .bl a, q, h => by cases q <;> simp_all [peq]
  | .int a, q, h => by cases q <;> simp_all [peq]
  | .str a, q, h => by cases q <;> simp_all [peq]
  | .lst a, q, h => by
    cases q with
    | lst b => rw [peqs_ok a b (by simpa [peq] using h)]
    | _ => simp [peq] at h
  | .scr a, q, h => by
    cases q with
    | scr b => rw [peqs_ok a b (by simpa [peq] using h)]
    | _ => simp [peq] at h
  | .tup a, q, h => by
    cases q with
    | tup b => rw [peqs_ok a b (by simpa [peq] using h)]
    | _ => simp [peq] at h
  | .ins c a, q, h => by
    cases q with
    | ins d b =>
      simp only [peq, Bool.and_eq_true, beq_iff_eq] at h
      rw [h.1, peqf_ok a b h.2]
    | _ => simp [peq] at h
theorem peqs_ok : ∀ p q : List PV, peqs p q = true → p = q
  | [], q, h => by cases q <;> simp_all [peqs]
  | a :: as, q, h => by
    cases q with
    | nil => simp [peqs] at h
    | cons b bs =>
      simp only [peqs, Bool.and_eq_true] at h
      rw [peq_ok a b h.1, peqs_ok as bs h.2]
theorem peqf_ok : ∀ p q : List (Str × PV), peqf p q = true → p = q
  | [], q, h => by cases q <;> simp_all [peqf]
  | (f, a) :: as, q, h => by
    cases q with
    | nil => simp [peqf] at h
    | cons b bs =>
      obtain ⟨g, b⟩ := b
      simp only [peqf, Bool.and_eq_true, decide_eq_true_eq] at h
      rw [h.1, peq_ok a b h.2.1, peqf_ok as bs h.2.2]
end
mutual
theorem peq_rfl : ∀ p : PV, peq p p = true
  | .non => by simp [peq]
  | .bl a => by simp [peq]
  | .int a => by simp [peq]
  | .str a => by simp [peq]
  | .lst a => by simp [peq, peqs_rfl a]
  | .scr a => by simp [peq, peqs_rfl a]
  | .tup a => by simp [peq, peqs_rfl a]
  | .ins c a => by simp [peq, peqf_rfl a]
theorem peqs_rfl : ∀ p : List PV, peqs p p = true
  | [] => by simp [peqs]
  | a :: as => by simp [peqs, peq_rfl a, peqs_rfl as]
theorem peqf_rfl : ∀ p : List (Str × PV), peqf p p = true
  | [] => by simp [peqf]
  | (f, a) :: as => by simp [peqf, peq_rfl a, peqf_rfl as]
end
instance : DecidableEq PV := fun p q => if h : peq p q = true then .isTrue (peq_ok p q h) else .isFalse fun e => h (by rw [e]; exact peq_rfl q)
theorem peq_dec {p q : PV} : peq p q = decide (p = q) := by
  by_cases h : p = q
  · subst h; simp [peq_rfl]
  · cases e : peq p q with
    | true => exact absurd (peq_ok p q e) h
    | false => simp [h]
/-- data without truth values, of a depth -/
def cln : Nat → PV → Bool
  | _, .non => true
  | _, .int _ => true
  | _, .str s => PyData.strOk s
  | n + 1, .lst l => l.all (cln n)
  | n + 1, .tup l => l.all (cln n)
  | _, _ => false
theorem cln_pd : ∀ (n : Nat) (p : PV), cln n p = true → ∃ d, toPD p = some d ∧ d.canLay0 = true ∧ d.depth ≤ n + 1
  | n, .non, _ => ⟨_, rfl, by simp [PyData.canLay0], by simp [PyData.depth]⟩
  | n, .int _, _ => ⟨_, rfl, by simp [PyData.canLay0], by simp [PyData.depth]⟩
  | n, .str s, h => ⟨_, rfl, by cases n <;> simpa [PyData.canLay0, cln] using h, by simp [PyData.depth]⟩
  | 0, .lst l, h => by simp [cln] at h
  | 0, .tup l, h => by simp [cln] at h
  | n + 1, .lst l, h => by
    have key : ∃ ds, toPDs l = some ds ∧ PyData.canLayAll0 ds = true ∧ PyData.depthAll ds ≤ n + 1 := by
      have h : l.all (cln n) = true := by simpa [cln] using h
      induction l with
      | nil => exact ⟨[], rfl, by simp [PyData.canLayAll0], by simp [PyData.depthAll]⟩
      | cons p l ih =>
        simp only [List.all_cons, Bool.and_eq_true] at h
        obtain ⟨d, e1, e2, e3⟩ := cln_pd n p h.1
        obtain ⟨ds, f1, f2, f3⟩ := ih (by simp [cln, h.2]) h.2
        exact ⟨d :: ds, by simp [toPDs, e1, f1], by simp [PyData.canLayAll0, e2, f2], by simp [PyData.depthAll]; omega⟩
    obtain ⟨ds, e1, e2, e3⟩ := key
    exact ⟨.list ds, by simp [toPD, e1], by simpa [PyData.canLay0] using e2, by simp [PyData.depth]; omega⟩
  | n + 1, .tup l, h => by
    have key : ∃ ds, toPDs l = some ds ∧ PyData.canLayAll0 ds = true ∧ PyData.depthAll ds ≤ n + 1 := by
      have h : l.all (cln n) = true := by simpa [cln] using h
      induction l with
      | nil => exact ⟨[], rfl, by simp [PyData.canLayAll0], by simp [PyData.depthAll]⟩
      | cons p l ih =>
        simp only [List.all_cons, Bool.and_eq_true] at h
        obtain ⟨d, e1, e2, e3⟩ := cln_pd n p h.1
        obtain ⟨ds, f1, f2, f3⟩ := ih (by simp [cln, h.2]) h.2
        exact ⟨d :: ds, by simp [toPDs, e1, f1], by simp [PyData.canLayAll0, e2, f2], by simp [PyData.depthAll]; omega⟩
    obtain ⟨ds, e1, e2, e3⟩ := key
    exact ⟨.tuple ds, by simp [toPD, e1], by simpa [PyData.canLay0] using e2, by simp [PyData.depth]; omega⟩
  | n, .bl b, h => by cases n <;> simp [cln] at h
  | n, .scr b, h => by cases n <;> simp [cln] at h
  | n, .ins c b, h => by cases n <;> simp [cln] at h
mutual
/-- without truth values anywhere -/
def noBl : PV → Bool
  | .bl _ => false
  | .ins _ _ => false
  | .scr _ => false
  | .lst l => noBls l
  | .tup l => noBls l
  | _ => true
def noBls : List PV → Bool
  | [] => true
  | p :: ps => noBl p && noBls ps
end
theorem cln_noBl : ∀ (n : Nat) (p : PV), cln n p = true → noBl p = true
  | n, .non, _ => by simp [noBl]
  | n, .int _, _ => by simp [noBl]
  | n, .str s, h => by simp [noBl]
  | 0, .lst l, h => by simp [cln] at h
  | 0, .tup l, h => by simp [cln] at h
  | n + 1, .lst l, h => by
    have h : l.all (cln n) = true := by simpa [cln] using h
    rw [noBl]
    induction l with
    | nil => simp [noBls]
    | cons p l ih =>
      simp only [List.all_cons, Bool.and_eq_true] at h
      simp [noBls, cln_noBl n p h.1, ih (by simp [cln, h.2]) h.2]
  | n + 1, .tup l, h => by
    have h : l.all (cln n) = true := by simpa [cln] using h
    rw [noBl]
    induction l with
    | nil => simp [noBls]
    | cons p l ih =>
      simp only [List.all_cons, Bool.and_eq_true] at h
      simp [noBls, cln_noBl n p h.1, ih (by simp [cln, h.2]) h.2]
  | n, .bl b, h => by cases n <;> simp [cln] at h
  | n, .scr b, h => by cases n <;> simp [cln] at h
  | n, .ins c b, h => by cases n <;> simp [cln] at h
theorem toPD_lst {l : List PV} {d : PyData} (h : toPD (.lst l) = some d) : ∃ ds, toPDs l = some ds ∧ d = .list ds := by
  simp only [toPD, Option.map_eq_some_iff] at h
  obtain ⟨ds, h1, h2⟩ := h
  exact ⟨ds, h1, h2.symm⟩
theorem toPD_tup {l : List PV} {d : PyData} (h : toPD (.tup l) = some d) : ∃ ds, toPDs l = some ds ∧ d = .tuple ds := by
  simp only [toPD, Option.map_eq_some_iff] at h
  obtain ⟨ds, h1, h2⟩ := h
  exact ⟨ds, h1, h2.symm⟩
mutual
theorem eqv_ok : ∀ (p q : PV) (d e : PyData), noBl p = true → noBl q = true → toPD p = some d → toPD q = some e → PyData.eqv d e = peq p q
  | .non, q, d, e, _, hq, h, k => by
    cases h
    cases q with
    | lst b => obtain ⟨ds, _, rfl⟩ := toPD_lst k; simp [PyData.eqv, peq]
    | tup b => obtain ⟨ds, _, rfl⟩ := toPD_tup k; simp [PyData.eqv, peq]
    | _ => first | (simp [noBl] at hq; done) | (cases k; simp [PyData.eqv, peq])
  | .int a, q, d, e, _, hq, h, k => by
    cases h
    cases q with
    | lst b => obtain ⟨ds, _, rfl⟩ := toPD_lst k; simp [PyData.eqv, peq]
    | tup b => obtain ⟨ds, _, rfl⟩ := toPD_tup k; simp [PyData.eqv, peq]
    | _ => first | (simp [noBl] at hq; done) | (cases k; simp [PyData.eqv, peq])
  | .str a, q, d, e, _, hq, h, k => by
    cases h
    cases q with
    | lst b => obtain ⟨ds, _, rfl⟩ := toPD_lst k; simp [PyData.eqv, peq]
    | tup b => obtain ⟨ds, _, rfl⟩ := toPD_tup k; simp [PyData.eqv, peq]
    | str b => cases k; simp only [PyData.eqv, peq]; rfl
    | _ => first | (simp [noBl] at hq; done) | (cases k; simp [PyData.eqv, peq])
  | .lst a, q, d, e, hp, hq, h, k => by
    obtain ⟨ds, h1, rfl⟩ := toPD_lst h
    cases q with
    | lst b =>
      obtain ⟨es, k1, rfl⟩ := toPD_lst k
      simp only [PyData.eqv, peq]
      exact eqvs_ok a b ds es (by simpa [noBl] using hp) (by simpa [noBl] using hq) h1 k1
    | tup b => obtain ⟨ds, _, rfl⟩ := toPD_tup k; simp [PyData.eqv, peq]
    | _ => first | (simp [noBl] at hq; done) | (cases k; simp [PyData.eqv, peq])
  | .tup a, q, d, e, hp, hq, h, k => by
    obtain ⟨ds, h1, rfl⟩ := toPD_tup h
    cases q with
    | tup b =>
      obtain ⟨es, k1, rfl⟩ := toPD_tup k
      simp only [PyData.eqv, peq]
      exact eqvs_ok a b ds es (by simpa [noBl] using hp) (by simpa [noBl] using hq) h1 k1
    | lst b => obtain ⟨ds, _, rfl⟩ := toPD_lst k; simp [PyData.eqv, peq]
    | _ => first | (simp [noBl] at hq; done) | (cases k; simp [PyData.eqv, peq])
  | .bl _, _, _, _, hp, _, _, _ => by simp [noBl] at hp
  | .scr _, _, _, _, hp, _, _, _ => by simp [noBl] at hp
  | .ins _ _, _, _, _, hp, _, _, _ => by simp [noBl] at hp
theorem eqvs_ok : ∀ (p q : List PV) (d e : List PyData), noBls p = true → noBls q = true → toPDs p = some d → toPDs q = some e → PyData.eqvAll d e = peqs p q
  | [], q, d, e, _, hq, h, k => by
    cases h
    cases q with
    | nil => cases k; simp [PyData.eqvAll, peqs]
    | cons b bs =>
      simp only [toPDs, Option.bind_eq_some_iff, Option.map_eq_some_iff] at k
      obtain ⟨x, _, xs, _, rfl⟩ := k
      simp [PyData.eqvAll, peqs]
  | a :: as, q, d, e, hp, hq, h, k => by
    simp only [toPDs, Option.bind_eq_some_iff, Option.map_eq_some_iff] at h
    obtain ⟨x, h1, xs, h2, rfl⟩ := h
    cases q with
    | nil => cases k; simp [PyData.eqvAll, peqs]
    | cons b bs =>
      simp only [toPDs, Option.bind_eq_some_iff, Option.map_eq_some_iff] at k
      obtain ⟨y, k1, ys, k2, rfl⟩ := k
      simp only [noBls, Bool.and_eq_true] at hp hq
      simp only [PyData.eqvAll, peqs]
      rw [eqv_ok a b x y hp.1 hq.1 h1 k1, eqvs_ok as bs xs ys hp.2 hq.2 h2 k2]
end
theorem shaped_of {n : Nat} {p : PV} (h : cln n p = true) (hn : n < 63) : ∃ d, toPD p = some d ∧ SeqAt.shaped d = true := by
  obtain ⟨d, e1, e2, e3⟩ := cln_pd n p h
  exact ⟨d, e1, by unfold SeqAt.shaped; rw [e2, decide_eq_true (by omega)]; rfl⟩
theorem eqR_cln {n : Nat} {p q : PV} (hn : n < 63) (hp : cln n p = true) (hq : cln n q = true) : eqR p q = .ok (decide (p = q)) := by
  obtain ⟨d, d1, d2⟩ := shaped_of hp hn
  obtain ⟨e, e1, e2⟩ := shaped_of hq hn
  have key : ∀ b, scalP p q = some b → b = decide (p = q) := by
    intro b hb
    unfold scalP at hb
    split at hb <;> first | (cases hb; simp; done) | (cases hb; done)
  unfold eqR
  cases hs : scalP p q with
  | some b => rw [key b hs]
  | none =>
    simp only [d1, e1, d2, e2, and_self, if_true]
    rw [eqv_ok p q d e (cln_noBl n p hp) (cln_noBl n q hq) d1 e1, peq_dec]
theorem eq_cln (n : Nat) {p q : PV} (hn : n < 63) (hp : cln n p = true) (hq : cln n q = true) : pyEq p q = .ok (.bl (decide (p = q))) := by
  unfold pyEq
  rw [eqR_cln hn hp hq]
  rfl
theorem ne_cln (n : Nat) {p q : PV} (hn : n < 63) (hp : cln n p = true) (hq : cln n q = true) : pyNe p q = .ok (.bl (!decide (p = q))) := by
  unfold pyNe
  rw [eqR_cln hn hp hq]
  rfl
theorem inV_flat : ∀ {p : PV} {l : List PV}, flatP p = true → noBl p = true → l.all flatP = true → noBls l = true → inV (toV p) (l.map toV) = decide (p ∈ l)
  | p, [], _, _, _, _ => by simp [inV]
  | p, q :: l, h1, h2, h3, h4 => by
    simp only [List.all_cons, Bool.and_eq_true] at h3
    simp only [noBls, Bool.and_eq_true] at h4
    have ih := inV_flat (l := l) h1 h2 h3.2 h4.2
    have e : eqV (toV q) (toV p) = decide (p = q) := by
      cases p <;> cases q <;> first | (simp [flatP] at h1; done) | (simp [flatP] at h3; done) | (simp [noBl] at h2; done) | (simp [noBl] at h4; done) | (simp [toV, eqV]; done) | (simp only [toV, eqV, PV.int.injEq, PV.str.injEq]; exact Bool.eq_iff_iff.mpr ⟨fun h => decide_eq_true (beq_iff_eq.mp h).symm, fun h => beq_iff_eq.mpr (of_decide_eq_true h).symm⟩)
    unfold inV at ih ⊢
    rw [List.map_cons, List.any_cons, ih, e]
    by_cases c1 : p = q
    · simp [c1]
    · simp [c1]
theorem inR_cln (n : Nat) {p : PV} {l : List PV} (hn : n + 1 < 63) (hp : cln n p = true) (hl : l.all (cln n) = true) (hs : ∀ s, p ≠ .str s ∨ True) : inR p (.lst l) = .ok (decide (p ∈ l)) := by
  have hL : cln (n + 1) (.lst l) = true := by simpa [cln] using hl
  have nb : noBls l = true := by
    have := cln_noBl (n + 1) (.lst l) hL
    simpa [noBl] using this
  have main : (if flatP p = true ∧ l.all flatP = true then R.ok (inV (toV p) (l.map toV)) else match toPD p, toPDs l with
    | some d, some ds => if SeqAt.shaped d = true ∧ SeqAt.shaped (.list ds) = true then .ok (ds.any fun z => PyData.eqv z d) else .no
    | _, _ => .no) = .ok (decide (p ∈ l)) := by
    by_cases c : flatP p = true ∧ l.all flatP = true
    · rw [if_pos c, inV_flat c.1 (cln_noBl n p hp) c.2 nb]
    · rw [if_neg c]
      obtain ⟨d, d1, d2⟩ := shaped_of hp (by omega)
      obtain ⟨e, e1, e2⟩ := shaped_of hL hn
      obtain ⟨ds, e3, rfl⟩ := toPD_lst e1
      simp only [d1, e3, d2, e2, and_self, if_true]
      congr 1
      have gen : ∀ (l : List PV) (ds : List PyData), noBls l = true → toPDs l = some ds → (ds.any fun z => PyData.eqv z d) = decide (p ∈ l) := by
        intro l
        induction l with
        | nil => intro ds _ h; cases h; simp
        | cons q l ih =>
          intro ds nb h
          simp only [toPDs, Option.bind_eq_some_iff, Option.map_eq_some_iff] at h
          obtain ⟨x, h1, xs, h2, rfl⟩ := h
          simp only [noBls, Bool.and_eq_true] at nb
          rw [List.any_cons, ih xs nb.2 h2, eqv_ok q p x d nb.1 (cln_noBl n p hp) h1 d1, peq_dec]
          by_cases c1 : p = q
          · simp [c1]
          · have c2 : ¬ q = p := fun z => c1 z.symm
            simp [c1, c2]
      exact gen l ds nb e3
  cases p <;> exact main
theorem in_cln (n : Nat) {p : PV} {l : List PV} {neg : Bool} (hn : n + 1 < 63) (hp : cln n p = true) (hl : l.all (cln n) = true) : pyIn neg p (.lst l) = .ok (.bl (if neg then !decide (p ∈ l) else decide (p ∈ l))) := by
  unfold pyIn
  rw [inR_cln n hn hp hl fun _ => .inr trivial]
  rfl
theorem in_flat {p : PV} {l : List PV} {neg : Bool} (hp : flatP p = true) (hb : noBl p = true) (hl : l.all flatP = true) (hlb : noBls l = true) : pyIn neg p (.tup l) = .ok (.bl (if neg then !decide (p ∈ l) else decide (p ∈ l))) := by
  have e : inR p (.tup l) = .ok (decide (p ∈ l)) := by
    have e2 : (if flatP p = true ∧ l.all flatP = true then R.ok (inV (toV p) (l.map toV)) else R.no) = R.ok (decide (p ∈ l)) := by rw [if_pos ⟨hp, hl⟩, inV_flat hp hb hl hlb]
    cases p <;> exact e2
  unfold pyIn
  rw [e]
  rfl
end L3

end
section
/-! L3. 18: gcd, list.index, x -= y, raise of a class without fields -/
namespace L3
open PySem PySem.Spec PyProof.Rows L2
section
variable {C : Fc} {W : WX} {D : Ends} {m : Bool} {X : Cx} {o e : Expr} {es : List Expr} {pos p apos cpos : Pos} {x : Str} {fas : Env → R (List PV)} {fa fo : Env → R PV} {σ : L2.St} {H : Hp} {G : Gc} {i : Nat}
def bGcd : List PV → R PV
  | [.int a, .int b] => .ok (.int (Nat.gcd a.natAbs b.natAbs : Nat))
  | _ => .no
theorem calm_gcd : CalmC bGcd := by
  intro ps x
  unfold bGcd
  split <;> exact fun z => nomatch z
theorem gcd_ok : OpC G rGcd bGcd := by
  intro m H₀ H F ps z vs Q zz r e k
  unfold bGcd at e
  split at e
  · cases e
    simp only [Reps, Rep] at r
    obtain ⟨x, ys, rfl, rfl, y, zs, rfl, rfl, rfl⟩ := r
    exact ⟨_, _, rfl, k _ H H₀ (Ext.refl zz) (by simp only [Rep])⟩
  · cases e
theorem qGcd (hm : X.mg "gcd" = some (.builtin "math.gcd")) (ha : QA C W m X (e :: es) fas) (hgl : Gl X "gcd" := by rfl) (he : starEach (e :: es) X.env = (false, eval e X.env) :: starEach es X.env := by rfl) (hpl : (backTo pos (starEach es X.env)).any (·.1) = false := by rfl) :
    QE C W m X (.Call (.Name "gcd" p) (e :: es) [] pos) (eB bGcd fas) := PE.imp (pe_callBfun cr_gcd hgl hm ha (by decide) he hpl) fun σ H Q h => opC_go calm_gcd gcd_ok h
/-! ### methods of lists that only look -/
def OpM (Γ : Gc) (r : V → List V → Hp → VK → Prop) (g : PV → List PV → R PV) : Prop := ∀ (m : Bool) (H₀ H : Hp) (F : List Addr) (p : PV) (ps : List PV) (z : PV) (x : V) (vs : List V) (Q : VK), Same H₀ H → Rep Γ (md m H₀ H F) p x → Reps Γ (md m H₀ H F) ps vs → g p ps = .ok z →
  (∀ v H' H₀', Ext H₀ H H₀' H' → Rep Γ (md m H₀' H' F) z v → Q v H') → r x vs H Q
def eMt (g : PV → List PV → R PV) (fo : Env → R PV) (fas : Env → R (List PV)) : Env → R PV := fun ρ => (fo ρ).bind fun p => match p with
  | .lst l => (fas ρ).bind fun ps => g (.lst l) ps
  | _ => .no
theorem mtL_go {r : V → List V → Hp → VK → Prop} (hK : X.K = C.G.K) {g : PV → List PV → R PV} (hg : ∀ p ps x, g p ps ≠ .er x) (ho : OpM C.G r g) {Q : VK} (h : tE C W m (eMt g fo fas) σ H Q) : tBM X.K "list" r (tE C W m fo) (tAs C W m fas) σ H Q := by
  show tE C W m fo σ H fun x H1 => tyV X.K "list" x H1 ∧ tAs C W m fas σ H1 fun xs H2 => r x xs H2 Q
  rw [tE_iff] at h ⊢
  obtain ⟨H₀, F, ρ, S, h⟩ := h
  unfold eMt at h
  rw [Goes.bind] at h
  refine ⟨H₀, F, ρ, S, h.imp fun p _ h v H1 H₁ E1 r1 => ?_⟩
  cases p with
  | lst l =>
    dsimp only at h
    rw [Goes.bind] at h
    have r1' := r1
    simp only [Rep] at r1'
    obtain ⟨a, xs, rfl, h2, h3⟩ := r1'
    refine ⟨.inl ⟨rfl, xs, SqL.of (md_H E1.z _ _ h2)⟩, ?_⟩
    rw [tA_iff]
    refine ⟨H₁, F, ρ, S.ext E1, (h.later E1).imp fun ps _ h vs H2 H₂ E2 r2 => ?_⟩
    cases q : g (.lst l) ps with
    | ok z =>
      rw [q] at h
      exact ho m H₂ H2 F (.lst l) ps z (.ref a) vs Q E2.z (Rep.mono (md_ext E2) r1) r2 q fun w H3 H₃ E3 r3 => h w H3 H₃ ((E1.trans E2).trans E3) r3
    | er x => exact absurd q (hg _ _ x)
    | no =>
      rw [q] at h
      exact h.elim
  | _ => exact (show False from h).elim
def ixG : PV → List PV → R PV
  | .lst l, [q] => if flatP q = true ∧ l.all flatP = true then R.of (((l.map toV).findIdx? fun z => eqV z (toV q)).map fun j => .int (j : Nat)) else .no
  | _, _ => .no
theorem calm_ix : ∀ p ps x, ixG p ps ≠ .er x := by
  intro p ps x
  unfold ixG
  split
  · split
    · exact R.of_calm
    · exact fun z => nomatch z
  · exact fun z => nomatch z
theorem ix_ok : OpM G (rIndex G.K) ixG := by
  intro m H₀ H F p ps z x vs Q zz rp rs e k
  unfold ixG at e
  split at e
  · rename_i l q
    split at e
    · rename_i hf
      have rp' := rep_up zz rp
      simp only [Rep] at rp'
      obtain ⟨a, xs, rfl, h2, h3⟩ := rp'
      simp only [Reps] at rs
      obtain ⟨y, ys, rfl, ry, rfl⟩ := rs
      obtain ⟨e1, e2⟩ := flat_ok (rep_up zz ry) hf.1
      obtain ⟨e3, e4⟩ := flats_ok h3 hf.2
      cases q1 : (l.map toV).findIdx? fun z => eqV z (toV q) with
      | none => rw [q1] at e; cases e
      | some j =>
        rw [q1] at e
        cases e
        obtain ⟨hj, hp, hno⟩ := List.findIdx?_eq_some_iff_getElem.mp q1
        refine ⟨a, xs, y, j, (l.map toV)[j], rfl, rfl, SqL.of h2, e2, e4, by rw [e3]; exact List.getElem?_eq_getElem hj, by rw [e1]; exact hp, fun m z' hm hz => ?_, k _ H H₀ (Ext.refl zz) (by simp only [Rep])⟩
        rw [e3] at hz
        obtain ⟨hm2, rfl⟩ := List.getElem?_eq_some_iff.mp hz
        rw [e1]
        have := hno m hm
        simpa using this
    · cases e
  · cases e
theorem qIndex (hK : X.K = C.G.K) (ho : QE C W m X o fo) (ha : QA C W m X [e] fas)
    (hbase : attributeBase o "index" X.env (eval o X.env) = eval o X.env := by rfl)
    (hfew : ((backTo cpos (starEach [e] X.env)).all (fun x => !x.1) && (backToKw cpos (keywordEach [] X.env)).all (fun x => x.1.isSome)
      && decide (([e] : List Expr).length + ([] : List Keyword).length + (if ([] : List Keyword).isEmpty then 0 else 1) < 30)) = true := by rfl)
    (hline : (apos.endLine == cpos.line) = true := by rfl) (hs : starEach [e] X.env = (false, eval e X.env) :: starEach [] X.env := by rfl) (hplain : (backTo cpos (starEach [] X.env)).any (·.1) = false := by rfl) :
    QE C W m X (.Call (.Attribute o "index" apos) [e] [] cpos) (eMt ixG fo fas) :=
  PE.imp (pe_bm PySem.F.plainAttrs_list PySem.F.slot_list_index PySem.F.type_list_index mt_index ho ha hbase hfew hline hs hplain) fun σ H Q h => mtL_go hK calm_ix (by rw [hK]; exact ix_ok) h
/-! ### x op= y of numbers -/
def sAugI (i : Nat) (fn : Int → Int → Int) (f : Env → R PV) : Env → RS := fun ρ => match ρ[i]? with
  | some (some (.sh (.int a))) => (f ρ).to ρ fun q => match q with
    | .int b => .nx (ρ.set i (some (.sh (.int (fn a b)))))
    | _ => .no
  | _ => .no
theorem aug_go {fn : Int → Int → Int} (hx : fxOk C i) (h : tS C W (sAugI i fn fa) D σ H) : tAug i (tE C W m fa) (ipI fn) D σ H := by
  obtain ⟨H₀, F, ρ, S, h⟩ := h
  unfold sAugI at h
  split at h
  · rename_i a ea
    obtain ⟨v, F1, e1, e2, _⟩ := S.env.get ea
    simp only [OwnR, Rep] at e2
    obtain ⟨rfl, _⟩ := e2
    refine ⟨_, e1, ?_⟩
    rw [tE_iff]
    refine ⟨H₀, F, ρ, S, (Aft.to S h).imp fun q _ h v H1 H₁ E1 r1 => ?_⟩
    cases q with
    | int b =>
      simp only [Rep] at r1
      subst r1
      refine ⟨a, b, rfl, rfl, ?_⟩
      obtain ⟨F', S'⟩ := (S.ext E1).sh (i := i) (p := .int (fn a b)) (v := .int (fn a b)) (by simp only [Rep]) hx
      exact h _ _ _ _ S'
    | _ => exact (show False from h).elim
  · exact h.elim
theorem qAugSub {m : Bool} (hx : fxOk C i) (hN : X.N.Nodup) (he : QE C W m X e fa) (hi : X.N[i]? = some x := by rfl) (hl : Loc X.env.scope x := by first | exact Or.inl rfl | exact Or.inr rfl) (hf : X.fn x = true ∨ X.env.scope.names.lookup x = some .local := by first | exact .inl rfl | exact .inr rfl) :
    QS C W X (.AugAssign (.Name x p) .Sub e pos) (sAugI i (fun a b => a - b) fa) := PS.imp (ps_aug hN hi hl he ip_sub hf) fun D σ H h => aug_go hx h
theorem qAugAdd {m : Bool} (hx : fxOk C i) (hN : X.N.Nodup) (he : QE C W m X e fa) (hi : X.N[i]? = some x := by rfl) (hl : Loc X.env.scope x := by first | exact Or.inl rfl | exact Or.inr rfl) (hf : X.fn x = true ∨ X.env.scope.names.lookup x = some .local := by first | exact .inl rfl | exact .inr rfl) :
    QS C W X (.AugAssign (.Name x p) .Add e pos) (sAugI i (fun a b => a + b) fa) := PS.imp (ps_aug hN hi hl he ip_add hf) fun D σ H h => aug_go hx h
/-! ### raise of an own class that keeps nothing -/
def sRzP (c : Nat) : Env → RS := fun ρ => .er ⟨c, []⟩ ρ
theorem qRzP {c : Nat} {bmB : List Value} {B newId initId : String} {msg : Str} {j : Nat} {p2 p3 : Pos} (hc : X.calm = true) (tk : L2N.Takes X W) (Fa : ExcBaseFacts B newId initId bmB) (q : PySem.W.excIn X.K (C.G.CA c) bmB newId = true) (gC : X.mg x = some (.ref (C.G.CA c))) (kC : PySem.W.keepIn X.K (.ref (C.G.CA c)) = true) (rs : Raises X (.ref (C.G.CA c))) (hg : Gl X x := by rfl)
    (hdb : (x == ("__debug__" : Str)) = false := by decide) : QS C W X (.Raise (some (.Call (.Name x p2) [.Constant (.str msg) j p3] [] p)) none pos) (sRzP c) :=
  PS.imp (L2N.ps_raise hc tk (L2N.pmk_own Fa q gC kC rs hg hdb)) fun D σ H ⟨H₀, F, ρ, S, h⟩ => h _ _ σ _ _ F S ⟨rfl, .inl ⟨rfl, rfl⟩⟩
end
/-! by simp -/
section
variable {ρ ρ' : Env} {fa fo : Env → R PV} {fas : Env → R (List PV)} {i : Nat} {a b : Int}
@[simp] theorem gcd_int : bGcd [.int a, .int b] = .ok (.int (Nat.gcd a.natAbs b.natAbs : Nat)) := nr rfl
def mt2 (g : PV → List PV → R PV) : R PV → R (List PV) → R PV
  | .ok (.lst l), .ok ps => g (.lst l) ps
  | .ok (.lst _), .er x => .er x
  | .er x, _ => .er x
  | _, _ => .no
@[simp] theorem mt2_ok {g : PV → List PV → R PV} {l ps : List PV} : mt2 g (.ok (.lst l)) (.ok ps) = g (.lst l) ps := nr rfl
@[simp] theorem eMt_at {g : PV → List PV → R PV} : eMt g fo fas ρ = mt2 g (fo ρ) (fas ρ) := by
  unfold eMt
  cases fo ρ with
  | ok p => cases p <;> cases fas ρ <;> rfl
  | er x => cases fas ρ <;> rfl
  | no => cases fas ρ <;> rfl
def augG (i : Nat) (fn : Int → Int → Int) : R PV → R PV → Env → RS
  | .ok (.int a), .ok (.int b), ρ => .nx (ρ.set i (some (.sh (.int (fn a b)))))
  | .ok (.int _), .er x, ρ => .er x ρ
  | _, _, _ => .no
@[simp] theorem augG_ok {fn : Int → Int → Int} : augG i fn (.ok (.int a)) (.ok (.int b)) ρ = .nx (ρ.set i (some (.sh (.int (fn a b))))) := nr rfl
@[simp] theorem sAugI_at {fn : Int → Int → Int} : sAugI i fn fa ρ = augG i fn (eVar i ρ) (fa ρ) ρ := by
  unfold sAugI eVar
  cases (ρ[i]? : Option (Option OV)) with
  | none => cases fa ρ <;> rfl
  | some y =>
    cases y with
    | none => cases fa ρ <;> rfl
    | some o =>
      cases o with
      | sh p =>
        cases p with
        | int a =>
          cases fa ρ with
          | ok q => cases q <;> rfl
          | er x => rfl
          | no => rfl
        | _ => cases fa ρ <;> rfl
      | _ => cases fa ρ <;> rfl
@[simp] theorem sRzP_at {c : Nat} : sRzP c ρ = .er ⟨c, []⟩ ρ := nr rfl
end
end L3
namespace X4
open PySem PySem.Spec PyProof.Rows L2 He
/-- the name stands for a built-in function of a module -/
def bfnB (x : Str) (id : String) : Ck := fun K => eqO (PySem.W.nsIn K mainGlobals x) (some (some (.builtin id)))
theorem bfn_ok {K : PySem.W.Frag} {h : Heap} {mg : Str → Option Value} (X : K.In h) (G : h.Ns mainGlobals mg) {x : Str} {id : String} (c : bfnB x id K = true) : mg x = some (.builtin id) := PySem.W.mg_of X G (eqO_ok c)
end X4

end
section
/-! L3. 19: lists, plain -/
namespace L3
open PySem L2
theorem getD_of {α : Type} {l : List α} {k : Nat} {d : α} (h : k < l.length) : l.getD k d = l[k] := by simp [List.getD_eq_getElem?_getD, h]
theorem atI_getD {α : Type} {l : List α} {k : Nat} {d : α} (h : k < l.length) : atI l (k : Int) = some (l.getD k d) := by
  rw [atI_natP, List.getElem?_eq_getElem h, getD_of h]
theorem atI_getI {α : Type} {l : List α} {i : Int} {d : α} (h0 : 0 ≤ i) (h : i < l.length) : atI l i = some (l.getD i.toNat d) := by
  have e : i = (i.toNat : Int) := by omega
  rw [e, atI_getD (d := d) (by omega)]
  rfl
theorem toBls_map {α : Type} {f : α → Bool} {l : List α} : toBls (l.map fun x => PV.bl (f x)) = some (l.map f) := by
  induction l with
  | nil => rfl
  | cons x l ih => rw [List.map_cons, toBls, ih]; rfl
theorem toInts_map {α : Type} {f : α → Int} {l : List α} : toInts (l.map fun x => PV.int (f x)) = some (l.map f) := by
  induction l with
  | nil => rfl
  | cons x l ih => rw [List.map_cons, toInts, ih]; rfl
theorem foldl_app {α β : Type} {f : β → List α} : ∀ (l : List β) (w : List α), l.foldl (fun w x => w ++ f x) w = w ++ l.flatMap f
  | [], w => by simp
  | x :: l, w => by rw [List.foldl_cons, foldl_app l, List.flatMap_cons, List.append_assoc]
def el (l : List Int) (i : Nat) : Int := l.getD i 0
theorem el_at {l : List Int} {i : Nat} (h : i < l.length) : atI l (i : Int) = some (el l i) := atI_getD h
theorem el_atI {l : List Int} {i : Int} (h0 : 0 ≤ i) (h : i < l.length) : atI l i = some (el l i.toNat) := atI_getI h0 h
theorem el_of {l : List Int} {i : Nat} (h : i < l.length) : el l i = l[i] := getD_of h
theorem el_mem {l : List Int} {i : Nat} (h : i < l.length) : el l i ∈ l := by
  rw [el_of h]
  exact List.getElem_mem h
theorem el_app {l : List Int} {x : Int} {i : Nat} : el (l ++ [x]) i = if i < l.length then el l i else if i = l.length then x else 0 := by
  unfold el
  simp only [List.getD_eq_getElem?_getD, List.getElem?_append]
  by_cases h : i < l.length
  · simp [h]
  · rw [if_neg h, if_neg h]
    by_cases h2 : i = l.length
    · simp [h2]
    · rw [if_neg h2, List.getElem?_eq_none (by simp; omega)]
      rfl
theorem mul_big {a b : Int} (ha : a.natAbs < 2 ^ 1000) (hb : b.natAbs < 2 ^ 1000) : pyMul (.int a) (.int b) = .ok (.int (a * b)) := by
  show (if mulOk a b = true then _ else _) = _
  have h1 := log2_le ha (by decide)
  have h2 := log2_le hb (by decide)
  rw [if_pos (by unfold mulOk; simp only [Bool.or_eq_true, decide_eq_true_eq]; omega)]
/-! numbers and None -/
def o2p : Option Int → PV
  | none => .non
  | some i => .int i
@[simp] theorem o2p_none : o2p none = .non := nr rfl
@[simp] theorem o2p_some {i : Int} : o2p (some i) = .int i := nr rfl
@[simp] theorem isN_o2p {x : Option Int} : isN (o2p x) = x.isNone := by cases x <;> rfl
/-- by an invariant, with what is still to come -/
theorem forGo_invA {α : Type} {T : Tg} {fg : List Nat} {fb : Env → RS} {f : α → PV} (I : Nat → Env → Prop) : ∀ (l : List α) (k : Nat) (ρ : Env), I k ρ → (∀ i x ρ, l[i]? = some x → I (k + i) ρ → ∃ ρ', Turn T fg fb (f x) ρ ρ' ∧ I (k + i + 1) ρ') → ∃ ρ', (∀ rest, forGo T fg fb (l.map f ++ rest) ρ = forGo T fg fb rest ρ') ∧ I (k + l.length) ρ'
  | [], k, ρ, h0, _ => ⟨ρ, fun _ => rfl, h0⟩
  | x :: l, k, ρ, h0, h => by
    obtain ⟨ρ1, t, h1⟩ := h 0 x ρ rfl h0
    obtain ⟨ρ', e, h2⟩ := forGo_invA I l (k + 1) ρ1 h1 fun i y ρ hy hi => by
      have := h (i + 1) y ρ hy (by rw [← Nat.add_assoc, Nat.add_right_comm]; exact hi)
      rw [← Nat.add_assoc, Nat.add_right_comm k i 1] at this
      exact this
    exact ⟨ρ', fun rest => by rw [List.map_cons, List.cons_append, t.go]; exact e rest, by rw [List.length_cons, ← Nat.add_assoc, Nat.add_right_comm]; exact h2⟩
end L3

end
section

/-! The plain functions of the defs, as gen.py prints them. -/
namespace K01
open PySem PySem.Spec PyProof.Rows L2 L3
-- class 0: Fault
-- class 1: BadAmount
-- class 2: TooMany
-- class 3: BadStair
-- class 4: Stair
def ok_heights : Nat → Bool := fun c => c == 4
def ok_rise : Nat → Bool := fun c => c == 4
def ok_start : Nat → Bool := fun c => c == 4
def ok_step : Nat → Bool := fun c => c == 4
def okx_amount : Nat → Bool := fun c => c == 1
def okx_limit : Nat → Bool := fun c => c == 2
def mt_BadAmount : Nat → Option Bool := fun c => if c = 0 then some false else if c = 1 then some true else if c = 2 then some false else if c = 3 then some false else none
def mt_BadStair : Nat → Option Bool := fun c => if c = 0 then some false else if c = 1 then some false else if c = 2 then some false else if c = 3 then some true else none
def mt_TooMany : Nat → Option Bool := fun c => if c = 0 then some false else if c = 1 then some false else if c = 2 then some true else if c = 3 then some false else none
def ib_BadAmount : Nat → Option Bool := fun c => if c = 0 then some false else if c = 1 then some true else if c = 2 then some false else if c = 3 then some false else none
def ib_BadStair : Nat → Option Bool := fun c => if c = 0 then some false else if c = 1 then some false else if c = 2 then some false else if c = 3 then some true else none
def ib_Fault : Nat → Option Bool := fun c => if c = 0 then some true else if c = 1 then some true else if c = 2 then some true else if c = 3 then some true else none
def ib_TooMany : Nat → Option Bool := fun c => if c = 0 then some false else if c = 1 then some false else if c = 2 then some true else if c = 3 then some false else none
theorem nrr {α : Sort _} {a b : α} (h : a = b) : a = b := h
@[simp] theorem ok_heights_4 : ok_heights 4 = true := nrr rfl
@[simp] theorem ok_rise_4 : ok_rise 4 = true := nrr rfl
@[simp] theorem ok_start_4 : ok_start 4 = true := nrr rfl
@[simp] theorem ok_step_4 : ok_step 4 = true := nrr rfl
@[simp] theorem okx_amount_0 : okx_amount 0 = false := nrr rfl
@[simp] theorem okx_amount_1 : okx_amount 1 = true := nrr rfl
@[simp] theorem okx_amount_2 : okx_amount 2 = false := nrr rfl
@[simp] theorem okx_amount_3 : okx_amount 3 = false := nrr rfl
@[simp] theorem okx_limit_0 : okx_limit 0 = false := nrr rfl
@[simp] theorem okx_limit_1 : okx_limit 1 = false := nrr rfl
@[simp] theorem okx_limit_2 : okx_limit 2 = true := nrr rfl
@[simp] theorem okx_limit_3 : okx_limit 3 = false := nrr rfl
@[simp] theorem mt_BadAmount_0 : mt_BadAmount 0 = some false := nrr rfl
@[simp] theorem mt_BadAmount_1 : mt_BadAmount 1 = some true := nrr rfl
@[simp] theorem mt_BadAmount_2 : mt_BadAmount 2 = some false := nrr rfl
@[simp] theorem mt_BadAmount_3 : mt_BadAmount 3 = some false := nrr rfl
@[simp] theorem mt_BadStair_0 : mt_BadStair 0 = some false := nrr rfl
@[simp] theorem mt_BadStair_1 : mt_BadStair 1 = some false := nrr rfl
@[simp] theorem mt_BadStair_2 : mt_BadStair 2 = some false := nrr rfl
@[simp] theorem mt_BadStair_3 : mt_BadStair 3 = some true := nrr rfl
@[simp] theorem mt_TooMany_0 : mt_TooMany 0 = some false := nrr rfl
@[simp] theorem mt_TooMany_1 : mt_TooMany 1 = some false := nrr rfl
@[simp] theorem mt_TooMany_2 : mt_TooMany 2 = some true := nrr rfl
@[simp] theorem mt_TooMany_3 : mt_TooMany 3 = some false := nrr rfl
@[simp] theorem ib_BadAmount_0 : ib_BadAmount 0 = some false := nrr rfl
@[simp] theorem ib_BadAmount_1 : ib_BadAmount 1 = some true := nrr rfl
@[simp] theorem ib_BadAmount_2 : ib_BadAmount 2 = some false := nrr rfl
@[simp] theorem ib_BadAmount_3 : ib_BadAmount 3 = some false := nrr rfl
@[simp] theorem ib_BadStair_0 : ib_BadStair 0 = some false := nrr rfl
@[simp] theorem ib_BadStair_1 : ib_BadStair 1 = some false := nrr rfl
@[simp] theorem ib_BadStair_2 : ib_BadStair 2 = some false := nrr rfl
@[simp] theorem ib_BadStair_3 : ib_BadStair 3 = some true := nrr rfl
@[simp] theorem ib_Fault_0 : ib_Fault 0 = some true := nrr rfl
@[simp] theorem ib_Fault_1 : ib_Fault 1 = some true := nrr rfl
@[simp] theorem ib_Fault_2 : ib_Fault 2 = some true := nrr rfl
@[simp] theorem ib_Fault_3 : ib_Fault 3 = some true := nrr rfl
@[simp] theorem ib_TooMany_0 : ib_TooMany 0 = some false := nrr rfl
@[simp] theorem ib_TooMany_1 : ib_TooMany 1 = some false := nrr rfl
@[simp] theorem ib_TooMany_2 : ib_TooMany 2 = some true := nrr rfl
@[simp] theorem ib_TooMany_3 : ib_TooMany 3 = some false := nrr rfl
/-- lowest: slots 0 p, 1 q, 2 common -/
def s_lowest  : L3.Env → RS := (sSeq (sSet 2 (mSh (eB bGcd (aCons (eVar 0) (aCons (eVar 1) aNil))))) (sRt (mSh (eTup (aCons (eBin pyFdiv (eVar 0) (eVar 2)) (aCons (eBin pyFdiv (eVar 1) (eVar 2)) aNil))))))
def F_lowest : List PV → R OV := defF 3 2 s_lowest
theorem F_lowest_at {a0 a1 : PV} : F_lowest [a0, a1] = outS (s_lowest [some (.sh a0), some (.sh a1), none]) := rfl
/-- check_heights: slots 0 heights, 1 step, 2 rise, 3 last, 4 height, 5 first -/
def b_check_heights_1 : L3.Env → RS := (sSeq (sIf (bAnd (eTst (eIsN (eVar 3))) (eTst (eNotN (eVar 4)))) (sRzP 3) sNx) (sSeq (sIf (bAnd (eTst (eNotN (eVar 3))) (bAnd (eTst (eNotN (eVar 4))) (eTst (eBin pyLt (eVar 4) (eVar 3))))) (sRzP 3) sNx) (sSet 3 (mSh (eVar 4)))))
def s_check_heights  : L3.Env → RS := (sSeq (sIf (bOr (eTst (eBin pyLt (eVar 1) (eCst (.int 1)))) (eTst (eBin pyLt (eB bLen (aCons (eVar 0) aNil)) (eVar 1)))) (sRzP 3) sNx) (sSeq (sSet 3 (mSh (eCst (.int 0)))) (sSeq (sFor (.nm 4) [4] (iSeq (eVar 0)) b_check_heights_1) (sSeq (sSet 5 (mSh (eIdx (eVar 0) (eBin pySub (eB bLen (aCons (eVar 0) aNil)) (eVar 1))))) (sSeq (sIf (bAnd (eTst (eIsN (eVar 2))) (eTst (eNotN (eVar 5)))) (sRzP 3) sNx) (sIf (bAnd (eTst (eNotN (eVar 2))) (bOr (eTst (eIsN (eVar 3))) (eTst (eBin pyGt (eVar 3) (eBin pyAdd (eVar 5) (eVar 2)))))) (sRzP 3) sNx))))))
def F_check_heights : List PV → R OV := defF 6 3 s_check_heights
theorem F_check_heights_at {a0 a1 a2 : PV} : F_check_heights [a0, a1, a2] = outS (s_check_heights [some (.sh a0), some (.sh a1), some (.sh a2), none, none, none]) := rfl
/-- least_step: slots 0 heights, 1 step, 2 rise, 3 start, 4 part, 5 part_rise, 6 k -/
def c_least_step_1 : L3.Env → R OV := (fSh (eBin pyEq (eIdx (eVar 0) (eBin pyAdd (eVar 6) (eVar 4))) (eBin pyAdd (eIdx (eVar 0) (eVar 6)) (eVar 5))))
def b_least_step_1 : L3.Env → RS := (sIf (bAnd (eTst (eBin pyEq (eBin pyMod (eVar 1) (eVar 4)) (eCst (.int 0)))) (eTst (eBin pyEq (eBin pyMod (eBin pyMul (eVar 2) (eVar 4)) (eVar 1)) (eCst (.int 0))))) (sSeq (sSet 5 (mSh (eBin pyFdiv (eBin pyMul (eVar 2) (eVar 4)) (eVar 1)))) (sIf (eTst (eB bAll (aCons (eFz (fLc (.nm 6) [6] (iRg rng2R (aCons (eVar 3) (aCons (eBin pySub (eBin pyAdd (eVar 3) (eVar 1)) (eVar 4)) aNil))) tYesB c_least_step_1)) aNil))) (sRt (mSh (eVar 4))) sNx)) sNx)
def s_least_step  : L3.Env → RS := (sSeq (sSet 3 (mSh (eBin pySub (eB bLen (aCons (eVar 0) aNil)) (eVar 1)))) (sSeq (sFor (.nm 4) [4, 5] (iRg rng2R (aCons (eCst (.int 1)) (aCons (eVar 1) aNil))) b_least_step_1) (sRt (mSh (eVar 1)))))
def F_least_step : List PV → R OV := defF 7 3 s_least_step
theorem F_least_step_at {a0 a1 a2 : PV} : F_least_step [a0, a1, a2] = outS (s_least_step [some (.sh a0), some (.sh a1), some (.sh a2), none, none, none, none]) := rfl
/-- Stair.at: slots 0 self, 1 amount, 2 turns -/
def s_Stair_at  : L3.Env → RS := (sSeq (sIf (eTst (eBin pyLt (eVar 1) (eCst (.int 0)))) (sRz 1 "amount" (eVar 1)) sNx) (sSeq (sIf (eTst (eBin pyLt (eVar 1) (eB bLen (aCons (eFld "heights" ok_heights (eVar 0)) aNil)))) (sRt (mSh (eIdx (eFld "heights" ok_heights (eVar 0)) (eVar 1)))) sNx) (sSeq (sIf (eTst (eIsN (eFld "rise" ok_rise (eVar 0)))) (sRt (mSh (eCst .non))) sNx) (sSeq (sSet 2 (mSh (eBin pyFdiv (eBin pySub (eVar 1) (eFld "start" ok_start (eVar 0))) (eFld "step" ok_step (eVar 0))))) (sRt (mSh (eBin pyAdd (eIdx (eFld "heights" ok_heights (eVar 0)) (eBin pySub (eVar 1) (eBin pyMul (eVar 2) (eFld "step" ok_step (eVar 0))))) (eBin pyMul (eVar 2) (eFld "rise" ok_rise (eVar 0))))))))))
def F_Stair_at : List PV → R OV := defF 3 2 s_Stair_at
theorem F_Stair_at_at {a0 a1 : PV} : F_Stair_at [a0, a1] = outS (s_Stair_at [some (.sh a0), some (.sh a1), none]) := rfl
/-- _law_cell: slots 0 script, 1 k -/
def s_p_law_cell  : L3.Env → RS := (sSeq (sIf (eTst (eBin pyLt (eVar 1) (eB bLen (aCons (eVar 0) aNil)))) (sRt (mSh (eIdx (eVar 0) (eVar 1)))) sNx) (sRt (mSh (eCst (.int 0)))))
def F_p_law_cell : List PV → R OV := defF 2 2 s_p_law_cell
theorem F_p_law_cell_at {a0 a1 : PV} : F_p_law_cell [a0, a1] = outS (s_p_law_cell [some (.sh a0), some (.sh a1)]) := rfl
/-- _law_numbers: slots 0 cell, 1 salt, 2 count, 3 many, 4 numbers, 5 rest, 6 great, 7 k, 8 mixed -/
def b_p_law_numbers_1 : L3.Env → RS := (sIf (bAnd (eTst (eVar 6)) (eTst (eBin pyGt (eVar 5) (eCst (.int 0))))) (sSeq (sApp (pVar 4) (mSh (eBin pyMod (eB bInt (aCons (eVar 5) aNil)) (eVar 3)))) (sSet 5 (mSh (eBin pyFdiv (eVar 5) (eVar 3))))) (sSeq (sSet 8 (mSh (eBin pyMod (eB bInt (aCons (eBin pyAdd (eBin pyAdd (eBin pyAdd (eB bAbs (aCons (eVar 0) aNil)) (eBin pyMul (eVar 1) (eCst (.int 7919)))) (eBin pyMul (eVar 7) (eCst (.int 104729)))) (eCst (.int 17))) aNil)) (eCst (.int 2147483647))))) (sSeq (sSet 8 (mSh (eBin pyMod (eB bInt (aCons (eBin pyAdd (eBin pyMul (eVar 8) (eCst (.int 48271))) (eCst (.int 5))) aNil)) (eCst (.int 2147483647))))) (sSeq (sSet 8 (mSh (eBin pyMod (eB bInt (aCons (eBin pyAdd (eBin pyAdd (eBin pyMul (eVar 8) (eVar 8)) (eBin pyMul (eVar 8) (eCst (.int 69621)))) (eBin pyMul (eVar 7) (eCst (.int 31)))) aNil)) (eCst (.int 2147483629))))) (sApp (pVar 4) (mSh (eBin pyMod (eB bInt (aCons (eBin pyFdiv (eVar 8) (eCst (.int 7))) aNil)) (eVar 3))))))))
def s_p_law_numbers  : L3.Env → RS := (sSeq (sSet 4 (mFr (fLst aNil))) (sSeq (sSet 5 (mSh (eB bAbs (aCons (eVar 0) aNil)))) (sSeq (sSet 6 (mSh (eBin pyGe (eVar 5) (eBin pyPow (eCst (.int 10)) (eCst (.int 18)))))) (sSeq (sFor (.nm 7) [7, 8] (iRg rng1R (aCons (eVar 2) aNil)) b_p_law_numbers_1) (sRt (mMv 4))))))
def F_p_law_numbers : List PV → R OV := defF 9 4 s_p_law_numbers
theorem F_p_law_numbers_at {a0 a1 a2 a3 : PV} : F_p_law_numbers [a0, a1, a2, a3] = outS (s_p_law_numbers [some (.sh a0), some (.sh a1), some (.sh a2), some (.sh a3), none, none, none, none, none]) := rfl
/-- _law_is: slots 0 actual, 1 expected -/
def s_p_law_is  : L3.Env → RS := (sSeq (sIf (eTst (eIsN (eVar 1))) (sRt (mSh (eIsN (eVar 0)))) sNx) (sRt (mSh (eAnd (eIsi (tbT "int") ibN (eVar 0)) (eAnd (eNot (eIsi (tbT "bool") ibN (eVar 0))) (eBin pyEq (eVar 0) (eVar 1)))))))
def F_p_law_is : List PV → R OV := defF 2 2 s_p_law_is
theorem F_p_law_is_at {a0 a1 : PV} : F_p_law_is [a0, a1] = outS (s_p_law_is [some (.sh a0), some (.sh a1)]) := rfl
/-- _law_value: slots 0 heights, 1 step, 2 rise, 3 x, 4 start, 5 turns -/
def s_p_law_value  : L3.Env → RS := (sSeq (sIf (eTst (eBin pyLt (eVar 3) (eB bLen (aCons (eVar 0) aNil)))) (sRt (mSh (eIdx (eVar 0) (eVar 3)))) sNx) (sSeq (sIf (eTst (eIsN (eVar 2))) (sRt (mSh (eCst .non))) sNx) (sSeq (sSet 4 (mSh (eBin pySub (eB bLen (aCons (eVar 0) aNil)) (eVar 1)))) (sSeq (sSet 5 (mSh (eBin pyFdiv (eBin pySub (eVar 3) (eVar 4)) (eVar 1)))) (sRt (mSh (eBin pyAdd (eIdx (eVar 0) (eBin pyAdd (eVar 4) (eBin pyMod (eB bInt (aCons (eBin pySub (eVar 3) (eVar 4)) aNil)) (eVar 1)))) (eBin pyMul (eVar 5) (eVar 2)))))))))
def F_p_law_value : List PV → R OV := defF 6 4 s_p_law_value
theorem F_p_law_value_at {a0 a1 a2 a3 : PV} : F_p_law_value [a0, a1, a2, a3] = outS (s_p_law_value [some (.sh a0), some (.sh a1), some (.sh a2), some (.sh a3), none, none]) := rfl
def fuel_normal_form : L3.Env → Nat := fun _ => 2000
/-- normal_form: slots 0 heights, 1 step, 2 rise, 3 part, 4 part_rise, 5 start -/
def b_normal_form_1 : L3.Env → RS := (sAugI 5 (fun a b => a - b) (eCst (.int 1)))
def s_normal_form  : L3.Env → RS := (sSeq (sIf (eTst (eIsN (eVar 2))) (sRt (mSh (eTup (aCons (eSl (eVar 0) oNone (oSome (eBin pyAdd (eMt ixG (eVar 0) (aCons (eCst .non) aNil)) (eCst (.int 1))))) (aCons (eCst (.int 1)) (aCons (eCst .non) aNil)))))) sNx) (sSeq (sSet 3 (mSh (eFz (fCall true F_least_step [] (aCons (eVar 0) (aCons (eVar 1) (aCons (eVar 2) aNil))))))) (sSeq (sSet 4 (mSh (eBin pyFdiv (eBin pyMul (eVar 2) (eVar 3)) (eVar 1)))) (sSeq (sSet 5 (mSh (eBin pySub (eB bLen (aCons (eVar 0) aNil)) (eVar 1)))) (sSeq (sWhile fuel_normal_form [] (bAnd (eTst (eBin pyGt (eVar 5) (eCst (.int 0)))) (eTst (eBin pyEq (eBin pyAdd (eIdx (eVar 0) (eBin pySub (eVar 5) (eCst (.int 1)))) (eVar 4)) (eIdx (eVar 0) (eBin pyAdd (eBin pySub (eVar 5) (eCst (.int 1))) (eVar 3)))))) b_normal_form_1) (sRt (mSh (eTup (aCons (eSl (eVar 0) oNone (oSome (eBin pyAdd (eVar 5) (eVar 3)))) (aCons (eVar 3) (aCons (eVar 4) aNil)))))))))))
def F_normal_form : List PV → R OV := defF 6 3 s_normal_form
theorem F_normal_form_at {a0 a1 a2 : PV} : F_normal_form [a0, a1, a2] = outS (s_normal_form [some (.sh a0), some (.sh a1), some (.sh a2), none, none, none]) := rfl
/-- Stair.pace: slots 0 self -/
def s_Stair_pace  : L3.Env → RS := (sSeq (sIf (eTst (eIsN (eFld "rise" ok_rise (eVar 0)))) (sRt (mSh (eCst .non))) sNx) (sRt (mSh (eFz (fCall true F_lowest [] (aCons (eFld "rise" ok_rise (eVar 0)) (aCons (eFld "step" ok_step (eVar 0)) aNil)))))))
def F_Stair_pace : List PV → R OV := defF 1 1 s_Stair_pace
theorem F_Stair_pace_at {a0 : PV} : F_Stair_pace [a0] = outS (s_Stair_pace [some (.sh a0)]) := rfl
/-- _law_normal: slots 0 heights, 1 step, 2 rise, 3 k, 4 part, 5 up, 6 start, 7 x -/
def b_p_law_normal_1 : L3.Env → RS := (sIf (eTst (eIsN (eIdx (eVar 0) (eVar 3)))) (sRt (mSh (eFz (fLst (aCons (eSl (eVar 0) oNone (oSome (eBin pyAdd (eVar 3) (eCst (.int 1))))) (aCons (eCst (.int 1)) (aCons (eCst .non) aNil))))))) sNx)
def b_p_law_normal_2 : L3.Env → RS := (sSeq (sSet 7 (mSh (eBin pySub (eBin pySub (eB bLen (aCons (eVar 0) aNil)) (eCst (.int 1))) (eVar 3)))) (sIf (bAnd (eTst (eBin pyEq (eVar 6) (eBin pyAdd (eVar 7) (eCst (.int 1))))) (eTst (eBin pyEq (eFz (fCall true F_p_law_value [] (aCons (eVar 0) (aCons (eVar 1) (aCons (eVar 2) (aCons (eBin pyAdd (eVar 7) (eVar 4)) aNil)))))) (eBin pyAdd (eIdx (eVar 0) (eVar 7)) (eVar 5))))) (sSet 6 (mSh (eVar 7))) sNx))
def c_p_law_normal_1 : L3.Env → R OV := (fSh (eFz (fCall true F_p_law_value [] (aCons (eVar 0) (aCons (eVar 1) (aCons (eVar 2) (aCons (eVar 7) aNil)))))))
def b_p_law_normal_3 : L3.Env → RS := (sIf (eTst (eBin pyEq (eBin pyMod (eB bInt (aCons (eBin pyMul (eVar 2) (eVar 4)) aNil)) (eVar 1)) (eCst (.int 0)))) (sSeq (sSet 5 (mSh (eBin pyFdiv (eBin pyMul (eVar 2) (eVar 4)) (eVar 1)))) (sSeq (sSet 6 (mSh (eB bLen (aCons (eVar 0) aNil)))) (sSeq (sFor (.nm 3) [3] (iRg rng1R (aCons (eB bLen (aCons (eVar 0) aNil)) aNil)) b_p_law_normal_2) (sIf (eTst (eBin pyLe (eVar 6) (eBin pySub (eB bLen (aCons (eVar 0) aNil)) (eVar 1)))) (sRt (mSh (eFz (fLst (aCons (eFz (fLc (.nm 7) [7] (iRg rng1R (aCons (eBin pyAdd (eVar 6) (eVar 4)) aNil)) tYesB c_p_law_normal_1)) (aCons (eVar 4) (aCons (eVar 5) aNil))))))) sNx)))) sNx)
def s_p_law_normal  : L3.Env → RS := (sSeq (sIf (eTst (eIsN (eVar 2))) (sFor (.nm 3) [3] (iRg rng1R (aCons (eB bLen (aCons (eVar 0) aNil)) aNil)) b_p_law_normal_1) sNx) (sSeq (sFor (.nm 4) [3, 4, 5, 6] (iRg rng2R (aCons (eCst (.int 1)) (aCons (eBin pyAdd (eVar 1) (eCst (.int 1))) aNil))) b_p_law_normal_3) (sRt (mSh (eFz (fLst (aCons (eVar 0) (aCons (eVar 1) (aCons (eVar 2) aNil)))))))))
def F_p_law_normal : List PV → R OV := defF 8 3 s_p_law_normal
theorem F_p_law_normal_at {a0 a1 a2 : PV} : F_p_law_normal [a0, a1, a2] = outS (s_p_law_normal [some (.sh a0), some (.sh a1), some (.sh a2), none, none, none, none, none]) := rfl
/-- _law_same: slots 0 stair, 1 due, 2 told, 3 k -/
def b_p_law_same_1 : L3.Env → RS := (sIf (bNot (eTst (eFz (fCall true F_p_law_is [] (aCons (eIdx (eVar 2) (eVar 3)) (aCons (eIdx (eIdx (eVar 1) (eCst (.int 0))) (eVar 3)) aNil)))))) (sRt (mSh (eCst (.bl false)))) sNx)
def s_p_law_same  : L3.Env → RS := (sSeq (sSet 2 (mSh (eFld "heights" ok_heights (eVar 0)))) (sSeq (sIf (bOr (bNot (eTst (eIsi (tbT "tuple") ibN (eVar 2)))) (eTst (eBin pyNe (eB bLen (aCons (eVar 2) aNil)) (eB bLen (aCons (eIdx (eVar 1) (eCst (.int 0))) aNil))))) (sRt (mSh (eCst (.bl false)))) sNx) (sSeq (sFor (.nm 3) [3] (iRg rng1R (aCons (eB bLen (aCons (eVar 2) aNil)) aNil)) b_p_law_same_1) (sSeq (sIf (bNot (eTst (eFz (fCall true F_p_law_is [] (aCons (eFld "start" ok_start (eVar 0)) (aCons (eBin pySub (eB bLen (aCons (eIdx (eVar 1) (eCst (.int 0))) aNil)) (eIdx (eVar 1) (eCst (.int 1)))) aNil)))))) (sRt (mSh (eCst (.bl false)))) sNx) (sRt (mSh (eAnd (eFz (fCall true F_p_law_is [] (aCons (eFld "step" ok_step (eVar 0)) (aCons (eIdx (eVar 1) (eCst (.int 1))) aNil)))) (eFz (fCall true F_p_law_is [] (aCons (eFld "rise" ok_rise (eVar 0)) (aCons (eIdx (eVar 1) (eCst (.int 2))) aNil)))))))))))
def F_p_law_same : List PV → R OV := defF 4 2 s_p_law_same
theorem F_p_law_same_at {a0 a1 : PV} : F_p_law_same [a0, a1] = outS (s_p_law_same [some (.sh a0), some (.sh a1), none, none]) := rfl
/-- _law_told: slots 0 script, 1 salt, 2 n, 3 start, 4 step, 5 scale, 6 heights, 7 height, 8 up, 9 count, 10 rise, 11 wide, 12 size, 13 x -/
def b_p_law_told_1 : L3.Env → RS := (sSeq (sSet 7 (mSh (eBin pyAdd (eVar 7) (eBin pyMul (eVar 8) (eVar 5))))) (sApp (pVar 6) (mSh (eVar 7))))
def c_p_law_told_1 : L3.Env → R OV := (fSh (eFz (fCall true F_p_law_value [] (aCons (eVar 6) (aCons (eVar 4) (aCons (eVar 10) (aCons (eVar 13) aNil)))))))
def s_p_law_told  : L3.Env → RS := (sSeq (sSet 2 (mSh (eFz (fCall true F_p_law_numbers [] (aCons (eFz (fCall true F_p_law_cell [] (aCons (eVar 0) (aCons (eVar 1) aNil)))) (aCons (eVar 1) (aCons (eCst (.int 8)) (aCons (eCst (.int 1000)) aNil)))))))) (sSeq (sSet 3 (mSh (eBin pyMod (eIdx (eVar 2) (eCst (.int 0))) (eCst (.int 7))))) (sSeq (sSet 4 (mSh (eBin pyAdd (eCst (.int 1)) (eBin pyMod (eIdx (eVar 2) (eCst (.int 1))) (eCst (.int 5)))))) (sSeq (sSet 5 (mSh (eCst (.int 1)))) (sSeq (sIf (eTst (eBin pyEq (eBin pyMod (eIdx (eVar 2) (eCst (.int 2))) (eCst (.int 8))) (eCst (.int 1)))) (sSet 5 (mSh (eBin pyAdd (eCst (.int 1)) (eBin pyMod (eB bInt (aCons (eB bAbs (aCons (eFz (fCall true F_p_law_cell [] (aCons (eVar 0) (aCons (eBin pyAdd (eVar 1) (eCst (.int 2))) aNil)))) aNil)) aNil)) (eBin pyPow (eCst (.int 10)) (eCst (.int 20))))))) sNx) (sSeq (sSet 6 (mFr (fLst aNil))) (sSeq (sSet 7 (mSh (eCst (.int 0)))) (sSeq (sFor (.nm 8) [8] (iSeq (eFz (fCall true F_p_law_numbers [] (aCons (eFz (fCall true F_p_law_cell [] (aCons (eVar 0) (aCons (eBin pyAdd (eVar 1) (eCst (.int 1))) aNil)))) (aCons (eBin pyAdd (eVar 1) (eCst (.int 50))) (aCons (eBin pyAdd (eVar 3) (eVar 4)) (aCons (eCst (.int 4)) aNil))))))) b_p_law_told_1) (sFz 6 (sSeq (sIf (eTst (eBin pyEq (eBin pyMod (eIdx (eVar 2) (eCst (.int 3))) (eCst (.int 6))) (eCst (.int 0)))) (sSeq (sSet 9 (mSh (eBin pyAdd (eCst (.int 1)) (eBin pyMod (eIdx (eVar 2) (eCst (.int 4))) (eCst (.int 3)))))) (sRt (mSh (eFz (fLst (aCons (eBin pyAdd (eSl (eVar 6) oNone (oSome (eVar 3))) (eBin pyMul (eFz (fLst (aCons (eCst .non) aNil))) (eVar 9))) (aCons (eBin pyAdd (eCst (.int 1)) (eBin pyMod (eIdx (eVar 2) (eCst (.int 5))) (eVar 9))) (aCons (eCst .non) aNil)))))))) sNx) (sSeq (sSet 10 (mSh (eBin pyAdd (eBin pySub (eIdx (eVar 6) (eUn pyNeg (eCst (.int 1)))) (eIdx (eVar 6) (eVar 3))) (eBin pyMul (eBin pyMod (eIdx (eVar 2) (eCst (.int 4))) (eCst (.int 4))) (eVar 5))))) (sSeq (sSet 11 (mSh (eBin pyAdd (eCst (.int 1)) (eBin pyMod (eIdx (eVar 2) (eCst (.int 5))) (eCst (.int 3)))))) (sSeq (sSet 12 (mSh (eBin pyAdd (eBin pyAdd (eVar 3) (eBin pyMod (eIdx (eVar 2) (eCst (.int 6))) (eCst (.int 4)))) (eBin pyMul (eVar 4) (eVar 11))))) (sRt (mSh (eFz (fLst (aCons (eFz (fLc (.nm 13) [13] (iRg rng1R (aCons (eVar 12) aNil)) tYesB c_p_law_told_1)) (aCons (eBin pyMul (eVar 4) (eVar 11)) (aCons (eBin pyMul (eVar 10) (eVar 11)) aNil))))))))))))))))))))
def F_p_law_told : List PV → R OV := defF 14 2 s_p_law_told
theorem F_p_law_told_at {a0 a1 : PV} : F_p_law_told [a0, a1] = outS (s_p_law_told [some (.sh a0), some (.sh a1), none, none, none, none, none, none, none, none, none, none, none, none]) := rfl
/-- _law_below: slots 0 stair, 1 amount, 2 e -/
def s_p_law_below  : L3.Env → RS := (sSeq (sTry (sDo (fMeth true 4 "at" F_Stair_at [] (eVar 0) (aCons (eVar 1) aNil))) (⟨mt_BadAmount, some 2, fun x => (sRt (mSh (eAnd (eFz (fCall true F_p_law_is [] (aCons (eXf okx_amount x "amount") (aCons (eVar 1) aNil)))) (eAnd (eXi ib_Fault x) (eNot (eXi ib_BadStair x))))))⟩ :: [])) (sRt (mSh (eCst (.bl false)))))
def F_p_law_below : List PV → R OV := defF 3 2 s_p_law_below
theorem F_p_law_below_at {a0 a1 : PV} : F_p_law_below [a0, a1] = outS (s_p_law_below [some (.sh a0), some (.sh a1), none]) := rfl
/-- Stair.__init__: slots 0 self, 1 heights, 2 step, 3 rise, 4 given, 5 told, 6 part, 7 part_rise -/
def s_Stair_init  : L3.Env → RS := (sSeq (sSet 4 (mSh (eFz (fB bList (aCons (eVar 1) aNil))))) (sSeq (sDo (fCall true F_check_heights [] (aCons (eVar 4) (aCons (eVar 2) (aCons (eVar 3) aNil))))) (sSeq (sTg (.tp [5, 6, 7]) (eFz (fCall true F_normal_form [] (aCons (eVar 4) (aCons (eVar 2) (aCons (eVar 3) aNil)))))) (sSeq (sIf (eTst (eBin pyGt (eB bLen (aCons (eVar 5) aNil)) (eCst (.int 600)))) (sRz 2 "limit" (eCst (.int 600))) sNx) (sSeq (sFl (pVar 0) ok_heights "heights" (mSh (eB bTuple (aCons (eVar 5) aNil)))) (sSeq (sFl (pVar 0) ok_start "start" (mSh (eBin pySub (eB bLen (aCons (eVar 5) aNil)) (eVar 6)))) (sSeq (sFl (pVar 0) ok_step "step" (mSh (eVar 6))) (sFl (pVar 0) ok_rise "rise" (mSh (eVar 7))))))))))
def F_Stair_init : List PV → R (List (Str × OV)) := initF 8 4 4 s_Stair_init
theorem F_Stair_init_at {a0 a1 a2 : PV} : F_Stair_init [a0, a1, a2] = outI 4 (s_Stair_init [some (.obj 4 []), some (.sh a0), some (.sh a1), some (.sh a2), none, none, none, none]) := rfl
/-- _law_pace: slots 0 stair, 1 rise, 2 step, 3 told, 4 a, 5 b, 6 k, 7 c -/
def b_p_law_pace_1 : L3.Env → RS := (sIf (eTst (eBin pyNe (eVar 5) (eCst (.int 0)))) (sSeq (sSet 7 (mSh (eBin pyMod (eB bInt (aCons (eVar 4) aNil)) (eVar 5)))) (sSeq (sSet 4 (mSh (eVar 5))) (sSet 5 (mSh (eVar 7))))) sNx)
def s_p_law_pace  : L3.Env → RS := (sSeq (sSet 3 (mSh (eFz (fMeth true 4 "pace" F_Stair_pace [] (eVar 0) aNil)))) (sSeq (sIf (eTst (eIsN (eVar 1))) (sRt (mSh (eIsN (eVar 3)))) sNx) (sSeq (sSet 4 (mSh (eVar 2))) (sSeq (sSet 5 (mSh (eVar 1))) (sSeq (sFor (.nm 6) [6, 7] (iRg rng1R (aCons (eCst (.int 40)) aNil)) b_p_law_pace_1) (sSeq (sIf (bOr (bNot (eTst (eIsi (tbT "tuple") ibN (eVar 3)))) (eTst (eBin pyNe (eB bLen (aCons (eVar 3) aNil)) (eCst (.int 2))))) (sRt (mSh (eCst (.bl false)))) sNx) (sRt (mSh (eAnd (eFz (fCall true F_p_law_is [] (aCons (eIdx (eVar 3) (eCst (.int 0))) (aCons (eBin pyFdiv (eVar 1) (eVar 4)) aNil)))) (eFz (fCall true F_p_law_is [] (aCons (eIdx (eVar 3) (eCst (.int 1))) (aCons (eBin pyFdiv (eVar 2) (eVar 4)) aNil)))))))))))))
def F_p_law_pace : List PV → R OV := defF 8 3 s_p_law_pace
theorem F_p_law_pace_at {a0 a1 a2 : PV} : F_p_law_pace [a0, a1, a2] = outS (s_p_law_pace [some (.sh a0), some (.sh a1), some (.sh a2), none, none, none, none, none]) := rfl
/-- _law_refused: slots 0 heights, 1 step, 2 rise, 3 e -/
def s_p_law_refused  : L3.Env → RS := (sSeq (sTry (sDo (fMake true 4 F_Stair_init [] (aCons (eVar 0) (aCons (eVar 1) (aCons (eVar 2) aNil))))) (⟨mt_BadStair, some 3, fun x => (sRt (mSh (eAnd (eXi ib_Fault x) (eAnd (eNot (eXi ib_TooMany x)) (eNot (eXi ib_BadAmount x))))))⟩ :: (⟨mt_TooMany, none, fun x => (sRt (mSh (eCst (.bl false))))⟩ :: []))) (sRt (mSh (eCst (.bl false)))))
def F_p_law_refused : List PV → R OV := defF 4 3 s_p_law_refused
theorem F_p_law_refused_at {a0 a1 a2 : PV} : F_p_law_refused [a0, a1, a2] = outS (s_p_law_refused [some (.sh a0), some (.sh a1), some (.sh a2), none]) := rfl
/-- _law_limits: slots 0 size, 1 e -/
def s_p_law_limits  : L3.Env → RS := (sSeq (sIf (eTst (eBin pyNe (eB bLen (aCons (eFld "heights" ok_heights (eFz (fMake true 4 F_Stair_init [] (aCons (eBin pyMul (eFz (fLst (aCons (eCst (.int 0)) aNil))) (eCst (.int 900))) (aCons (eBin pyAdd (eCst (.int 1)) (eBin pyMod (eVar 0) (eCst (.int 5)))) (aCons (eCst (.int 0)) aNil)))))) aNil)) (eCst (.int 1)))) (sRt (mSh (eCst (.bl false)))) sNx) (sSeq (sIf (bOr (eTst (eBin pyNe (eB bLen (aCons (eFld "heights" ok_heights (eFz (fMake true 4 F_Stair_init [] (aCons (eBin pyAdd (eBin pyMul (eFz (fLst (aCons (eCst (.int 0)) aNil))) (eCst (.int 599))) (eFz (fLst (aCons (eCst (.int 1)) aNil)))) (aCons (eCst (.int 1)) (aCons (eCst (.int 0)) aNil)))))) aNil)) (eCst (.int 600)))) (eTst (eBin pyNe (eB bLen (aCons (eFld "heights" ok_heights (eFz (fMake true 4 F_Stair_init [] (aCons (eBin pyAdd (eBin pyMul (eFz (fLst (aCons (eCst (.int 2)) aNil))) (eCst (.int 599))) (eFz (fLst (aCons (eCst .non) aNil)))) (aCons (eCst (.int 1)) (aCons (eCst .non) aNil)))))) aNil)) (eCst (.int 600))))) (sRt (mSh (eCst (.bl false)))) sNx) (sSeq (sTry (sDo (fMake true 4 F_Stair_init [] (aCons (eBin pyAdd (eBin pyMul (eFz (fLst (aCons (eCst (.int 0)) aNil))) (eCst (.int 600))) (eFz (fLst (aCons (eCst (.int 1)) aNil)))) (aCons (eCst (.int 1)) (aCons (eBin pyMul (eCst (.int 2)) (eBin pyMod (eVar 0) (eCst (.int 3)))) aNil))))) (⟨mt_TooMany, some 1, fun x => (sRt (mSh (eAnd (eFz (fCall true F_p_law_is [] (aCons (eXf okx_limit x "limit") (aCons (eCst (.int 600)) aNil)))) (eAnd (eXi ib_Fault x) (eNot (eXi ib_BadStair x))))))⟩ :: [])) (sRt (mSh (eCst (.bl false)))))))
def F_p_law_limits : List PV → R OV := defF 2 1 s_p_law_limits
theorem F_p_law_limits_at {a0 : PV} : F_p_law_limits [a0] = outS (s_p_law_limits [some (.sh a0), none]) := rfl
/-- _law_all_refused: slots 0 heights, 1 step, 2 rise, 3 place, 4 low, 5 plain, 6 first, 7 fallen, 8 k -/
def t_p_law_all_refused_1 : L3.Env → R Bool := (eTst (eNotN (eIdx (eVar 0) (eVar 8))))
def c_p_law_all_refused_1 : L3.Env → R OV := (fSh (eVar 8))
def c_p_law_all_refused_2 : L3.Env → R OV := (fSh (eBin pyAdd (eIdx (eVar 0) (eVar 8)) (eCst (.int 5))))
def s_p_law_all_refused  : L3.Env → RS := (sSeq (sSet 4 (mFr (fLc (.nm 8) [8] (iRg rng1R (aCons (eB bLen (aCons (eVar 0) aNil)) aNil)) t_p_law_all_refused_1 c_p_law_all_refused_1))) (sFz 4 (sSeq (sSet 5 (mFr (fLc (.nm 8) [8] (iSeq (eVar 4)) tYesB c_p_law_all_refused_2))) (sFz 5 (sSeq (sIf (bOr (bNot (eTst (eFz (fCall true F_p_law_refused [] (aCons (eVar 0) (aCons (eCst (.int 0)) (aCons (eVar 2) aNil))))))) (bNot (eTst (eFz (fCall true F_p_law_refused [] (aCons (eVar 0) (aCons (eUn pyNeg (eCst (.int 1))) (aCons (eVar 2) aNil)))))))) (sRt (mSh (eCst (.bl false)))) sNx) (sSeq (sIf (bNot (eTst (eFz (fCall true F_p_law_refused [] (aCons (eVar 0) (aCons (eBin pyAdd (eB bLen (aCons (eVar 0) aNil)) (eCst (.int 1))) (aCons (eVar 2) aNil))))))) (sRt (mSh (eCst (.bl false)))) sNx) (sSeq (sIf (bNot (eTst (eFz (fCall true F_p_law_refused [] (aCons (eBin pyAdd (eBin pyAdd (eFz (fLst (aCons (eUn pyNeg (eCst (.int 1))) aNil))) (eVar 5)) (eFz (fLst (aCons (eCst .non) aNil)))) (aCons (eCst (.int 1)) (aCons (eCst .non) aNil))))))) (sRt (mSh (eCst (.bl false)))) sNx) (sSeq (sIf (bNot (eTst (eFz (fCall true F_p_law_refused [] (aCons (eBin pyAdd (eVar 5) (eFz (fLst (aCons (eCst .non) (aCons (eBin pyAdd (eCst (.int 5)) (eBin pyPow (eCst (.int 10)) (eCst (.int 30)))) (aCons (eCst .non) aNil)))))) (aCons (eCst (.int 1)) (aCons (eCst .non) aNil))))))) (sRt (mSh (eCst (.bl false)))) sNx) (sSeq (sIf (bOr (bNot (eTst (eFz (fCall true F_p_law_refused [] (aCons (eBin pyAdd (eVar 5) (eFz (fLst (aCons (eCst .non) (aCons (eCst .non) aNil))))) (aCons (eCst (.int 2)) (aCons (eCst (.int 0)) aNil))))))) (bNot (eTst (eFz (fCall true F_p_law_refused [] (aCons (eBin pyAdd (eVar 5) (eFz (fLst (aCons (eCst .non) aNil)))) (aCons (eCst (.int 1)) (aCons (eCst (.int 3)) aNil)))))))) (sRt (mSh (eCst (.bl false)))) sNx) (sSeq (sIf (eTst (eBin pyEq (eB bLen (aCons (eVar 5) aNil)) (eCst (.int 0)))) (sRt (mSh (eCst (.bl true)))) sNx) (sSeq (sIf (bOr (bNot (eTst (eFz (fCall true F_p_law_refused [] (aCons (eVar 5) (aCons (eCst (.int 1)) (aCons (eCst .non) aNil))))))) (bNot (eTst (eFz (fCall true F_p_law_refused [] (aCons (eBin pyAdd (eVar 5) (eFz (fLst (aCons (eCst .non) aNil)))) (aCons (eCst (.int 2)) (aCons (eCst .non) aNil)))))))) (sRt (mSh (eCst (.bl false)))) sNx) (sSeq (sSet 6 (mSh (eIdx (eVar 5) (eBin pyMod (eVar 3) (eB bLen (aCons (eVar 5) aNil)))))) (sSeq (sIf (bNot (eTst (eFz (fCall true F_p_law_refused [] (aCons (eVar 5) (aCons (eBin pySub (eB bLen (aCons (eVar 5) aNil)) (eBin pyMod (eVar 3) (eB bLen (aCons (eVar 5) aNil)))) (aCons (eBin pySub (eBin pySub (eIdx (eVar 5) (eUn pyNeg (eCst (.int 1)))) (eVar 6)) (eCst (.int 1))) aNil))))))) (sRt (mSh (eCst (.bl false)))) sNx) (sSeq (sSet 7 (mSh (eBin pyAdd (eBin pyAdd (eSl (eVar 5) oNone (oSome (eBin pyAdd (eBin pyMod (eVar 3) (eB bLen (aCons (eVar 5) aNil))) (eCst (.int 1))))) (eFz (fLst (aCons (eBin pySub (eVar 6) (eCst (.int 1))) aNil)))) (eSl (eVar 5) (oSome (eBin pyAdd (eBin pyMod (eVar 3) (eB bLen (aCons (eVar 5) aNil))) (eCst (.int 1)))) oNone)))) (sRt (mSh (eFz (fCall true F_p_law_refused [] (aCons (eVar 7) (aCons (eCst (.int 1)) (aCons (eBin pyPow (eCst (.int 10)) (eCst (.int 31))) aNil)))))))))))))))))))))
def F_p_law_all_refused : List PV → R OV := defF 9 4 s_p_law_all_refused
theorem F_p_law_all_refused_at {a0 a1 a2 a3 : PV} : F_p_law_all_refused [a0, a1, a2, a3] = outS (s_p_law_all_refused [some (.sh a0), some (.sh a1), some (.sh a2), some (.sh a3), none, none, none, none, none]) := rfl
/-- law: slots 0 script, 1 heights, 2 step, 3 rise, 4 given, 5 stair, 6 far, 7 x -/
def b_law_1 : L3.Env → RS := (sIf (bNot (eTst (eFz (fCall true F_p_law_is [] (aCons (eFz (fMeth true 4 "at" F_Stair_at [] (eVar 5) (aCons (eVar 7) aNil))) (aCons (eFz (fCall true F_p_law_value [] (aCons (eVar 1) (aCons (eVar 2) (aCons (eVar 3) (aCons (eVar 7) aNil)))))) aNil)))))) (sRt (mSh (eCst (.bl false)))) sNx)
def s_law  : L3.Env → RS := (sSeq (sTg (.tp [1, 2, 3]) (eFz (fCall true F_p_law_told [] (aCons (eVar 0) (aCons (eCst (.int 0)) aNil))))) (sSeq (sSet 4 (mFr (fB bList (aCons (eVar 1) aNil)))) (sSeq (sSet 5 (mSh (eFz (fMake false 4 F_Stair_init [] (aCons (eOwn 4) (aCons (eVar 2) (aCons (eVar 3) aNil))))))) (sSeq (sIf (bOr (eTst (eBin pyNe (eOwn 4) (eVar 1))) (bNot (eTst (eFz (fCall true F_p_law_same [] (aCons (eVar 5) (aCons (eFz (fCall true F_p_law_normal [] (aCons (eVar 1) (aCons (eVar 2) (aCons (eVar 3) aNil))))) aNil))))))) (sRt (mSh (eCst (.bl false)))) sNx) (sSeq (sApp (pVar 4) (mSh (eCst (.int 0)))) (sSeq (sSt (pVar 4) (eCst (.int 0)) (mSh (eCst (.int 77)))) (sSeq (sSet 6 (mSh (eFz (fLst (aCons (eBin pyPow (eCst (.int 10)) (eCst (.int 30))) (aCons (eBin pyMod (eB bInt (aCons (eB bAbs (aCons (eFz (fCall true F_p_law_cell [] (aCons (eVar 0) (aCons (eCst (.int 3)) aNil)))) aNil)) aNil)) (eBin pyPow (eCst (.int 10)) (eCst (.int 30)))) (aCons (eBin pyMod (eB bInt (aCons (eB bAbs (aCons (eFz (fCall true F_p_law_cell [] (aCons (eVar 0) (aCons (eCst (.int 4)) aNil)))) aNil)) aNil)) (eCst (.int 1000))) aNil))))))) (sSeq (sFor (.nm 7) [7] (iSeq (eBin pyAdd (eFz (fB bLstR (aCons (eBin pyAdd (eBin pyAdd (eB bLen (aCons (eVar 1) aNil)) (eBin pyMul (eCst (.int 2)) (eVar 2))) (eCst (.int 3))) aNil))) (eVar 6))) b_law_1) (sSeq (sIf (bNot (eTst (eFz (fCall true F_p_law_below [] (aCons (eVar 5) (aCons (eBin pySub (eUn pyNeg (eCst (.int 1))) (eBin pyMod (eB bInt (aCons (eB bAbs (aCons (eFz (fCall true F_p_law_cell [] (aCons (eVar 0) (aCons (eCst (.int 5)) aNil)))) aNil)) aNil)) (eCst (.int 99)))) aNil)))))) (sRt (mSh (eCst (.bl false)))) sNx) (sSeq (sIf (bNot (eTst (eFz (fCall true F_p_law_all_refused [] (aCons (eVar 1) (aCons (eVar 2) (aCons (eVar 3) (aCons (eBin pyMod (eB bInt (aCons (eB bAbs (aCons (eFz (fCall true F_p_law_cell [] (aCons (eVar 0) (aCons (eCst (.int 6)) aNil)))) aNil)) aNil)) (eCst (.int 97))) aNil)))))))) (sRt (mSh (eCst (.bl false)))) sNx) (sRt (mSh (eAnd (eFz (fCall true F_p_law_pace [] (aCons (eVar 5) (aCons (eVar 3) (aCons (eVar 2) aNil))))) (eFz (fCall true F_p_law_limits [] (aCons (eBin pyMod (eB bInt (aCons (eB bAbs (aCons (eFz (fCall true F_p_law_cell [] (aCons (eVar 0) (aCons (eCst (.int 7)) aNil)))) aNil)) aNil)) (eCst (.int 9))) aNil))))))))))))))))
def F_law : List PV → R OV := defF 8 1 s_law
theorem F_law_at {a0 : PV} : F_law [a0] = outS (s_law [some (.sh a0), none, none, none, none, none, none, none]) := rfl
end K01

end
section

/-! The derivations, as gen.py prints them. -/
namespace K01
open PySem PySem.Spec PyProof.Rows L2 L3 He
def top (i : Nat) : Stmt := PySem.Challenge.pw_flagfalls_k01_stairs_in_normal_form.main.body.getD i (.Pass ⟨0, 0, 0, 0⟩)
def cbody (s : Stmt) : List Stmt := match s with
  | .ClassDef (body := b) .. => b
  | _ => []
def mth (i j : Nat) : Stmt := (cbody (top i)).getD j (.Pass ⟨0, 0, 0, 0⟩)
theorem S_lowest : FnScope ["p", "q", "common"] ["p", "q"] (defScope (top 11)) := ⟨rfl, rfl, rfl, by decide +kernel, rfl, by decide +kernel, by decide +kernel⟩
theorem S_check_heights : FnScope ["heights", "step", "rise", "last", "height", "first"] ["heights", "step", "rise"] (defScope (top 14)) := ⟨rfl, rfl, rfl, by decide +kernel, rfl, by decide +kernel, by decide +kernel⟩
theorem S_least_step : FnScope ["heights", "step", "rise", "start", "part", "part_rise", "k"] ["heights", "step", "rise"] (defScope (top 15)) := ⟨rfl, rfl, rfl, by decide +kernel, rfl, by decide +kernel, by decide +kernel⟩
theorem S_normal_form : FnScope ["heights", "step", "rise", "part", "part_rise", "start"] ["heights", "step", "rise"] (defScope (top 16)) := ⟨rfl, rfl, rfl, by decide +kernel, rfl, by decide +kernel, by decide +kernel⟩
theorem S_Stair_init : FnScope ["self", "heights", "step", "rise", "given", "told", "part", "part_rise"] ["self", "heights", "step", "rise"] (defScope (mth 17 0)) := ⟨rfl, rfl, rfl, by decide +kernel, rfl, by decide +kernel, by decide +kernel⟩
theorem S_Stair_at : FnScope ["self", "amount", "turns"] ["self", "amount"] (defScope (mth 17 1)) := ⟨rfl, rfl, rfl, by decide +kernel, rfl, by decide +kernel, by decide +kernel⟩
theorem S_Stair_pace : FnScope ["self"] ["self"] (defScope (mth 17 2)) := ⟨rfl, rfl, rfl, by decide +kernel, rfl, by decide +kernel, by decide +kernel⟩
theorem S_p_law_cell : FnScope ["script", "k"] ["script", "k"] (defScope (top 27)) := ⟨rfl, rfl, rfl, by decide +kernel, rfl, by decide +kernel, by decide +kernel⟩
theorem S_p_law_numbers : FnScope ["cell", "salt", "count", "many", "numbers", "rest", "great", "k", "mixed"] ["cell", "salt", "count", "many"] (defScope (top 28)) := ⟨rfl, rfl, rfl, by decide +kernel, rfl, by decide +kernel, by decide +kernel⟩
theorem S_p_law_is : FnScope ["actual", "expected"] ["actual", "expected"] (defScope (top 29)) := ⟨rfl, rfl, rfl, by decide +kernel, rfl, by decide +kernel, by decide +kernel⟩
theorem S_p_law_value : FnScope ["heights", "step", "rise", "x", "start", "turns"] ["heights", "step", "rise", "x"] (defScope (top 30)) := ⟨rfl, rfl, rfl, by decide +kernel, rfl, by decide +kernel, by decide +kernel⟩
theorem S_p_law_normal : FnScope ["heights", "step", "rise", "k", "part", "up", "start", "x"] ["heights", "step", "rise"] (defScope (top 31)) := ⟨rfl, rfl, rfl, by decide +kernel, rfl, by decide +kernel, by decide +kernel⟩
theorem S_p_law_same : FnScope ["stair", "due", "told", "k"] ["stair", "due"] (defScope (top 32)) := ⟨rfl, rfl, rfl, by decide +kernel, rfl, by decide +kernel, by decide +kernel⟩
theorem S_p_law_told : FnScope ["script", "salt", "n", "start", "step", "scale", "heights", "height", "up", "count", "rise", "wide", "size", "x"] ["script", "salt"] (defScope (top 33)) := ⟨rfl, rfl, rfl, by decide +kernel, rfl, by decide +kernel, by decide +kernel⟩
theorem S_p_law_refused : FnScope ["heights", "step", "rise", "e"] ["heights", "step", "rise"] (defScope (top 34)) := ⟨rfl, rfl, rfl, by decide +kernel, rfl, by decide +kernel, by decide +kernel⟩
theorem S_p_law_all_refused : FnScope ["heights", "step", "rise", "place", "low", "plain", "first", "fallen", "k"] ["heights", "step", "rise", "place"] (defScope (top 35)) := ⟨rfl, rfl, rfl, by decide +kernel, rfl, by decide +kernel, by decide +kernel⟩
theorem S_p_law_pace : FnScope ["stair", "rise", "step", "told", "a", "b", "k", "c"] ["stair", "rise", "step"] (defScope (top 36)) := ⟨rfl, rfl, rfl, by decide +kernel, rfl, by decide +kernel, by decide +kernel⟩
theorem S_p_law_limits : FnScope ["size", "e"] ["size"] (defScope (top 37)) := ⟨rfl, rfl, rfl, by decide +kernel, rfl, by decide +kernel, by decide +kernel⟩
theorem S_p_law_below : FnScope ["stair", "amount", "e"] ["stair", "amount"] (defScope (top 38)) := ⟨rfl, rfl, rfl, by decide +kernel, rfl, by decide +kernel, by decide +kernel⟩
theorem S_law : FnScope ["script", "heights", "step", "rise", "given", "stair", "far", "x"] ["script"] (defScope (top 39)) := ⟨rfl, rfl, rfl, by decide +kernel, rfl, by decide +kernel, by decide +kernel⟩
/-- what is known of the head; ad, fd: the functions; cv, cu: the constants -/
structure Fx (P : Program) (Γ : Gc) (mg : Str → Option Value) (ad : Nat → Addr) (fd : Nat → FuncData) (dv : Nat → List V) (cv : Nat → V) (cu : Nat → Value) (fI : Nat → Addr) : Prop where
  gl_len : mg "len" = none
  gl_abs : mg "abs" = none
  gl_int : mg "int" = none
  gl_max : mg "max" = none
  gl_min : mg "min" = none
  gl_sum : mg "sum" = none
  gl_all : mg "all" = none
  gl_any : mg "any" = none
  gl_tuple : mg "tuple" = none
  gl_list : mg "list" = none
  gl_range : mg "range" = none
  gl_isinstance : mg "isinstance" = none
  gl_str : mg "str" = none
  gl_bool : mg "bool" = none
  gl_sorted : mg "sorted" = none
  GB_gcd : mg "gcd" = some (.builtin "math.gcd")
  F_lowest : FunD Γ.K "lowest" "lowest" (defArgs (top 11)) (defBody (top 11)) (defScope (top 11)) (dv 0) [] (ad 0) (fd 0)
  B0_lowest : Vals [] [] ∧ Binds Γ.K (fd 0) ["p", "q"] []
  G_lowest : mg "lowest" = some (.ref (ad 0))
  F_check_heights : FunD Γ.K "check_heights" "check_heights" (defArgs (top 14)) (defBody (top 14)) (defScope (top 14)) (dv 1) [] (ad 1) (fd 1)
  B0_check_heights : Vals [] [] ∧ Binds Γ.K (fd 1) ["heights", "step", "rise"] []
  G_check_heights : mg "check_heights" = some (.ref (ad 1))
  F_least_step : FunD Γ.K "least_step" "least_step" (defArgs (top 15)) (defBody (top 15)) (defScope (top 15)) (dv 2) [] (ad 2) (fd 2)
  B0_least_step : Vals [] [] ∧ Binds Γ.K (fd 2) ["heights", "step", "rise"] []
  G_least_step : mg "least_step" = some (.ref (ad 2))
  F_normal_form : FunD Γ.K "normal_form" "normal_form" (defArgs (top 16)) (defBody (top 16)) (defScope (top 16)) (dv 3) [] (ad 3) (fd 3)
  B0_normal_form : Vals [] [] ∧ Binds Γ.K (fd 3) ["heights", "step", "rise"] []
  G_normal_form : mg "normal_form" = some (.ref (ad 3))
  F_Stair_init : FunD Γ.K "__init__" "Stair.__init__" (defArgs (mth 17 0)) (defBody (mth 17 0)) (defScope (mth 17 0)) (dv 4) [] (ad 4) (fd 4)
  B0_Stair_init : Vals [] [] ∧ Binds Γ.K (fd 4) ["self", "heights", "step", "rise"] []
  F_Stair_at : FunD Γ.K "at" "Stair.at" (defArgs (mth 17 1)) (defBody (mth 17 1)) (defScope (mth 17 1)) (dv 5) [] (ad 5) (fd 5)
  B0_Stair_at : Vals [] [] ∧ Binds Γ.K (fd 5) ["self", "amount"] []
  MT_Stair_at : Meth Γ.K (Γ.CA 4) "at" (ad 5)
  F_Stair_pace : FunD Γ.K "pace" "Stair.pace" (defArgs (mth 17 2)) (defBody (mth 17 2)) (defScope (mth 17 2)) (dv 6) [] (ad 6) (fd 6)
  B0_Stair_pace : Vals [] [] ∧ Binds Γ.K (fd 6) ["self"] []
  MT_Stair_pace : Meth Γ.K (Γ.CA 4) "pace" (ad 6)
  F_p_law_cell : FunD Γ.K "_law_cell" "_law_cell" (defArgs (top 27)) (defBody (top 27)) (defScope (top 27)) (dv 7) [] (ad 7) (fd 7)
  B0_p_law_cell : Vals [] [] ∧ Binds Γ.K (fd 7) ["script", "k"] []
  G_p_law_cell : mg "_law_cell" = some (.ref (ad 7))
  F_p_law_numbers : FunD Γ.K "_law_numbers" "_law_numbers" (defArgs (top 28)) (defBody (top 28)) (defScope (top 28)) (dv 8) [] (ad 8) (fd 8)
  B0_p_law_numbers : Vals [] [] ∧ Binds Γ.K (fd 8) ["cell", "salt", "count", "many"] []
  G_p_law_numbers : mg "_law_numbers" = some (.ref (ad 8))
  F_p_law_is : FunD Γ.K "_law_is" "_law_is" (defArgs (top 29)) (defBody (top 29)) (defScope (top 29)) (dv 9) [] (ad 9) (fd 9)
  B0_p_law_is : Vals [] [] ∧ Binds Γ.K (fd 9) ["actual", "expected"] []
  G_p_law_is : mg "_law_is" = some (.ref (ad 9))
  F_p_law_value : FunD Γ.K "_law_value" "_law_value" (defArgs (top 30)) (defBody (top 30)) (defScope (top 30)) (dv 10) [] (ad 10) (fd 10)
  B0_p_law_value : Vals [] [] ∧ Binds Γ.K (fd 10) ["heights", "step", "rise", "x"] []
  G_p_law_value : mg "_law_value" = some (.ref (ad 10))
  F_p_law_normal : FunD Γ.K "_law_normal" "_law_normal" (defArgs (top 31)) (defBody (top 31)) (defScope (top 31)) (dv 11) [] (ad 11) (fd 11)
  B0_p_law_normal : Vals [] [] ∧ Binds Γ.K (fd 11) ["heights", "step", "rise"] []
  G_p_law_normal : mg "_law_normal" = some (.ref (ad 11))
  F_p_law_same : FunD Γ.K "_law_same" "_law_same" (defArgs (top 32)) (defBody (top 32)) (defScope (top 32)) (dv 12) [] (ad 12) (fd 12)
  B0_p_law_same : Vals [] [] ∧ Binds Γ.K (fd 12) ["stair", "due"] []
  G_p_law_same : mg "_law_same" = some (.ref (ad 12))
  F_p_law_told : FunD Γ.K "_law_told" "_law_told" (defArgs (top 33)) (defBody (top 33)) (defScope (top 33)) (dv 13) [] (ad 13) (fd 13)
  B0_p_law_told : Vals [] [] ∧ Binds Γ.K (fd 13) ["script", "salt"] []
  G_p_law_told : mg "_law_told" = some (.ref (ad 13))
  F_p_law_refused : FunD Γ.K "_law_refused" "_law_refused" (defArgs (top 34)) (defBody (top 34)) (defScope (top 34)) (dv 14) [] (ad 14) (fd 14)
  B0_p_law_refused : Vals [] [] ∧ Binds Γ.K (fd 14) ["heights", "step", "rise"] []
  G_p_law_refused : mg "_law_refused" = some (.ref (ad 14))
  F_p_law_all_refused : FunD Γ.K "_law_all_refused" "_law_all_refused" (defArgs (top 35)) (defBody (top 35)) (defScope (top 35)) (dv 15) [] (ad 15) (fd 15)
  B0_p_law_all_refused : Vals [] [] ∧ Binds Γ.K (fd 15) ["heights", "step", "rise", "place"] []
  G_p_law_all_refused : mg "_law_all_refused" = some (.ref (ad 15))
  F_p_law_pace : FunD Γ.K "_law_pace" "_law_pace" (defArgs (top 36)) (defBody (top 36)) (defScope (top 36)) (dv 16) [] (ad 16) (fd 16)
  B0_p_law_pace : Vals [] [] ∧ Binds Γ.K (fd 16) ["stair", "rise", "step"] []
  G_p_law_pace : mg "_law_pace" = some (.ref (ad 16))
  F_p_law_limits : FunD Γ.K "_law_limits" "_law_limits" (defArgs (top 37)) (defBody (top 37)) (defScope (top 37)) (dv 17) [] (ad 17) (fd 17)
  B0_p_law_limits : Vals [] [] ∧ Binds Γ.K (fd 17) ["size"] []
  G_p_law_limits : mg "_law_limits" = some (.ref (ad 17))
  F_p_law_below : FunD Γ.K "_law_below" "_law_below" (defArgs (top 38)) (defBody (top 38)) (defScope (top 38)) (dv 18) [] (ad 18) (fd 18)
  B0_p_law_below : Vals [] [] ∧ Binds Γ.K (fd 18) ["stair", "amount"] []
  G_p_law_below : mg "_law_below" = some (.ref (ad 18))
  F_law : FunD Γ.K "law" "law" (defArgs (top 39)) (defBody (top 39)) (defScope (top 39)) (dv 19) [] (ad 19) (fd 19)
  B0_law : Vals [] [] ∧ Binds Γ.K (fd 19) ["script"] []
  G_law : mg "law" = some (.ref (ad 19))
  G_Fault : mg "Fault" = some (.ref (Γ.CA 0))
  G_BadAmount : mg "BadAmount" = some (.ref (Γ.CA 1))
  SU_BadAmount : X3.SupC P Γ.K (Γ.CA 1) (fI 1) "amount"
  KP_BadAmount : PySem.W.keepIn Γ.K (.ref (Γ.CA 1)) = true
  RS_BadAmount : ∀ X : Cx, X.K = Γ.K → Raises X (.ref (Γ.CA 1))
  G_TooMany : mg "TooMany" = some (.ref (Γ.CA 2))
  SU_TooMany : X3.SupC P Γ.K (Γ.CA 2) (fI 2) "limit"
  KP_TooMany : PySem.W.keepIn Γ.K (.ref (Γ.CA 2)) = true
  RS_TooMany : ∀ X : Cx, X.K = Γ.K → Raises X (.ref (Γ.CA 2))
  G_BadStair : mg "BadStair" = some (.ref (Γ.CA 3))
  EX_BadStair : PySem.W.excIn Γ.K (Γ.CA 3) veBase "ValueError.__new__" = true
  KP_BadStair : PySem.W.keepIn Γ.K (.ref (Γ.CA 3)) = true
  RS_BadStair : ∀ X : Cx, X.K = Γ.K → Raises X (.ref (Γ.CA 3))
  G_Stair : mg "Stair" = some (.ref (Γ.CA 4))
  C_Stair : Cls Γ.K (Γ.CA 4)
  M_Stair : Mk Γ.K (Γ.CA 4) (ad 4)
  FL_heights : ∀ c, ok_heights c = true → Cls Γ.K (Γ.CA c) ∧ NoAttr Γ.K (Γ.CA c) "heights"
  FL_rise : ∀ c, ok_rise c = true → Cls Γ.K (Γ.CA c) ∧ NoAttr Γ.K (Γ.CA c) "rise"
  FL_start : ∀ c, ok_start c = true → Cls Γ.K (Γ.CA c) ∧ NoAttr Γ.K (Γ.CA c) "start"
  FL_step : ∀ c, ok_step c = true → Cls Γ.K (Γ.CA c) ∧ NoAttr Γ.K (Γ.CA c) "step"
  XF_amount : ∀ c, okx_amount c = true → XfC Γ.K (Γ.CA c) ∧ PySem.W.findIn Γ.K (.ref (Γ.CA c)) "amount" = some none
  XF_limit : ∀ c, okx_limit c = true → XfC Γ.K (Γ.CA c) ∧ PySem.W.findIn Γ.K (.ref (Γ.CA c)) "limit" = some none
  MTX_BadAmount : ∀ c b, mt_BadAmount c = some b → PySem.W.exmOne Γ.K (.ref (Γ.CA c)) (.ref (Γ.CA 1)) = some b
  MTX_BadStair : ∀ c b, mt_BadStair c = some b → PySem.W.exmOne Γ.K (.ref (Γ.CA c)) (.ref (Γ.CA 3)) = some b
  MTX_TooMany : ∀ c b, mt_TooMany c = some b → PySem.W.exmOne Γ.K (.ref (Γ.CA c)) (.ref (Γ.CA 2)) = some b
  XI_BadAmount : ∀ c b, ib_BadAmount c = some b → X3.ExI Γ.K (Γ.CA c) ∧ PySem.W.kitOne Γ.K (.ref (Γ.CA c)) (.ref (Γ.CA 1)) = some b
  XI_BadStair : ∀ c b, ib_BadStair c = some b → X3.ExI Γ.K (Γ.CA c) ∧ PySem.W.kitOne Γ.K (.ref (Γ.CA c)) (.ref (Γ.CA 3)) = some b
  XI_Fault : ∀ c b, ib_Fault c = some b → X3.ExI Γ.K (Γ.CA c) ∧ PySem.W.kitOne Γ.K (.ref (Γ.CA c)) (.ref (Γ.CA 0)) = some b
  XI_TooMany : ∀ c b, ib_TooMany c = some b → X3.ExI Γ.K (Γ.CA c) ∧ PySem.W.kitOne Γ.K (.ref (Γ.CA c)) (.ref (Γ.CA 2)) = some b
  G_MOST_HEIGHTS : mg "MOST_HEIGHTS" = some (cu 0) ∧ RelV (cv 0) (cu 0)
  R_MOST_HEIGHTS : ∀ H, Rep Γ H (.int 600) (cv 0)
section
variable {P : Program} {w : World} {Γ : Gc} {mg : Str → Option Value} {base : Heap} {ad : Nat → Addr} {fd : Nat → FuncData} {dv : Nat → List V} {cv : Nat → V} {cu : Nat → Value} {fI : Nat → Addr}
theorem ok_lowest (fx : Fx P Γ mg ad fd dv cv cu fI) : FnOk P w Γ.K mg base (L2N.CX P w) 1 (ad 0) (fd 0) ["p", "q"] (spP Γ F_lowest) := by
  refine qDef fx.F_lowest S_lowest rfl rfl fun cdv A outer s H E C hG hfx hr tk hp => ?_
  obtain ⟨G, He, Hz, fx0, Hx⟩ := C
  dsimp only at hG hfx
  subst hG hfx
  have hu := L3.hu_of hr
  have hrH := L2H.roomH_of hr
  have hdep := L3.dep_of hr
  unfold s_lowest
  exact qCons (qSet (i := 2) fxo_none S_lowest.nd (qmSh (qGcd fx.GB_gcd (qaCons (qVar 0) (qaCons (qVar 1) qaNil))))) (qLast (qRt (qmSh (qTup (qaCons (qFdiv (qVar 0) (qVar 2)) (qaCons (qFdiv (qVar 1) (qVar 2)) qaNil))))))
theorem ok_check_heights (fx : Fx P Γ mg ad fd dv cv cu fI) : FnOk P w Γ.K mg base (L2N.CX P w) 1 (ad 1) (fd 1) ["heights", "step", "rise"] (spP Γ F_check_heights) := by
  refine qDef fx.F_check_heights S_check_heights rfl rfl fun cdv A outer s H E C hG hfx hr tk hp => ?_
  obtain ⟨G, He, Hz, fx0, Hx⟩ := C
  dsimp only at hG hfx
  subst hG hfx
  have hu := L3.hu_of hr
  have hrH := L2H.roomH_of hr
  have hdep := L3.dep_of hr
  unfold s_check_heights
  exact qCons (qIfS (qt_w (qw_or (tLt (m := true)  (qVar 1) (qInt)) (qw_or1 (tLt (m := true)  (qLen rfl fx.gl_len (qaCons (qVar 0) qaNil)) (qVar 1))))) (qLast (qRzP (c := 3) rfl tk PySem.F.excBase_ValueError fx.EX_BadStair fx.G_BadStair fx.KP_BadStair (fx.RS_BadStair _ rfl))) (qNil)) (qCons (qSet (i := 3) fxo_none S_check_heights.nd (qmSh (qInt))) (qCons (qFor (T := (.nm 4)) [4] hp rfl (qiSeq rfl (qVar 0)) (fun _ => qgName (i := 4) fxo_none S_check_heights.nd) (fun _ => qCons (qIfS (qt_w (qw_and (tIsN (m := true) (qVar 3)) (qw_and1 (tNotN (m := true) (qVar 4))))) (qLast (qRzP (c := 3) rfl tk PySem.F.excBase_ValueError fx.EX_BadStair fx.G_BadStair fx.KP_BadStair (fx.RS_BadStair _ rfl))) (qNil)) (qCons (qIfS (qt_w (qw_and (tNotN (m := true) (qVar 3)) (qw_and (tNotN (m := true) (qVar 4)) (qw_and1 (tLt (m := true)  (qVar 4) (qVar 3)))))) (qLast (qRzP (c := 3) rfl tk PySem.F.excBase_ValueError fx.EX_BadStair fx.G_BadStair fx.KP_BadStair (fx.RS_BadStair _ rfl))) (qNil)) (qLast (qSet (i := 3) fxo_none S_check_heights.nd (qmSh (qVar 4))))))) (qCons (qSet (i := 5) fxo_none S_check_heights.nd (qmSh (qIdx rfl (qVar 0) (qSub (qLen rfl fx.gl_len (qaCons (qVar 0) qaNil)) (qVar 1))))) (qCons (qIfS (qt_w (qw_and (tIsN (m := true) (qVar 2)) (qw_and1 (tNotN (m := true) (qVar 5))))) (qLast (qRzP (c := 3) rfl tk PySem.F.excBase_ValueError fx.EX_BadStair fx.G_BadStair fx.KP_BadStair (fx.RS_BadStair _ rfl))) (qNil)) (qLast (qIfS (qt_w (qw_and (tNotN (m := true) (qVar 2)) (qw_and1 (qt_w (qw_or (tIsN (m := true) (qVar 3)) (qw_or1 (tGt (m := true)  (qVar 3) (qAdd rfl (qVar 5) (qVar 2))))))))) (qLast (qRzP (c := 3) rfl tk PySem.F.excBase_ValueError fx.EX_BadStair fx.G_BadStair fx.KP_BadStair (fx.RS_BadStair _ rfl))) (qNil)))))))
theorem ok_least_step (fx : Fx P Γ mg ad fd dv cv cu fI) : FnOk P w Γ.K mg base (L2N.CX P w) 1 (ad 2) (fd 2) ["heights", "step", "rise"] (spP Γ F_least_step) := by
  refine qDef fx.F_least_step S_least_step rfl rfl fun cdv A outer s H E C hG hfx hr tk hp => ?_
  obtain ⟨G, He, Hz, fx0, Hx⟩ := C
  dsimp only at hG hfx
  subst hG hfx
  have hu := L3.hu_of hr
  have hrH := L2H.roomH_of hr
  have hdep := L3.dep_of hr
  unfold s_least_step
  exact qCons (qSet (i := 3) fxo_none S_least_step.nd (qmSh (qSub (qLen rfl fx.gl_len (qaCons (qVar 0) qaNil)) (qVar 1)))) (qCons (qFor (T := (.nm 4)) [4, 5] hp rfl (qiRng2 fx.gl_range (qaCons (qInt) (qaCons (qVar 1) qaNil))) (fun _ => qgName (i := 4) fxo_none S_least_step.nd) (fun _ => qLast (qIfS (qt_w (qw_and (tEq (m := true) rfl hu (qMod (qVar 1) (qVar 4)) (qInt)) (qw_and1 (tEq (m := true) rfl hu (qMod (qMul (qVar 2) (qVar 4)) (qVar 1)) (qInt))))) (qCons (qSet (i := 5) fxo_none S_least_step.nd (qmSh (qFdiv (qMul (qVar 2) (qVar 4)) (qVar 1)))) (qLast (qIfS (qtVal (m := true) (qAll rfl rfl fx.gl_all (qaCons (qFz ((qLc (T := .nm 6) rfl S_least_step.nd (qiRng2 fx.gl_range (qaCons (qVar 3) (qaCons (qSub (qAdd rfl (qVar 3) (qVar 1)) (qVar 4)) qaNil))) (own := [("k", 6)]) (blkOk_by rfl) (by decide) fxs_none (lcName (i := 6) fxo_none S_least_step.nd rfl (fun _ _ => rfl)) (fun _ _ _ _ _ => qtsNil) (fun _ _ _ _ _ => qSh (qEq rfl hu (qIdx rfl (qVar 0) (qAdd rfl (qVar 6) (qVar 4))) (qAdd rfl (qIdx rfl (qVar 0) (qVar 6)) (qVar 5))))))) qaNil))) (qLast (qRt (qmSh (qVar 4)))) (qNil)))) (qNil)))) (qLast (qRt (qmSh (qVar 1)))))
theorem ok_Stair_at (fx : Fx P Γ mg ad fd dv cv cu fI) : FnOk P w Γ.K mg base (L2N.CX P w) 1 (ad 5) (fd 5) ["self", "amount"] (spP Γ F_Stair_at) := by
  refine qDef fx.F_Stair_at S_Stair_at rfl rfl fun cdv A outer s H E C hG hfx hr tk hp => ?_
  obtain ⟨G, He, Hz, fx0, Hx⟩ := C
  dsimp only at hG hfx
  subst hG hfx
  have hu := L3.hu_of hr
  have hrH := L2H.roomH_of hr
  have hdep := L3.dep_of hr
  unfold s_Stair_at
  exact qCons (qIfS (tLt (m := true)  (qVar 1) (qInt)) (qLast (qRz (c := 1) rfl tk fx.SU_BadAmount fx.G_BadAmount fx.KP_BadAmount (fx.RS_BadAmount _ rfl) hdep (qVar 1))) (qNil)) (qCons (qIfS (tLt (m := true)  (qVar 1) (qLen rfl fx.gl_len (qaCons (qFld (ok := ok_heights) rfl fx.FL_heights (qVar 0)) qaNil))) (qLast (qRt (qmSh (qIdx rfl (qFld (ok := ok_heights) rfl fx.FL_heights (qVar 0)) (qVar 1))))) (qNil)) (qCons (qIfS (tIsN (m := true) (qFld (ok := ok_rise) rfl fx.FL_rise (qVar 0))) (qLast (qRt (qmSh (qNon)))) (qNil)) (qCons (qSet (i := 2) fxo_none S_Stair_at.nd (qmSh (qFdiv (qSub (qVar 1) (qFld (ok := ok_start) rfl fx.FL_start (qVar 0))) (qFld (ok := ok_step) rfl fx.FL_step (qVar 0))))) (qLast (qRt (qmSh (qAdd rfl (qIdx rfl (qFld (ok := ok_heights) rfl fx.FL_heights (qVar 0)) (qSub (qVar 1) (qMul (qVar 2) (qFld (ok := ok_step) rfl fx.FL_step (qVar 0))))) (qMul (qVar 2) (qFld (ok := ok_rise) rfl fx.FL_rise (qVar 0))))))))))
theorem ok_p_law_cell (fx : Fx P Γ mg ad fd dv cv cu fI) : FnOk P w Γ.K mg base (L2N.CX P w) 1 (ad 7) (fd 7) ["script", "k"] (spP Γ F_p_law_cell) := by
  refine qDef fx.F_p_law_cell S_p_law_cell rfl rfl fun cdv A outer s H E C hG hfx hr tk hp => ?_
  obtain ⟨G, He, Hz, fx0, Hx⟩ := C
  dsimp only at hG hfx
  subst hG hfx
  have hu := L3.hu_of hr
  have hrH := L2H.roomH_of hr
  have hdep := L3.dep_of hr
  unfold s_p_law_cell
  exact qCons (qIfS (tLt (m := true)  (qVar 1) (qLen rfl fx.gl_len (qaCons (qVar 0) qaNil))) (qLast (qRt (qmSh (qIdx rfl (qVar 0) (qVar 1))))) (qNil)) (qLast (qRt (qmSh (qInt))))
theorem ok_p_law_numbers (fx : Fx P Γ mg ad fd dv cv cu fI) : FnOk P w Γ.K mg base (L2N.CX P w) 1 (ad 8) (fd 8) ["cell", "salt", "count", "many"] (spP Γ F_p_law_numbers) := by
  refine qDef fx.F_p_law_numbers S_p_law_numbers rfl rfl fun cdv A outer s H E C hG hfx hr tk hp => ?_
  obtain ⟨G, He, Hz, fx0, Hx⟩ := C
  dsimp only at hG hfx
  subst hG hfx
  have hu := L3.hu_of hr
  have hrH := L2H.roomH_of hr
  have hdep := L3.dep_of hr
  unfold s_p_law_numbers
  exact qCons (qSet (i := 4) fxo_none S_p_law_numbers.nd (qmFr (qLst qaNil))) (qCons (qSet (i := 5) fxo_none S_p_law_numbers.nd (qmSh (qAbs fx.gl_abs (qaCons (qVar 0) qaNil)))) (qCons (qSet (i := 6) fxo_none S_p_law_numbers.nd (qmSh (qGe  (qVar 5) (qPow (qInt) (qInt))))) (qCons (qFor (T := (.nm 7)) [7, 8] hp rfl (qiRng1 fx.gl_range (qaCons (qVar 2) qaNil)) (fun _ => qgName (i := 7) fxo_none S_p_law_numbers.nd) (fun _ => qLast (qIfS (qt_w (qw_and (qtVal (m := true) (qVar 6)) (qw_and1 (tGt (m := true)  (qVar 5) (qInt))))) (qCons (qApp (qpVar 4) (qmSh (qMod (qIntB fx.gl_int (qaCons (qVar 5) qaNil)) (qVar 3)))) (qLast (qSet (i := 5) fxo_none S_p_law_numbers.nd (qmSh (qFdiv (qVar 5) (qVar 3)))))) (qCons (qSet (i := 8) fxo_none S_p_law_numbers.nd (qmSh (qMod (qIntB fx.gl_int (qaCons (qAdd rfl (qAdd rfl (qAdd rfl (qAbs fx.gl_abs (qaCons (qVar 0) qaNil)) (qMul (qVar 1) (qInt))) (qMul (qVar 7) (qInt))) (qInt)) qaNil)) (qInt)))) (qCons (qSet (i := 8) fxo_none S_p_law_numbers.nd (qmSh (qMod (qIntB fx.gl_int (qaCons (qAdd rfl (qMul (qVar 8) (qInt)) (qInt)) qaNil)) (qInt)))) (qCons (qSet (i := 8) fxo_none S_p_law_numbers.nd (qmSh (qMod (qIntB fx.gl_int (qaCons (qAdd rfl (qAdd rfl (qMul (qVar 8) (qVar 8)) (qMul (qVar 8) (qInt))) (qMul (qVar 7) (qInt))) qaNil)) (qInt)))) (qLast (qApp (qpVar 4) (qmSh (qMod (qIntB fx.gl_int (qaCons (qFdiv (qVar 8) (qInt)) qaNil)) (qVar 3))))))))))) (qLast (qRt (qmMv 4))))))
theorem ok_p_law_is (fx : Fx P Γ mg ad fd dv cv cu fI) : FnOk P w Γ.K mg base (L2N.CX P w) 1 (ad 9) (fd 9) ["actual", "expected"] (spP Γ F_p_law_is) := by
  refine qDef fx.F_p_law_is S_p_law_is rfl rfl fun cdv A outer s H E C hG hfx hr tk hp => ?_
  obtain ⟨G, He, Hz, fx0, Hx⟩ := C
  dsimp only at hG hfx
  subst hG hfx
  have hu := L3.hu_of hr
  have hrH := L2H.roomH_of hr
  have hdep := L3.dep_of hr
  unfold s_p_law_is
  exact qCons (qIfS (tIsN (m := true) (qVar 1)) (qLast (qRt (qmSh (qIsN (qVar 0))))) (qNil)) (qLast (qRt (qmSh (qAnd (qIsiT (tb := tbT "int") (ib := ibN) rfl fx.gl_isinstance fx.gl_int bt_int tbT_ok ibN_ok (qVar 0)) (qAnd (qNot (qIsiT (tb := tbT "bool") (ib := ibN) rfl fx.gl_isinstance fx.gl_bool bt_bool tbT_ok ibN_ok (qVar 0))) (qOne (qEq rfl hu (qVar 0) (qVar 1))))))))
theorem okH_p_law_is (fx : Fx P Γ mg ad fd dv cv cu fI) : L2H.FnH P w Γ.K mg base (L2N.CX P w) 1 (ad 9) (fd 9) ["actual", "expected"] (spP Γ F_p_law_is) := by
  refine qDefH fx.F_p_law_is S_p_law_is rfl rfl fun cdv A outer s H E q0 C hG hfx hot hrH tk => ?_
  obtain ⟨G, He, Hz, fx0, Hx⟩ := C
  dsimp only at hG hfx
  subst hG hfx
  have hu := L3.huH_of hrH
  unfold s_p_law_is
  exact qCons (qIfS (tIsN (m := true) (qVar 1)) (qLast (qRt (qmSh (qIsN (qVar 0))))) (qNil)) (qLast (qRt (qmSh (qAnd (qIsiT (tb := tbT "int") (ib := ibN) rfl fx.gl_isinstance fx.gl_int bt_int tbT_ok ibN_ok (qVar 0)) (qAnd (qNot (qIsiT (tb := tbT "bool") (ib := ibN) rfl fx.gl_isinstance fx.gl_bool bt_bool tbT_ok ibN_ok (qVar 0))) (qOne (qEq rfl hu (qVar 0) (qVar 1))))))))
theorem ok_p_law_value (fx : Fx P Γ mg ad fd dv cv cu fI) : FnOk P w Γ.K mg base (L2N.CX P w) 1 (ad 10) (fd 10) ["heights", "step", "rise", "x"] (spP Γ F_p_law_value) := by
  refine qDef fx.F_p_law_value S_p_law_value rfl rfl fun cdv A outer s H E C hG hfx hr tk hp => ?_
  obtain ⟨G, He, Hz, fx0, Hx⟩ := C
  dsimp only at hG hfx
  subst hG hfx
  have hu := L3.hu_of hr
  have hrH := L2H.roomH_of hr
  have hdep := L3.dep_of hr
  unfold s_p_law_value
  exact qCons (qIfS (tLt (m := true)  (qVar 3) (qLen rfl fx.gl_len (qaCons (qVar 0) qaNil))) (qLast (qRt (qmSh (qIdx rfl (qVar 0) (qVar 3))))) (qNil)) (qCons (qIfS (tIsN (m := true) (qVar 2)) (qLast (qRt (qmSh (qNon)))) (qNil)) (qCons (qSet (i := 4) fxo_none S_p_law_value.nd (qmSh (qSub (qLen rfl fx.gl_len (qaCons (qVar 0) qaNil)) (qVar 1)))) (qCons (qSet (i := 5) fxo_none S_p_law_value.nd (qmSh (qFdiv (qSub (qVar 3) (qVar 4)) (qVar 1)))) (qLast (qRt (qmSh (qAdd rfl (qIdx rfl (qVar 0) (qAdd rfl (qVar 4) (qMod (qIntB fx.gl_int (qaCons (qSub (qVar 3) (qVar 4)) qaNil)) (qVar 1)))) (qMul (qVar 5) (qVar 2)))))))))
theorem ok_normal_form (fx : Fx P Γ mg ad fd dv cv cu fI) (k_least_step : FnOk P w Γ.K mg base (L2N.CX P w) 1 (ad 2) (fd 2) ["heights", "step", "rise"] (spP Γ F_least_step)) : FnOk P w Γ.K mg base (L2N.CX P w) 2 (ad 3) (fd 3) ["heights", "step", "rise"] (spP Γ F_normal_form) := by
  refine qDef fx.F_normal_form S_normal_form rfl rfl fun cdv A outer s H E C hG hfx hr tk hp => ?_
  obtain ⟨G, He, Hz, fx0, Hx⟩ := C
  dsimp only at hG hfx
  subst hG hfx
  have hu := L3.hu_of hr
  have hrH := L2H.roomH_of hr
  have hdep := L3.dep_of hr
  unfold s_normal_form
  exact qCons (qIfS (tIsN (m := true) (qVar 2)) (qLast (qRt (qmSh (qTup (qaCons (qSl rfl (qVar 0) qoNone (qoSome (qAdd rfl (qIndex rfl (qVar 0) (qaCons (qNon) qaNil)) (qInt)))) (qaCons (qInt) (qaCons (qNon) qaNil))))))) (qNil)) (qCons (qSet (i := 3) fxo_none S_normal_form.nd (qmSh (qFz ((qCall k_least_step (hr.mono (by decide)) tk fx.G_least_step fx.F_least_step.kp fx.B0_least_step.2 fx.B0_least_step.1 (fun _ => Reps.nil) (qaCons (qVar 0) (qaCons (qVar 1) (qaCons (qVar 2) qaNil)))))))) (qCons (qSet (i := 4) fxo_none S_normal_form.nd (qmSh (qFdiv (qMul (qVar 2) (qVar 3)) (qVar 1)))) (qCons (qSet (i := 5) fxo_none S_normal_form.nd (qmSh (qSub (qLen rfl fx.gl_len (qaCons (qVar 0) qaNil)) (qVar 1)))) (qCons (qWhile fuel_normal_form [] hp (qt_w (qw_and (tGt (m := true)  (qVar 5) (qInt)) (qw_and1 (tEq (m := true) rfl hu (qAdd rfl (qIdx rfl (qVar 0) (qSub (qVar 5) (qInt))) (qVar 4)) (qIdx rfl (qVar 0) (qAdd rfl (qSub (qVar 5) (qInt)) (qVar 3))))))) (qLast (qAugSub (i := 5) (m := true) fxo_none S_normal_form.nd (qInt)))) (qLast (qRt (qmSh (qTup (qaCons (qSl rfl (qVar 0) qoNone (qoSome (qAdd rfl (qVar 5) (qVar 3)))) (qaCons (qVar 3) (qaCons (qVar 4) qaNil)))))))))))
theorem ok_Stair_pace (fx : Fx P Γ mg ad fd dv cv cu fI) (k_lowest : FnOk P w Γ.K mg base (L2N.CX P w) 1 (ad 0) (fd 0) ["p", "q"] (spP Γ F_lowest)) : FnOk P w Γ.K mg base (L2N.CX P w) 2 (ad 6) (fd 6) ["self"] (spP Γ F_Stair_pace) := by
  refine qDef fx.F_Stair_pace S_Stair_pace rfl rfl fun cdv A outer s H E C hG hfx hr tk hp => ?_
  obtain ⟨G, He, Hz, fx0, Hx⟩ := C
  dsimp only at hG hfx
  subst hG hfx
  have hu := L3.hu_of hr
  have hrH := L2H.roomH_of hr
  have hdep := L3.dep_of hr
  unfold s_Stair_pace
  exact qCons (qIfS (tIsN (m := true) (qFld (ok := ok_rise) rfl fx.FL_rise (qVar 0))) (qLast (qRt (qmSh (qNon)))) (qNil)) (qLast (qRt (qmSh (qFz ((qCall k_lowest (hr.mono (by decide)) tk fx.G_lowest fx.F_lowest.kp fx.B0_lowest.2 fx.B0_lowest.1 (fun _ => Reps.nil) (qaCons (qFld (ok := ok_rise) rfl fx.FL_rise (qVar 0)) (qaCons (qFld (ok := ok_step) rfl fx.FL_step (qVar 0)) qaNil))))))))
theorem ok_p_law_normal (fx : Fx P Γ mg ad fd dv cv cu fI) (k_p_law_value : FnOk P w Γ.K mg base (L2N.CX P w) 1 (ad 10) (fd 10) ["heights", "step", "rise", "x"] (spP Γ F_p_law_value)) : FnOk P w Γ.K mg base (L2N.CX P w) 2 (ad 11) (fd 11) ["heights", "step", "rise"] (spP Γ F_p_law_normal) := by
  refine qDef fx.F_p_law_normal S_p_law_normal rfl rfl fun cdv A outer s H E C hG hfx hr tk hp => ?_
  obtain ⟨G, He, Hz, fx0, Hx⟩ := C
  dsimp only at hG hfx
  subst hG hfx
  have hu := L3.hu_of hr
  have hrH := L2H.roomH_of hr
  have hdep := L3.dep_of hr
  unfold s_p_law_normal
  exact qCons (qIfS (tIsN (m := true) (qVar 2)) (qLast (qFor (T := (.nm 3)) [3] hp rfl (qiRng1 fx.gl_range (qaCons (qLen rfl fx.gl_len (qaCons (qVar 0) qaNil)) qaNil)) (fun _ => qgName (i := 3) fxo_none S_p_law_normal.nd) (fun _ => qLast (qIfS (tIsN (m := true) (qIdx rfl (qVar 0) (qVar 3))) (qLast (qRt (qmSh (qFz (qLst (qaCons (qSl rfl (qVar 0) qoNone (qoSome (qAdd rfl (qVar 3) (qInt)))) (qaCons (qInt) (qaCons (qNon) qaNil)))))))) (qNil))))) (qNil)) (qCons (qFor (T := (.nm 4)) [3, 4, 5, 6] hp rfl (qiRng2 fx.gl_range (qaCons (qInt) (qaCons (qAdd rfl (qVar 1) (qInt)) qaNil))) (fun _ => qgName (i := 4) fxo_none S_p_law_normal.nd) (fun _ => qLast (qIfS (tEq (m := true) rfl hu (qMod (qIntB fx.gl_int (qaCons (qMul (qVar 2) (qVar 4)) qaNil)) (qVar 1)) (qInt)) (qCons (qSet (i := 5) fxo_none S_p_law_normal.nd (qmSh (qFdiv (qMul (qVar 2) (qVar 4)) (qVar 1)))) (qCons (qSet (i := 6) fxo_none S_p_law_normal.nd (qmSh (qLen rfl fx.gl_len (qaCons (qVar 0) qaNil)))) (qCons (qFor (T := (.nm 3)) [3] hp rfl (qiRng1 fx.gl_range (qaCons (qLen rfl fx.gl_len (qaCons (qVar 0) qaNil)) qaNil)) (fun _ => qgName (i := 3) fxo_none S_p_law_normal.nd) (fun _ => qCons (qSet (i := 7) fxo_none S_p_law_normal.nd (qmSh (qSub (qSub (qLen rfl fx.gl_len (qaCons (qVar 0) qaNil)) (qInt)) (qVar 3)))) (qLast (qIfS (qt_w (qw_and (tEq (m := true) rfl hu (qVar 6) (qAdd rfl (qVar 7) (qInt))) (qw_and1 (tEq (m := true) rfl hu (qFz ((qCall k_p_law_value (hr.mono (by decide)) tk fx.G_p_law_value fx.F_p_law_value.kp fx.B0_p_law_value.2 fx.B0_p_law_value.1 (fun _ => Reps.nil) (qaCons (qVar 0) (qaCons (qVar 1) (qaCons (qVar 2) (qaCons (qAdd rfl (qVar 7) (qVar 4)) qaNil))))))) (qAdd rfl (qIdx rfl (qVar 0) (qVar 7)) (qVar 5)))))) (qLast (qSet (i := 6) fxo_none S_p_law_normal.nd (qmSh (qVar 7)))) (qNil))))) (qLast (qIfS (tLe (m := true)  (qVar 6) (qSub (qLen rfl fx.gl_len (qaCons (qVar 0) qaNil)) (qVar 1))) (qLast (qRt (qmSh (qFz (qLst (qaCons (qFz ((qLc (T := .nm 7) rfl S_p_law_normal.nd (qiRng1 fx.gl_range (qaCons (qAdd rfl (qVar 6) (qVar 4)) qaNil)) (own := [("x", 7)]) (blkOk_by rfl) (by decide) fxs_none (lcName (i := 7) fxo_none S_p_law_normal.nd rfl (fun _ _ => rfl)) (fun _ _ _ _ _ => qtsNil) (fun _ _ _ _ _ => qSh (qFz ((qCall k_p_law_value (hr.mono (by decide)) takes0 fx.G_p_law_value fx.F_p_law_value.kp fx.B0_p_law_value.2 fx.B0_p_law_value.1 (fun _ => Reps.nil) (qaCons (qVar 0) (qaCons (qVar 1) (qaCons (qVar 2) (qaCons (qVar 7) qaNil))))))))))) (qaCons (qVar 4) (qaCons (qVar 5) qaNil)))))))) (qNil)))))) (qNil)))) (qLast (qRt (qmSh (qFz (qLst (qaCons (qVar 0) (qaCons (qVar 1) (qaCons (qVar 2) qaNil)))))))))
theorem ok_p_law_same (fx : Fx P Γ mg ad fd dv cv cu fI) (k_p_law_is : FnOk P w Γ.K mg base (L2N.CX P w) 1 (ad 9) (fd 9) ["actual", "expected"] (spP Γ F_p_law_is)) : FnOk P w Γ.K mg base (L2N.CX P w) 2 (ad 12) (fd 12) ["stair", "due"] (spP Γ F_p_law_same) := by
  refine qDef fx.F_p_law_same S_p_law_same rfl rfl fun cdv A outer s H E C hG hfx hr tk hp => ?_
  obtain ⟨G, He, Hz, fx0, Hx⟩ := C
  dsimp only at hG hfx
  subst hG hfx
  have hu := L3.hu_of hr
  have hrH := L2H.roomH_of hr
  have hdep := L3.dep_of hr
  unfold s_p_law_same
  exact qCons (qSet (i := 2) fxo_none S_p_law_same.nd (qmSh (qFld (ok := ok_heights) rfl fx.FL_heights (qVar 0)))) (qCons (qIfS (qt_w (qw_or (qt_not (qtVal (m := true) (qIsiT (tb := tbT "tuple") (ib := ibN) rfl fx.gl_isinstance fx.gl_tuple bt_tuple tbT_ok ibN_ok (qVar 2)))) (qw_or1 (tNe (m := true) rfl hu (qLen rfl fx.gl_len (qaCons (qVar 2) qaNil)) (qLen rfl fx.gl_len (qaCons (qIdx rfl (qVar 1) (qInt)) qaNil)))))) (qLast (qRt (qmSh (qBl)))) (qNil)) (qCons (qFor (T := (.nm 3)) [3] hp rfl (qiRng1 fx.gl_range (qaCons (qLen rfl fx.gl_len (qaCons (qVar 2) qaNil)) qaNil)) (fun _ => qgName (i := 3) fxo_none S_p_law_same.nd) (fun _ => qLast (qIfS (qt_not (qtVal (m := true) (qFz ((qCall k_p_law_is (hr.mono (by decide)) tk fx.G_p_law_is fx.F_p_law_is.kp fx.B0_p_law_is.2 fx.B0_p_law_is.1 (fun _ => Reps.nil) (qaCons (qIdx rfl (qVar 2) (qVar 3)) (qaCons (qIdx rfl (qIdx rfl (qVar 1) (qInt)) (qVar 3)) qaNil))))))) (qLast (qRt (qmSh (qBl)))) (qNil)))) (qCons (qIfS (qt_not (qtVal (m := true) (qFz ((qCall k_p_law_is (hr.mono (by decide)) tk fx.G_p_law_is fx.F_p_law_is.kp fx.B0_p_law_is.2 fx.B0_p_law_is.1 (fun _ => Reps.nil) (qaCons (qFld (ok := ok_start) rfl fx.FL_start (qVar 0)) (qaCons (qSub (qLen rfl fx.gl_len (qaCons (qIdx rfl (qVar 1) (qInt)) qaNil)) (qIdx rfl (qVar 1) (qInt))) qaNil))))))) (qLast (qRt (qmSh (qBl)))) (qNil)) (qLast (qRt (qmSh (qAnd (qFz ((qCall k_p_law_is (hr.mono (by decide)) tk fx.G_p_law_is fx.F_p_law_is.kp fx.B0_p_law_is.2 fx.B0_p_law_is.1 (fun _ => Reps.nil) (qaCons (qFld (ok := ok_step) rfl fx.FL_step (qVar 0)) (qaCons (qIdx rfl (qVar 1) (qInt)) qaNil))))) (qOne (qFz ((qCall k_p_law_is (hr.mono (by decide)) tk fx.G_p_law_is fx.F_p_law_is.kp fx.B0_p_law_is.2 fx.B0_p_law_is.1 (fun _ => Reps.nil) (qaCons (qFld (ok := ok_rise) rfl fx.FL_rise (qVar 0)) (qaCons (qIdx rfl (qVar 1) (qInt)) qaNil)))))))))))))
theorem ok_p_law_told (fx : Fx P Γ mg ad fd dv cv cu fI) (k_p_law_cell : FnOk P w Γ.K mg base (L2N.CX P w) 1 (ad 7) (fd 7) ["script", "k"] (spP Γ F_p_law_cell)) (k_p_law_numbers : FnOk P w Γ.K mg base (L2N.CX P w) 1 (ad 8) (fd 8) ["cell", "salt", "count", "many"] (spP Γ F_p_law_numbers)) (k_p_law_value : FnOk P w Γ.K mg base (L2N.CX P w) 1 (ad 10) (fd 10) ["heights", "step", "rise", "x"] (spP Γ F_p_law_value)) : FnOk P w Γ.K mg base (L2N.CX P w) 2 (ad 13) (fd 13) ["script", "salt"] (spP Γ F_p_law_told) := by
  refine qDef fx.F_p_law_told S_p_law_told rfl rfl fun cdv A outer s H E C hG hfx hr tk hp => ?_
  obtain ⟨G, He, Hz, fx0, Hx⟩ := C
  dsimp only at hG hfx
  subst hG hfx
  have hu := L3.hu_of hr
  have hrH := L2H.roomH_of hr
  have hdep := L3.dep_of hr
  unfold s_p_law_told
  exact qCons (qSet (i := 2) fxo_none S_p_law_told.nd (qmSh (qFz ((qCall k_p_law_numbers (hr.mono (by decide)) tk fx.G_p_law_numbers fx.F_p_law_numbers.kp fx.B0_p_law_numbers.2 fx.B0_p_law_numbers.1 (fun _ => Reps.nil) (qaCons (qFz ((qCall k_p_law_cell (hr.mono (by decide)) tk fx.G_p_law_cell fx.F_p_law_cell.kp fx.B0_p_law_cell.2 fx.B0_p_law_cell.1 (fun _ => Reps.nil) (qaCons (qVar 0) (qaCons (qVar 1) qaNil))))) (qaCons (qVar 1) (qaCons (qInt) (qaCons (qInt) qaNil))))))))) (qCons (qSet (i := 3) fxo_none S_p_law_told.nd (qmSh (qMod (qIdx rfl (qVar 2) (qInt)) (qInt)))) (qCons (qSet (i := 4) fxo_none S_p_law_told.nd (qmSh (qAdd rfl (qInt) (qMod (qIdx rfl (qVar 2) (qInt)) (qInt))))) (qCons (qSet (i := 5) fxo_none S_p_law_told.nd (qmSh (qInt))) (qCons (qIfS (tEq (m := true) rfl hu (qMod (qIdx rfl (qVar 2) (qInt)) (qInt)) (qInt)) (qLast (qSet (i := 5) fxo_none S_p_law_told.nd (qmSh (qAdd rfl (qInt) (qMod (qIntB fx.gl_int (qaCons (qAbs fx.gl_abs (qaCons (qFz ((qCall k_p_law_cell (hr.mono (by decide)) tk fx.G_p_law_cell fx.F_p_law_cell.kp fx.B0_p_law_cell.2 fx.B0_p_law_cell.1 (fun _ => Reps.nil) (qaCons (qVar 0) (qaCons (qAdd rfl (qVar 1) (qInt)) qaNil))))) qaNil)) qaNil)) (qPow (qInt) (qInt))))))) (qNil)) (qCons (qSet (i := 6) fxo_none S_p_law_told.nd (qmFr (qLst qaNil))) (qCons (qSet (i := 7) fxo_none S_p_law_told.nd (qmSh (qInt))) (qCons (qFor (T := (.nm 8)) [8] hp rfl (qiSeq rfl (qFz ((qCall k_p_law_numbers (hr.mono (by decide)) tk fx.G_p_law_numbers fx.F_p_law_numbers.kp fx.B0_p_law_numbers.2 fx.B0_p_law_numbers.1 (fun _ => Reps.nil) (qaCons (qFz ((qCall k_p_law_cell (hr.mono (by decide)) tk fx.G_p_law_cell fx.F_p_law_cell.kp fx.B0_p_law_cell.2 fx.B0_p_law_cell.1 (fun _ => Reps.nil) (qaCons (qVar 0) (qaCons (qAdd rfl (qVar 1) (qInt)) qaNil))))) (qaCons (qAdd rfl (qVar 1) (qInt)) (qaCons (qAdd rfl (qVar 3) (qVar 4)) (qaCons (qInt) qaNil)))))))) (fun _ => qgName (i := 8) fxo_none S_p_law_told.nd) (fun _ => qCons (qSet (i := 7) fxo_none S_p_law_told.nd (qmSh (qAdd rfl (qVar 7) (qMul (qVar 8) (qVar 5))))) (qLast (qApp (qpVar 6) (qmSh (qVar 7)))))) (qFzS 6 (qCons (qIfS (tEq (m := true) rfl hu (qMod (qIdx rfl (qVar 2) (qInt)) (qInt)) (qInt)) (qCons (qSet (i := 9) fxo_none S_p_law_told.nd (qmSh (qAdd rfl (qInt) (qMod (qIdx rfl (qVar 2) (qInt)) (qInt))))) (qLast (qRt (qmSh (qFz (qLst (qaCons (qAdd rfl (qSl rfl (qVar 6) qoNone (qoSome (qVar 3))) (qMul (qFz (qLst (qaCons (qNon) qaNil))) (qVar 9))) (qaCons (qAdd rfl (qInt) (qMod (qIdx rfl (qVar 2) (qInt)) (qVar 9))) (qaCons (qNon) qaNil))))))))) (qNil)) (qCons (qSet (i := 10) fxo_none S_p_law_told.nd (qmSh (qAdd rfl (qSub (qIdx rfl (qVar 6) (qNeg (qInt))) (qIdx rfl (qVar 6) (qVar 3))) (qMul (qMod (qIdx rfl (qVar 2) (qInt)) (qInt)) (qVar 5))))) (qCons (qSet (i := 11) fxo_none S_p_law_told.nd (qmSh (qAdd rfl (qInt) (qMod (qIdx rfl (qVar 2) (qInt)) (qInt))))) (qCons (qSet (i := 12) fxo_none S_p_law_told.nd (qmSh (qAdd rfl (qAdd rfl (qVar 3) (qMod (qIdx rfl (qVar 2) (qInt)) (qInt))) (qMul (qVar 4) (qVar 11))))) (qLast (qRt (qmSh (qFz (qLst (qaCons (qFz ((qLc (T := .nm 13) rfl S_p_law_told.nd (qiRng1 fx.gl_range (qaCons (qVar 12) qaNil)) (own := [("x", 13)]) (blkOk_by rfl) (by decide) fxs_none (lcName (i := 13) fxo_none S_p_law_told.nd rfl (fun _ _ => rfl)) (fun _ _ _ _ _ => qtsNil) (fun _ _ _ _ _ => qSh (qFz ((qCall k_p_law_value (hr.mono (by decide)) takes0 fx.G_p_law_value fx.F_p_law_value.kp fx.B0_p_law_value.2 fx.B0_p_law_value.1 (fun _ => Reps.nil) (qaCons (qVar 6) (qaCons (qVar 4) (qaCons (qVar 10) (qaCons (qVar 13) qaNil))))))))))) (qaCons (qMul (qVar 4) (qVar 11)) (qaCons (qMul (qVar 10) (qVar 11)) qaNil))))))))))))))))))))
theorem ok_p_law_below (fx : Fx P Γ mg ad fd dv cv cu fI) (k_Stair_at : FnOk P w Γ.K mg base (L2N.CX P w) 1 (ad 5) (fd 5) ["self", "amount"] (spP Γ F_Stair_at)) (h_p_law_is : L2H.FnH P w Γ.K mg base (L2N.CX P w) 1 (ad 9) (fd 9) ["actual", "expected"] (spP Γ F_p_law_is)) : FnOk P w Γ.K mg base (L2N.CX P w) 2 (ad 18) (fd 18) ["stair", "amount"] (spP Γ F_p_law_below) := by
  refine qDef fx.F_p_law_below S_p_law_below rfl rfl fun cdv A outer s H E C hG hfx hr tk hp => ?_
  obtain ⟨G, He, Hz, fx0, Hx⟩ := C
  dsimp only at hG hfx
  subst hG hfx
  have hu := L3.hu_of hr
  have hrH := L2H.roomH_of hr
  have hdep := L3.dep_of hr
  unfold s_p_law_below
  exact qCons (qTry rfl rfl rfl tk (fun W pl xe tk hp => qLast (qDoF ((qMeth (c := 4) k_Stair_at fx.C_Stair fx.MT_Stair_at (hr.mono (by decide)) tk fx.B0_Stair_at.2 fx.B0_Stair_at.1 (fun _ => Reps.nil) (qVar 0) (qaCons (qVar 1) qaNil))))) (.named (i := 2) (mt := mt_BadAmount) S_p_law_below.nd ⟨rfl, by decide, .inl fx.G_BadAmount⟩ fx.MTX_BadAmount (fun a ob cls d pl x Hx hz hf rx => qLast (qRt (qmSh (qAnd (qFz ((qCallH h_p_law_is (room_mark (L2H.RoomH.mono (j := 1) hrH (by decide))) (hotc hz hf) takes0 fx.G_p_law_is fx.F_p_law_is.kp fx.B0_p_law_is.2 (qaCons (qXf (ok := okx_amount) fx.XF_amount hz hf rx) (qaCons (qVar 1) qaNil))))) (qAnd (qXi (ib := ib_Fault) fx.gl_isinstance fx.G_Fault fx.XI_Fault hz hf rx) (qOne (qNot (qXi (ib := ib_BadStair) fx.gl_isinstance fx.G_BadStair fx.XI_BadStair hz hf rx)))))))) .nil)) (qLast (qRt (qmSh (qBl))))
theorem ok_Stair_init (fx : Fx P Γ mg ad fd dv cv cu fI) (k_check_heights : FnOk P w Γ.K mg base (L2N.CX P w) 1 (ad 1) (fd 1) ["heights", "step", "rise"] (spP Γ F_check_heights)) (k_normal_form : FnOk P w Γ.K mg base (L2N.CX P w) 2 (ad 3) (fd 3) ["heights", "step", "rise"] (spP Γ F_normal_form)) : FnOk P w Γ.K mg base (L2N.CX P w) 3 (ad 4) (fd 4) ["self", "heights", "step", "rise"] (spI Γ 4 F_Stair_init) := by
  refine qInit fx.F_Stair_init S_Stair_init rfl rfl fun cdv A outer s H E self C hG hfx hr tk hp => ?_
  obtain ⟨G, He, Hz, fx0, Hx⟩ := C
  dsimp only at hG hfx
  subst hG hfx
  have hu := L3.hu_of hr
  have hrH := L2H.roomH_of hr
  have hdep := L3.dep_of hr
  unfold s_Stair_init
  exact qCons (qSet (i := 4) (fxo_some (by decide)) S_Stair_init.nd (qmSh (qFz (qList rfl fx.gl_list (qaCons (qVar 1) qaNil))))) (qCons (qDoF ((qCall k_check_heights (hr.mono (by decide)) tk fx.G_check_heights fx.F_check_heights.kp fx.B0_check_heights.2 fx.B0_check_heights.1 (fun _ => Reps.nil) (qaCons (qVar 4) (qaCons (qVar 2) (qaCons (qVar 3) qaNil)))))) (qCons (qTg (qFz ((qCall k_normal_form (hr.mono (by decide)) tk fx.G_normal_form fx.F_normal_form.kp fx.B0_normal_form.2 fx.B0_normal_form.1 (fun _ => Reps.nil) (qaCons (qVar 4) (qaCons (qVar 2) (qaCons (qVar 3) qaNil)))))) (qgTup rfl rfl (qgsCons (i := 5) (fxo_some (by decide)) S_Stair_init.nd (qgsCons (i := 6) (fxo_some (by decide)) S_Stair_init.nd (qgsCons (i := 7) (fxo_some (by decide)) S_Stair_init.nd qgsNil))))) (qCons (qIfS (tGt (m := true)  (qLen rfl fx.gl_len (qaCons (qVar 5) qaNil)) (qGlob fx.G_MOST_HEIGHTS.1 fx.G_MOST_HEIGHTS.2 fx.R_MOST_HEIGHTS)) (qLast (qRz (c := 2) rfl tk fx.SU_TooMany fx.G_TooMany fx.KP_TooMany (fx.RS_TooMany _ rfl) hdep (qGlob fx.G_MOST_HEIGHTS.1 fx.G_MOST_HEIGHTS.2 fx.R_MOST_HEIGHTS))) (qNil)) (qCons (qFl (ok := ok_heights) rfl fx.FL_heights (qmSh (qTuple rfl fx.gl_tuple (qaCons (qVar 5) qaNil))) (qpVar 0)) (qCons (qFl (ok := ok_start) rfl fx.FL_start (qmSh (qSub (qLen rfl fx.gl_len (qaCons (qVar 5) qaNil)) (qVar 6))) (qpVar 0)) (qCons (qFl (ok := ok_step) rfl fx.FL_step (qmSh (qVar 6)) (qpVar 0)) (qLast (qFl (ok := ok_rise) rfl fx.FL_rise (qmSh (qVar 7)) (qpVar 0)))))))))
theorem ok_p_law_pace (fx : Fx P Γ mg ad fd dv cv cu fI) (k_Stair_pace : FnOk P w Γ.K mg base (L2N.CX P w) 2 (ad 6) (fd 6) ["self"] (spP Γ F_Stair_pace)) (k_p_law_is : FnOk P w Γ.K mg base (L2N.CX P w) 1 (ad 9) (fd 9) ["actual", "expected"] (spP Γ F_p_law_is)) : FnOk P w Γ.K mg base (L2N.CX P w) 3 (ad 16) (fd 16) ["stair", "rise", "step"] (spP Γ F_p_law_pace) := by
  refine qDef fx.F_p_law_pace S_p_law_pace rfl rfl fun cdv A outer s H E C hG hfx hr tk hp => ?_
  obtain ⟨G, He, Hz, fx0, Hx⟩ := C
  dsimp only at hG hfx
  subst hG hfx
  have hu := L3.hu_of hr
  have hrH := L2H.roomH_of hr
  have hdep := L3.dep_of hr
  unfold s_p_law_pace
  exact qCons (qSet (i := 3) fxo_none S_p_law_pace.nd (qmSh (qFz ((qMeth0 (c := 4) (m := true) k_Stair_pace fx.C_Stair fx.MT_Stair_pace (hr.mono (by decide)) tk fx.B0_Stair_pace.2 fx.B0_Stair_pace.1 (fun _ => Reps.nil) (qVar 0)))))) (qCons (qIfS (tIsN (m := true) (qVar 1)) (qLast (qRt (qmSh (qIsN (qVar 3))))) (qNil)) (qCons (qSet (i := 4) fxo_none S_p_law_pace.nd (qmSh (qVar 2))) (qCons (qSet (i := 5) fxo_none S_p_law_pace.nd (qmSh (qVar 1))) (qCons (qFor (T := (.nm 6)) [6, 7] hp rfl (qiRng1 fx.gl_range (qaCons (qInt) qaNil)) (fun _ => qgName (i := 6) fxo_none S_p_law_pace.nd) (fun _ => qLast (qIfS (tNe (m := true) rfl hu (qVar 5) (qInt)) (qCons (qSet (i := 7) fxo_none S_p_law_pace.nd (qmSh (qMod (qIntB fx.gl_int (qaCons (qVar 4) qaNil)) (qVar 5)))) (qCons (qSet (i := 4) fxo_none S_p_law_pace.nd (qmSh (qVar 5))) (qLast (qSet (i := 5) fxo_none S_p_law_pace.nd (qmSh (qVar 7)))))) (qNil)))) (qCons (qIfS (qt_w (qw_or (qt_not (qtVal (m := true) (qIsiT (tb := tbT "tuple") (ib := ibN) rfl fx.gl_isinstance fx.gl_tuple bt_tuple tbT_ok ibN_ok (qVar 3)))) (qw_or1 (tNe (m := true) rfl hu (qLen rfl fx.gl_len (qaCons (qVar 3) qaNil)) (qInt))))) (qLast (qRt (qmSh (qBl)))) (qNil)) (qLast (qRt (qmSh (qAnd (qFz ((qCall k_p_law_is (hr.mono (by decide)) tk fx.G_p_law_is fx.F_p_law_is.kp fx.B0_p_law_is.2 fx.B0_p_law_is.1 (fun _ => Reps.nil) (qaCons (qIdx rfl (qVar 3) (qInt)) (qaCons (qFdiv (qVar 1) (qVar 4)) qaNil))))) (qOne (qFz ((qCall k_p_law_is (hr.mono (by decide)) tk fx.G_p_law_is fx.F_p_law_is.kp fx.B0_p_law_is.2 fx.B0_p_law_is.1 (fun _ => Reps.nil) (qaCons (qIdx rfl (qVar 3) (qInt)) (qaCons (qFdiv (qVar 2) (qVar 4)) qaNil)))))))))))))))
theorem ok_p_law_refused (fx : Fx P Γ mg ad fd dv cv cu fI) (k_Stair_init : FnOk P w Γ.K mg base (L2N.CX P w) 3 (ad 4) (fd 4) ["self", "heights", "step", "rise"] (spI Γ 4 F_Stair_init)) : FnOk P w Γ.K mg base (L2N.CX P w) 5 (ad 14) (fd 14) ["heights", "step", "rise"] (spP Γ F_p_law_refused) := by
  refine qDef fx.F_p_law_refused S_p_law_refused rfl rfl fun cdv A outer s H E C hG hfx hr tk hp => ?_
  obtain ⟨G, He, Hz, fx0, Hx⟩ := C
  dsimp only at hG hfx
  subst hG hfx
  have hu := L3.hu_of hr
  have hrH := L2H.roomH_of hr
  have hdep := L3.dep_of hr
  unfold s_p_law_refused
  exact qCons (qTry rfl rfl rfl tk (fun W pl xe tk hp => qLast (qDoF ((qMake (c := 4) k_Stair_init fx.M_Stair (hr.mono (by decide)) tk fx.G_Stair fx.B0_Stair_init.2 fx.B0_Stair_init.1 (fun _ => Reps.nil) (qaCons (qVar 0) (qaCons (qVar 1) (qaCons (qVar 2) qaNil))))))) (.named (i := 3) (mt := mt_BadStair) S_p_law_refused.nd ⟨rfl, by decide, .inl fx.G_BadStair⟩ fx.MTX_BadStair (fun a ob cls d pl x Hx hz hf rx => qLast (qRt (qmSh (qAnd (qXi (ib := ib_Fault) fx.gl_isinstance fx.G_Fault fx.XI_Fault hz hf rx) (qAnd (qNot (qXi (ib := ib_TooMany) fx.gl_isinstance fx.G_TooMany fx.XI_TooMany hz hf rx)) (qOne (qNot (qXi (ib := ib_BadAmount) fx.gl_isinstance fx.G_BadAmount fx.XI_BadAmount hz hf rx)))))))) (.bare (mt := mt_TooMany) ⟨rfl, by decide, .inl fx.G_TooMany⟩ fx.MTX_TooMany (fun a ob cls d pl x Hx hz hf rx => qLast (qRt (qmSh (qBl)))) .nil))) (qLast (qRt (qmSh (qBl))))
theorem ok_p_law_limits (fx : Fx P Γ mg ad fd dv cv cu fI) (k_Stair_init : FnOk P w Γ.K mg base (L2N.CX P w) 3 (ad 4) (fd 4) ["self", "heights", "step", "rise"] (spI Γ 4 F_Stair_init)) (h_p_law_is : L2H.FnH P w Γ.K mg base (L2N.CX P w) 1 (ad 9) (fd 9) ["actual", "expected"] (spP Γ F_p_law_is)) : FnOk P w Γ.K mg base (L2N.CX P w) 5 (ad 17) (fd 17) ["size"] (spP Γ F_p_law_limits) := by
  refine qDef fx.F_p_law_limits S_p_law_limits rfl rfl fun cdv A outer s H E C hG hfx hr tk hp => ?_
  obtain ⟨G, He, Hz, fx0, Hx⟩ := C
  dsimp only at hG hfx
  subst hG hfx
  have hu := L3.hu_of hr
  have hrH := L2H.roomH_of hr
  have hdep := L3.dep_of hr
  unfold s_p_law_limits
  exact qCons (qIfS (tNe (m := true) rfl hu (qLen rfl fx.gl_len (qaCons (qFld (ok := ok_heights) rfl fx.FL_heights (qFz ((qMake (c := 4) k_Stair_init fx.M_Stair (hr.mono (by decide)) tk fx.G_Stair fx.B0_Stair_init.2 fx.B0_Stair_init.1 (fun _ => Reps.nil) (qaCons (qMul (qFz (qLst (qaCons (qInt) qaNil))) (qInt)) (qaCons (qAdd rfl (qInt) (qMod (qVar 0) (qInt))) (qaCons (qInt) qaNil))))))) qaNil)) (qInt)) (qLast (qRt (qmSh (qBl)))) (qNil)) (qCons (qIfS (qt_w (qw_or (tNe (m := true) rfl hu (qLen rfl fx.gl_len (qaCons (qFld (ok := ok_heights) rfl fx.FL_heights (qFz ((qMake (c := 4) k_Stair_init fx.M_Stair (hr.mono (by decide)) tk fx.G_Stair fx.B0_Stair_init.2 fx.B0_Stair_init.1 (fun _ => Reps.nil) (qaCons (qAdd rfl (qMul (qFz (qLst (qaCons (qInt) qaNil))) (qInt)) (qFz (qLst (qaCons (qInt) qaNil)))) (qaCons (qInt) (qaCons (qInt) qaNil))))))) qaNil)) (qInt)) (qw_or1 (tNe (m := true) rfl hu (qLen rfl fx.gl_len (qaCons (qFld (ok := ok_heights) rfl fx.FL_heights (qFz ((qMake (c := 4) k_Stair_init fx.M_Stair (hr.mono (by decide)) tk fx.G_Stair fx.B0_Stair_init.2 fx.B0_Stair_init.1 (fun _ => Reps.nil) (qaCons (qAdd rfl (qMul (qFz (qLst (qaCons (qInt) qaNil))) (qInt)) (qFz (qLst (qaCons (qNon) qaNil)))) (qaCons (qInt) (qaCons (qNon) qaNil))))))) qaNil)) (qInt))))) (qLast (qRt (qmSh (qBl)))) (qNil)) (qCons (qTry rfl rfl rfl tk (fun W pl xe tk hp => qLast (qDoF ((qMake (c := 4) k_Stair_init fx.M_Stair (hr.mono (by decide)) tk fx.G_Stair fx.B0_Stair_init.2 fx.B0_Stair_init.1 (fun _ => Reps.nil) (qaCons (qAdd rfl (qMul (qFz (qLst (qaCons (qInt) qaNil))) (qInt)) (qFz (qLst (qaCons (qInt) qaNil)))) (qaCons (qInt) (qaCons (qMul (qInt) (qMod (qVar 0) (qInt))) qaNil))))))) (.named (i := 1) (mt := mt_TooMany) S_p_law_limits.nd ⟨rfl, by decide, .inl fx.G_TooMany⟩ fx.MTX_TooMany (fun a ob cls d pl x Hx hz hf rx => qLast (qRt (qmSh (qAnd (qFz ((qCallH h_p_law_is (room_mark (L2H.RoomH.mono (j := 1) hrH (by decide))) (hotc hz hf) takes0 fx.G_p_law_is fx.F_p_law_is.kp fx.B0_p_law_is.2 (qaCons (qXf (ok := okx_limit) fx.XF_limit hz hf rx) (qaCons (qInt) qaNil))))) (qAnd (qXi (ib := ib_Fault) fx.gl_isinstance fx.G_Fault fx.XI_Fault hz hf rx) (qOne (qNot (qXi (ib := ib_BadStair) fx.gl_isinstance fx.G_BadStair fx.XI_BadStair hz hf rx)))))))) .nil)) (qLast (qRt (qmSh (qBl))))))
theorem ok_p_law_all_refused (fx : Fx P Γ mg ad fd dv cv cu fI) (k_p_law_refused : FnOk P w Γ.K mg base (L2N.CX P w) 5 (ad 14) (fd 14) ["heights", "step", "rise"] (spP Γ F_p_law_refused)) : FnOk P w Γ.K mg base (L2N.CX P w) 6 (ad 15) (fd 15) ["heights", "step", "rise", "place"] (spP Γ F_p_law_all_refused) := by
  refine qDef fx.F_p_law_all_refused S_p_law_all_refused rfl rfl fun cdv A outer s H E C hG hfx hr tk hp => ?_
  obtain ⟨G, He, Hz, fx0, Hx⟩ := C
  dsimp only at hG hfx
  subst hG hfx
  have hu := L3.hu_of hr
  have hrH := L2H.roomH_of hr
  have hdep := L3.dep_of hr
  unfold s_p_law_all_refused
  exact qCons (qSetLc (T := .nm 8) fxo_none rfl S_p_law_all_refused.nd (qiRng1 fx.gl_range (qaCons (qLen rfl fx.gl_len (qaCons (qVar 0) qaNil)) qaNil)) (own := [("k", 8)]) (blkOk_by rfl) (by decide) fxs_none (lcName (i := 8) fxo_none S_p_law_all_refused.nd rfl (fun _ _ => rfl)) (fun _ _ _ _ _ => qtsOne (tNotN (m := true) (qIdx rfl (qVar 0) (qVar 8)))) (fun _ _ _ _ _ => qSh (qVar 8)) (sw_true rfl rfl rfl rfl)) (qFzS 4 (qCons (qSetLc (T := .nm 8) fxo_none rfl S_p_law_all_refused.nd (qiSeq rfl (qVar 4)) (own := [("k", 8)]) (blkOk_by rfl) (by decide) fxs_none (lcName (i := 8) fxo_none S_p_law_all_refused.nd rfl (fun _ _ => rfl)) (fun _ _ _ _ _ => qtsNil) (fun _ _ _ _ _ => qSh (qAdd rfl (qIdx rfl (qVar 0) (qVar 8)) (qInt))) (sw_true rfl rfl rfl rfl)) (qFzS 5 (qCons (qIfS (qt_w (qw_or (qt_not (qtVal (m := true) (qFz ((qCall k_p_law_refused (hr.mono (by decide)) tk fx.G_p_law_refused fx.F_p_law_refused.kp fx.B0_p_law_refused.2 fx.B0_p_law_refused.1 (fun _ => Reps.nil) (qaCons (qVar 0) (qaCons (qInt) (qaCons (qVar 2) qaNil)))))))) (qw_or1 (qt_not (qtVal (m := true) (qFz ((qCall k_p_law_refused (hr.mono (by decide)) tk fx.G_p_law_refused fx.F_p_law_refused.kp fx.B0_p_law_refused.2 fx.B0_p_law_refused.1 (fun _ => Reps.nil) (qaCons (qVar 0) (qaCons (qNeg (qInt)) (qaCons (qVar 2) qaNil))))))))))) (qLast (qRt (qmSh (qBl)))) (qNil)) (qCons (qIfS (qt_not (qtVal (m := true) (qFz ((qCall k_p_law_refused (hr.mono (by decide)) tk fx.G_p_law_refused fx.F_p_law_refused.kp fx.B0_p_law_refused.2 fx.B0_p_law_refused.1 (fun _ => Reps.nil) (qaCons (qVar 0) (qaCons (qAdd rfl (qLen rfl fx.gl_len (qaCons (qVar 0) qaNil)) (qInt)) (qaCons (qVar 2) qaNil)))))))) (qLast (qRt (qmSh (qBl)))) (qNil)) (qCons (qIfS (qt_not (qtVal (m := true) (qFz ((qCall k_p_law_refused (hr.mono (by decide)) tk fx.G_p_law_refused fx.F_p_law_refused.kp fx.B0_p_law_refused.2 fx.B0_p_law_refused.1 (fun _ => Reps.nil) (qaCons (qAdd rfl (qAdd rfl (qFz (qLst (qaCons (qNeg (qInt)) qaNil))) (qVar 5)) (qFz (qLst (qaCons (qNon) qaNil)))) (qaCons (qInt) (qaCons (qNon) qaNil)))))))) (qLast (qRt (qmSh (qBl)))) (qNil)) (qCons (qIfS (qt_not (qtVal (m := true) (qFz ((qCall k_p_law_refused (hr.mono (by decide)) tk fx.G_p_law_refused fx.F_p_law_refused.kp fx.B0_p_law_refused.2 fx.B0_p_law_refused.1 (fun _ => Reps.nil) (qaCons (qAdd rfl (qVar 5) (qFz (qLst (qaCons (qNon) (qaCons (qAdd rfl (qInt) (qPow (qInt) (qInt))) (qaCons (qNon) qaNil)))))) (qaCons (qInt) (qaCons (qNon) qaNil)))))))) (qLast (qRt (qmSh (qBl)))) (qNil)) (qCons (qIfS (qt_w (qw_or (qt_not (qtVal (m := true) (qFz ((qCall k_p_law_refused (hr.mono (by decide)) tk fx.G_p_law_refused fx.F_p_law_refused.kp fx.B0_p_law_refused.2 fx.B0_p_law_refused.1 (fun _ => Reps.nil) (qaCons (qAdd rfl (qVar 5) (qFz (qLst (qaCons (qNon) (qaCons (qNon) qaNil))))) (qaCons (qInt) (qaCons (qInt) qaNil)))))))) (qw_or1 (qt_not (qtVal (m := true) (qFz ((qCall k_p_law_refused (hr.mono (by decide)) tk fx.G_p_law_refused fx.F_p_law_refused.kp fx.B0_p_law_refused.2 fx.B0_p_law_refused.1 (fun _ => Reps.nil) (qaCons (qAdd rfl (qVar 5) (qFz (qLst (qaCons (qNon) qaNil)))) (qaCons (qInt) (qaCons (qInt) qaNil))))))))))) (qLast (qRt (qmSh (qBl)))) (qNil)) (qCons (qIfS (tEq (m := true) rfl hu (qLen rfl fx.gl_len (qaCons (qVar 5) qaNil)) (qInt)) (qLast (qRt (qmSh (qBl)))) (qNil)) (qCons (qIfS (qt_w (qw_or (qt_not (qtVal (m := true) (qFz ((qCall k_p_law_refused (hr.mono (by decide)) tk fx.G_p_law_refused fx.F_p_law_refused.kp fx.B0_p_law_refused.2 fx.B0_p_law_refused.1 (fun _ => Reps.nil) (qaCons (qVar 5) (qaCons (qInt) (qaCons (qNon) qaNil)))))))) (qw_or1 (qt_not (qtVal (m := true) (qFz ((qCall k_p_law_refused (hr.mono (by decide)) tk fx.G_p_law_refused fx.F_p_law_refused.kp fx.B0_p_law_refused.2 fx.B0_p_law_refused.1 (fun _ => Reps.nil) (qaCons (qAdd rfl (qVar 5) (qFz (qLst (qaCons (qNon) qaNil)))) (qaCons (qInt) (qaCons (qNon) qaNil))))))))))) (qLast (qRt (qmSh (qBl)))) (qNil)) (qCons (qSet (i := 6) fxo_none S_p_law_all_refused.nd (qmSh (qIdx rfl (qVar 5) (qMod (qVar 3) (qLen rfl fx.gl_len (qaCons (qVar 5) qaNil)))))) (qCons (qIfS (qt_not (qtVal (m := true) (qFz ((qCall k_p_law_refused (hr.mono (by decide)) tk fx.G_p_law_refused fx.F_p_law_refused.kp fx.B0_p_law_refused.2 fx.B0_p_law_refused.1 (fun _ => Reps.nil) (qaCons (qVar 5) (qaCons (qSub (qLen rfl fx.gl_len (qaCons (qVar 5) qaNil)) (qMod (qVar 3) (qLen rfl fx.gl_len (qaCons (qVar 5) qaNil)))) (qaCons (qSub (qSub (qIdx rfl (qVar 5) (qNeg (qInt))) (qVar 6)) (qInt)) qaNil)))))))) (qLast (qRt (qmSh (qBl)))) (qNil)) (qCons (qSet (i := 7) fxo_none S_p_law_all_refused.nd (qmSh (qAdd rfl (qAdd rfl (qSl rfl (qVar 5) qoNone (qoSome (qAdd rfl (qMod (qVar 3) (qLen rfl fx.gl_len (qaCons (qVar 5) qaNil))) (qInt)))) (qFz (qLst (qaCons (qSub (qVar 6) (qInt)) qaNil)))) (qSl rfl (qVar 5) (qoSome (qAdd rfl (qMod (qVar 3) (qLen rfl fx.gl_len (qaCons (qVar 5) qaNil))) (qInt))) qoNone)))) (qLast (qRt (qmSh (qFz ((qCall k_p_law_refused (hr.mono (by decide)) tk fx.G_p_law_refused fx.F_p_law_refused.kp fx.B0_p_law_refused.2 fx.B0_p_law_refused.1 (fun _ => Reps.nil) (qaCons (qVar 7) (qaCons (qInt) (qaCons (qPow (qInt) (qInt)) qaNil))))))))))))))))))))))
theorem ok_law (fx : Fx P Γ mg ad fd dv cv cu fI) (k_Stair_init : FnOk P w Γ.K mg base (L2N.CX P w) 3 (ad 4) (fd 4) ["self", "heights", "step", "rise"] (spI Γ 4 F_Stair_init)) (k_Stair_at : FnOk P w Γ.K mg base (L2N.CX P w) 1 (ad 5) (fd 5) ["self", "amount"] (spP Γ F_Stair_at)) (k_p_law_all_refused : FnOk P w Γ.K mg base (L2N.CX P w) 6 (ad 15) (fd 15) ["heights", "step", "rise", "place"] (spP Γ F_p_law_all_refused)) (k_p_law_below : FnOk P w Γ.K mg base (L2N.CX P w) 2 (ad 18) (fd 18) ["stair", "amount"] (spP Γ F_p_law_below)) (k_p_law_cell : FnOk P w Γ.K mg base (L2N.CX P w) 1 (ad 7) (fd 7) ["script", "k"] (spP Γ F_p_law_cell)) (k_p_law_is : FnOk P w Γ.K mg base (L2N.CX P w) 1 (ad 9) (fd 9) ["actual", "expected"] (spP Γ F_p_law_is)) (k_p_law_limits : FnOk P w Γ.K mg base (L2N.CX P w) 5 (ad 17) (fd 17) ["size"] (spP Γ F_p_law_limits)) (k_p_law_normal : FnOk P w Γ.K mg base (L2N.CX P w) 2 (ad 11) (fd 11) ["heights", "step", "rise"] (spP Γ F_p_law_normal)) (k_p_law_pace : FnOk P w Γ.K mg base (L2N.CX P w) 3 (ad 16) (fd 16) ["stair", "rise", "step"] (spP Γ F_p_law_pace)) (k_p_law_same : FnOk P w Γ.K mg base (L2N.CX P w) 2 (ad 12) (fd 12) ["stair", "due"] (spP Γ F_p_law_same)) (k_p_law_told : FnOk P w Γ.K mg base (L2N.CX P w) 2 (ad 13) (fd 13) ["script", "salt"] (spP Γ F_p_law_told)) (k_p_law_value : FnOk P w Γ.K mg base (L2N.CX P w) 1 (ad 10) (fd 10) ["heights", "step", "rise", "x"] (spP Γ F_p_law_value)) : FnOk P w Γ.K mg base (L2N.CX P w) 7 (ad 19) (fd 19) ["script"] (spP Γ F_law) := by
  refine qDef fx.F_law S_law rfl rfl fun cdv A outer s H E C hG hfx hr tk hp => ?_
  obtain ⟨G, He, Hz, fx0, Hx⟩ := C
  dsimp only at hG hfx
  subst hG hfx
  have hu := L3.hu_of hr
  have hrH := L2H.roomH_of hr
  have hdep := L3.dep_of hr
  unfold s_law
  exact qCons (qTg (qFz ((qCall k_p_law_told (hr.mono (by decide)) tk fx.G_p_law_told fx.F_p_law_told.kp fx.B0_p_law_told.2 fx.B0_p_law_told.1 (fun _ => Reps.nil) (qaCons (qVar 0) (qaCons (qInt) qaNil))))) (qgTup rfl rfl (qgsCons (i := 1) fxo_none S_law.nd (qgsCons (i := 2) fxo_none S_law.nd (qgsCons (i := 3) fxo_none S_law.nd qgsNil))))) (qCons (qSet (i := 4) fxo_none S_law.nd (qmFr (qList rfl fx.gl_list (qaCons (qVar 1) qaNil)))) (qCons (qSet (i := 5) fxo_none S_law.nd (qmSh (qFz ((qMake (c := 4) k_Stair_init fx.M_Stair (hr.mono (by decide)) tk fx.G_Stair fx.B0_Stair_init.2 fx.B0_Stair_init.1 (fun _ => Reps.nil) (qaCons (qOwn 4) (qaCons (qVar 2) (qaCons (qVar 3) qaNil)))))))) (qCons (qIfS (qt_w (qw_or (tNe (m := false) rfl hu (qOwn 4) (qVar 1)) (qw_or1 (qt_not (qtVal (m := true) (qFz ((qCall k_p_law_same (hr.mono (by decide)) tk fx.G_p_law_same fx.F_p_law_same.kp fx.B0_p_law_same.2 fx.B0_p_law_same.1 (fun _ => Reps.nil) (qaCons (qVar 5) (qaCons (qFz ((qCall k_p_law_normal (hr.mono (by decide)) tk fx.G_p_law_normal fx.F_p_law_normal.kp fx.B0_p_law_normal.2 fx.B0_p_law_normal.1 (fun _ => Reps.nil) (qaCons (qVar 1) (qaCons (qVar 2) (qaCons (qVar 3) qaNil)))))) qaNil)))))))))) (qLast (qRt (qmSh (qBl)))) (qNil)) (qCons (qApp (qpVar 4) (qmSh (qInt))) (qCons (qSt (m := true) (qmSh (qInt)) (qpVar 4) (qInt)) (qCons (qSet (i := 6) fxo_none S_law.nd (qmSh (qFz (qLst (qaCons (qPow (qInt) (qInt)) (qaCons (qMod (qIntB fx.gl_int (qaCons (qAbs fx.gl_abs (qaCons (qFz ((qCall k_p_law_cell (hr.mono (by decide)) tk fx.G_p_law_cell fx.F_p_law_cell.kp fx.B0_p_law_cell.2 fx.B0_p_law_cell.1 (fun _ => Reps.nil) (qaCons (qVar 0) (qaCons (qInt) qaNil))))) qaNil)) qaNil)) (qPow (qInt) (qInt))) (qaCons (qMod (qIntB fx.gl_int (qaCons (qAbs fx.gl_abs (qaCons (qFz ((qCall k_p_law_cell (hr.mono (by decide)) tk fx.G_p_law_cell fx.F_p_law_cell.kp fx.B0_p_law_cell.2 fx.B0_p_law_cell.1 (fun _ => Reps.nil) (qaCons (qVar 0) (qaCons (qInt) qaNil))))) qaNil)) qaNil)) (qInt)) qaNil))))))) (qCons (qFor (T := (.nm 7)) [7] hp rfl (qiSeq rfl (qAdd rfl (qFz (qListR rfl fx.gl_list fx.gl_range (qAdd rfl (qAdd rfl (qLen rfl fx.gl_len (qaCons (qVar 1) qaNil)) (qMul (qInt) (qVar 2))) (qInt)))) (qVar 6))) (fun _ => qgName (i := 7) fxo_none S_law.nd) (fun _ => qLast (qIfS (qt_not (qtVal (m := true) (qFz ((qCall k_p_law_is (hr.mono (by decide)) tk fx.G_p_law_is fx.F_p_law_is.kp fx.B0_p_law_is.2 fx.B0_p_law_is.1 (fun _ => Reps.nil) (qaCons (qFz ((qMeth (c := 4) k_Stair_at fx.C_Stair fx.MT_Stair_at (hr.mono (by decide)) tk fx.B0_Stair_at.2 fx.B0_Stair_at.1 (fun _ => Reps.nil) (qVar 5) (qaCons (qVar 7) qaNil)))) (qaCons (qFz ((qCall k_p_law_value (hr.mono (by decide)) tk fx.G_p_law_value fx.F_p_law_value.kp fx.B0_p_law_value.2 fx.B0_p_law_value.1 (fun _ => Reps.nil) (qaCons (qVar 1) (qaCons (qVar 2) (qaCons (qVar 3) (qaCons (qVar 7) qaNil))))))) qaNil))))))) (qLast (qRt (qmSh (qBl)))) (qNil)))) (qCons (qIfS (qt_not (qtVal (m := true) (qFz ((qCall k_p_law_below (hr.mono (by decide)) tk fx.G_p_law_below fx.F_p_law_below.kp fx.B0_p_law_below.2 fx.B0_p_law_below.1 (fun _ => Reps.nil) (qaCons (qVar 5) (qaCons (qSub (qNeg (qInt)) (qMod (qIntB fx.gl_int (qaCons (qAbs fx.gl_abs (qaCons (qFz ((qCall k_p_law_cell (hr.mono (by decide)) tk fx.G_p_law_cell fx.F_p_law_cell.kp fx.B0_p_law_cell.2 fx.B0_p_law_cell.1 (fun _ => Reps.nil) (qaCons (qVar 0) (qaCons (qInt) qaNil))))) qaNil)) qaNil)) (qInt))) qaNil))))))) (qLast (qRt (qmSh (qBl)))) (qNil)) (qCons (qIfS (qt_not (qtVal (m := true) (qFz ((qCall k_p_law_all_refused (hr.mono (by decide)) tk fx.G_p_law_all_refused fx.F_p_law_all_refused.kp fx.B0_p_law_all_refused.2 fx.B0_p_law_all_refused.1 (fun _ => Reps.nil) (qaCons (qVar 1) (qaCons (qVar 2) (qaCons (qVar 3) (qaCons (qMod (qIntB fx.gl_int (qaCons (qAbs fx.gl_abs (qaCons (qFz ((qCall k_p_law_cell (hr.mono (by decide)) tk fx.G_p_law_cell fx.F_p_law_cell.kp fx.B0_p_law_cell.2 fx.B0_p_law_cell.1 (fun _ => Reps.nil) (qaCons (qVar 0) (qaCons (qInt) qaNil))))) qaNil)) qaNil)) (qInt)) qaNil))))))))) (qLast (qRt (qmSh (qBl)))) (qNil)) (qLast (qRt (qmSh (qAnd (qFz ((qCall k_p_law_pace (hr.mono (by decide)) tk fx.G_p_law_pace fx.F_p_law_pace.kp fx.B0_p_law_pace.2 fx.B0_p_law_pace.1 (fun _ => Reps.nil) (qaCons (qVar 5) (qaCons (qVar 3) (qaCons (qVar 2) qaNil)))))) (qOne (qFz ((qCall k_p_law_limits (hr.mono (by decide)) tk fx.G_p_law_limits fx.F_p_law_limits.kp fx.B0_p_law_limits.2 fx.B0_p_law_limits.1 (fun _ => Reps.nil) (qaCons (qMod (qIntB fx.gl_int (qaCons (qAbs fx.gl_abs (qaCons (qFz ((qCall k_p_law_cell (hr.mono (by decide)) tk fx.G_p_law_cell fx.F_p_law_cell.kp fx.B0_p_law_cell.2 fx.B0_p_law_cell.1 (fun _ => Reps.nil) (qaCons (qVar 0) (qaCons (qInt) qaNil))))) qaNil)) qaNil)) (qInt)) qaNil))))))))))))))))))
end
end K01

end
section

/-! The head, as gen.py prints it. -/
namespace K01
open PySem PySem.Spec PyProof.Rows L2 L3 He X4
def d_lowest : DefD := ⟨("lowest", none), "lowest", "lowest", defArgs (top 11), defBody (top 11), defScope (top 11), [], []⟩
def d_check_heights : DefD := ⟨("check_heights", none), "check_heights", "check_heights", defArgs (top 14), defBody (top 14), defScope (top 14), [], []⟩
def d_least_step : DefD := ⟨("least_step", none), "least_step", "least_step", defArgs (top 15), defBody (top 15), defScope (top 15), [], []⟩
def d_normal_form : DefD := ⟨("normal_form", none), "normal_form", "normal_form", defArgs (top 16), defBody (top 16), defScope (top 16), [], []⟩
def d_Stair_init : DefD := ⟨("Stair", some "__init__"), "__init__", "Stair.__init__", defArgs (mth 17 0), defBody (mth 17 0), defScope (mth 17 0), [], []⟩
def d_Stair_at : DefD := ⟨("Stair", some "at"), "at", "Stair.at", defArgs (mth 17 1), defBody (mth 17 1), defScope (mth 17 1), [], []⟩
def d_Stair_pace : DefD := ⟨("Stair", some "pace"), "pace", "Stair.pace", defArgs (mth 17 2), defBody (mth 17 2), defScope (mth 17 2), [], []⟩
def d_p_law_cell : DefD := ⟨("_law_cell", none), "_law_cell", "_law_cell", defArgs (top 27), defBody (top 27), defScope (top 27), [], []⟩
def d_p_law_numbers : DefD := ⟨("_law_numbers", none), "_law_numbers", "_law_numbers", defArgs (top 28), defBody (top 28), defScope (top 28), [], []⟩
def d_p_law_is : DefD := ⟨("_law_is", none), "_law_is", "_law_is", defArgs (top 29), defBody (top 29), defScope (top 29), [], []⟩
def d_p_law_value : DefD := ⟨("_law_value", none), "_law_value", "_law_value", defArgs (top 30), defBody (top 30), defScope (top 30), [], []⟩
def d_p_law_normal : DefD := ⟨("_law_normal", none), "_law_normal", "_law_normal", defArgs (top 31), defBody (top 31), defScope (top 31), [], []⟩
def d_p_law_same : DefD := ⟨("_law_same", none), "_law_same", "_law_same", defArgs (top 32), defBody (top 32), defScope (top 32), [], []⟩
def d_p_law_told : DefD := ⟨("_law_told", none), "_law_told", "_law_told", defArgs (top 33), defBody (top 33), defScope (top 33), [], []⟩
def d_p_law_refused : DefD := ⟨("_law_refused", none), "_law_refused", "_law_refused", defArgs (top 34), defBody (top 34), defScope (top 34), [], []⟩
def d_p_law_all_refused : DefD := ⟨("_law_all_refused", none), "_law_all_refused", "_law_all_refused", defArgs (top 35), defBody (top 35), defScope (top 35), [], []⟩
def d_p_law_pace : DefD := ⟨("_law_pace", none), "_law_pace", "_law_pace", defArgs (top 36), defBody (top 36), defScope (top 36), [], []⟩
def d_p_law_limits : DefD := ⟨("_law_limits", none), "_law_limits", "_law_limits", defArgs (top 37), defBody (top 37), defScope (top 37), [], []⟩
def d_p_law_below : DefD := ⟨("_law_below", none), "_law_below", "_law_below", defArgs (top 38), defBody (top 38), defScope (top 38), [], []⟩
def d_law : DefD := ⟨("law", none), "law", "law", defArgs (top 39), defBody (top 39), defScope (top 39), [], []⟩
def fn0 : List DefD := [d_lowest, d_check_heights, d_least_step, d_normal_form, d_Stair_init, d_Stair_at, d_Stair_pace, d_p_law_cell, d_p_law_numbers, d_p_law_is, d_p_law_value, d_p_law_normal, d_p_law_same, d_p_law_told, d_p_law_refused, d_p_law_all_refused, d_p_law_pace, d_p_law_limits, d_p_law_below, d_law]
def fn : List DefD := fn0
def x_BadAmount : SupD := ⟨"BadAmount", "amount", "BadAmount.__init__", defArgs (mth 4 0), defBody (mth 4 0), defScope (mth 4 0)⟩
def x_TooMany : SupD := ⟨"TooMany", "limit", "TooMany.__init__", defArgs (mth 5 0), defBody (mth 5 0), defScope (mth 5 0)⟩
def sx : List SupD := [x_BadAmount, x_TooMany]
def mfl : Str := "/claim/cut.py"
def isC (x : Str) : Ck := fun K => iscB K x
def fs0 : List Ck := [fa (.int "MOST_HEIGHTS" 600), fa (.free "len"), fa (.free "abs"), fa (.free "int"), fa (.free "max"), fa (.free "min"), fa (.free "sum"), fa (.free "all"), fa (.free "any"), fa (.free "tuple"), fa (.free "list"), fa (.free "range"), fa (.free "isinstance"), fa (.free "str"), fa (.free "bool"), fa (.free "sorted"), bfnB "gcd" "math.gcd", fa (.glo "lowest"), fa (.glo "check_heights"), fa (.glo "least_step"), fa (.glo "normal_form"), fa (.meth "Stair" "at"), fa (.meth "Stair" "pace"), fa (.glo "_law_cell"), fa (.glo "_law_numbers"), fa (.glo "_law_is"), fa (.glo "_law_value"), fa (.glo "_law_normal"), fa (.glo "_law_same"), fa (.glo "_law_told")]
def fs1 : List Ck := [fa (.glo "_law_refused"), fa (.glo "_law_all_refused"), fa (.glo "_law_pace"), fa (.glo "_law_limits"), fa (.glo "_law_below"), fa (.glo "law"), fa (.glo "Fault"), fa (.glo "BadAmount"), supB mfl x_BadAmount, fa (.keep "BadAmount"), raisB "BadAmount", fa (.glo "TooMany"), supB mfl x_TooMany, fa (.keep "TooMany"), raisB "TooMany", fa (.glo "BadStair"), fa (.exc "BadStair"), fa (.keep "BadStair"), raisB "BadStair", fa (.glo "Stair"), fa (.cls "Stair"), fa (.mkr "Stair"), fa (.noat "Stair" "heights"), fa (.noat "Stair" "rise"), fa (.noat "Stair" "start"), fa (.noat "Stair" "step"), xfCk "BadAmount", fa (.noat "BadAmount" "amount"), xfCk "TooMany", fa (.noat "TooMany" "limit")]
def fs2 : List Ck := [exmB "Fault" "BadAmount" false, exmB "BadAmount" "BadAmount" true, exmB "TooMany" "BadAmount" false, exmB "BadStair" "BadAmount" false, exmB "Fault" "BadStair" false, exmB "BadAmount" "BadStair" false, exmB "TooMany" "BadStair" false, exmB "BadStair" "BadStair" true, exmB "Fault" "TooMany" false, exmB "BadAmount" "TooMany" false, exmB "TooMany" "TooMany" true, exmB "BadStair" "TooMany" false, exiC "Fault", kitRR "Fault" "BadAmount" false, exiC "BadAmount", kitRR "BadAmount" "BadAmount" true, exiC "TooMany", kitRR "TooMany" "BadAmount" false, exiC "BadStair", kitRR "BadStair" "BadAmount" false, kitRR "Fault" "BadStair" false, kitRR "BadAmount" "BadStair" false, kitRR "TooMany" "BadStair" false, kitRR "BadStair" "BadStair" true, kitRR "Fault" "Fault" true, kitRR "BadAmount" "Fault" true, kitRR "TooMany" "Fault" true, kitRR "BadStair" "Fault" true, kitRR "Fault" "TooMany" false, kitRR "BadAmount" "TooMany" false]
def fs3 : List Ck := [kitRR "TooMany" "TooMany" true, kitRR "BadStair" "TooMany" false]
def fs : List Ck := fs0 ++ (fs1 ++ (fs2 ++ (fs3)))
abbrev Rw : PySem.W.OpenRow := PySem.W.OpenLaw.row PySem.Challenge.rw_flagfalls_k01_stairs_in_normal_form
abbrev hk : PySem.W.Hook := hookX 5 fs fn sx
def ob (s : PySem.W.SharedT) : AlX := obsXG 5 fs fn sx (HandSHeadRun.getT s)
theorem ob_eq (s : PySem.W.SharedT) : ob s = hk.obs s.abs := obsXG_eq (HandSHeadRun.getT_eq s)
def names : List PySem.Str := (PySem.Challenge.pw_flagfalls_k01_stairs_in_normal_form.main.scope.names.map (·.1)).filter (fun x => !(x == "law") && !(x == "__name__") && !(x == "gcd") && !(x == "lcm"))
theorem run (w : World) : HandSHeadRun.RunEqI Rw (PySem.W.view Rw.prog [0, 39]) hk ob 20000 names w := by
  unfold HandSHeadRun.RunEqI
  kernel_rfl
set_option maxHeartbeats 0 in
theorem facts {P : Program} {K : PySem.W.Frag} {h : Heap} {mg : Str → Option Value} {f : Addr} (hmf : P.main.file = mfl) (htop : (P.main.scope.names.lookup ("super" : Str)).isSome = false) (X : K.In h) (G : h.Ns mainGlobals mg) (hfa : mg ("law" : Str) = some (.ref f)) (c : SaysX fs fn sx K) :
    ∃ (Γ : Gc) (ad : Nat → Addr) (fd : Nat → FuncData) (dv : Nat → List V) (cv : Nat → V) (cu : Nat → Value) (fI : Nat → Addr), Γ.K = K ∧ ad 19 = f ∧ (∀ (s : Shared) (u : Value), BindsTo s (fd 19) ⟨[u], []⟩ [(("script" : Str), u)]) ∧ Fx P Γ mg ad fd dv cv cu fI := by
  obtain ⟨fd, hfd⟩ := c.defs (by decide)
  obtain ⟨t0, g0⟩ := int_ok X G (c.fact 0 (f := fa (.int "MOST_HEIGHTS" 600)))
  refine ⟨⟨K, fun i => match i with | 0 => ga K "Fault" | 1 => ga K "BadAmount" | 2 => ga K "TooMany" | 3 => ga K "BadStair" | 4 => ga K "Stair" | _ => 0⟩, fun i => match i with | 0 => fAd K d_lowest.at_ | 1 => fAd K d_check_heights.at_ | 2 => fAd K d_least_step.at_ | 3 => fAd K d_normal_form.at_ | 4 => fAd K d_Stair_init.at_ | 5 => fAd K d_Stair_at.at_ | 6 => fAd K d_Stair_pace.at_ | 7 => fAd K d_p_law_cell.at_ | 8 => fAd K d_p_law_numbers.at_ | 9 => fAd K d_p_law_is.at_ | 10 => fAd K d_p_law_value.at_ | 11 => fAd K d_p_law_normal.at_ | 12 => fAd K d_p_law_same.at_ | 13 => fAd K d_p_law_told.at_ | 14 => fAd K d_p_law_refused.at_ | 15 => fAd K d_p_law_all_refused.at_ | 16 => fAd K d_p_law_pace.at_ | 17 => fAd K d_p_law_limits.at_ | 18 => fAd K d_p_law_below.at_ | 19 => fAd K d_law.at_ | _ => 0, fd, fun i => match i with | 0 => d_lowest.dvs K | 1 => d_check_heights.dvs K | 2 => d_least_step.dvs K | 3 => d_normal_form.dvs K | 4 => d_Stair_init.dvs K | 5 => d_Stair_at.dvs K | 6 => d_Stair_pace.dvs K | 7 => d_p_law_cell.dvs K | 8 => d_p_law_numbers.dvs K | 9 => d_p_law_is.dvs K | 10 => d_p_law_value.dvs K | 11 => d_p_law_normal.dvs K | 12 => d_p_law_same.dvs K | 13 => d_p_law_told.dvs K | 14 => d_p_law_refused.dvs K | 15 => d_p_law_all_refused.dvs K | 16 => d_p_law_pace.dvs K | 17 => d_p_law_limits.dvs K | 18 => d_p_law_below.dvs K | 19 => d_law.dvs K | _ => [], fun i => match i with | 0 => .int 600 | _ => .non, fun i => match i with | 0 => .int 600 t0 | _ => .none, fun i => match i with | 1 => ma K (ga K "BadAmount") "__init__" | 2 => ma K (ga K "TooMany") "__init__" | _ => 0, rfl, ?_, fun s u => FunD.bindsA (ps := ["script"]) (hfd 19 d_law rfl) (fun _ _ _ _ _ _ us hl => match us, hl with | [_], _ => rfl) s [u] rfl, ?_⟩
  · have e := hfa.symm.trans (glo_ok X G (c.fact 35 (f := fa (.glo "law"))))
    cases e
    rfl
  constructor
  case gl_len =>
    exact free_ok X G (c.fact 1 (f := fa (.free "len")))
  case gl_abs =>
    exact free_ok X G (c.fact 2 (f := fa (.free "abs")))
  case gl_int =>
    exact free_ok X G (c.fact 3 (f := fa (.free "int")))
  case gl_max =>
    exact free_ok X G (c.fact 4 (f := fa (.free "max")))
  case gl_min =>
    exact free_ok X G (c.fact 5 (f := fa (.free "min")))
  case gl_sum =>
    exact free_ok X G (c.fact 6 (f := fa (.free "sum")))
  case gl_all =>
    exact free_ok X G (c.fact 7 (f := fa (.free "all")))
  case gl_any =>
    exact free_ok X G (c.fact 8 (f := fa (.free "any")))
  case gl_tuple =>
    exact free_ok X G (c.fact 9 (f := fa (.free "tuple")))
  case gl_list =>
    exact free_ok X G (c.fact 10 (f := fa (.free "list")))
  case gl_range =>
    exact free_ok X G (c.fact 11 (f := fa (.free "range")))
  case gl_isinstance =>
    exact free_ok X G (c.fact 12 (f := fa (.free "isinstance")))
  case gl_str =>
    exact free_ok X G (c.fact 13 (f := fa (.free "str")))
  case gl_bool =>
    exact free_ok X G (c.fact 14 (f := fa (.free "bool")))
  case gl_sorted =>
    exact free_ok X G (c.fact 15 (f := fa (.free "sorted")))
  case GB_gcd =>
    exact bfn_ok X G (c.fact 16 (f := bfnB "gcd" "math.gcd"))
  case F_lowest =>
    exact hfd 0 d_lowest rfl
  case B0_lowest =>
    exact ⟨.nil, FunD.bindsN (hfd 0 d_lowest rfl) fun _ _ _ _ _ _ us hl => match us, hl with | [_, _], _ => rfl⟩
  case G_lowest =>
    exact (glo_ok X G (c.fact 17 (f := fa (.glo "lowest"))))
  case F_check_heights =>
    exact hfd 1 d_check_heights rfl
  case B0_check_heights =>
    exact ⟨.nil, FunD.bindsN (hfd 1 d_check_heights rfl) fun _ _ _ _ _ _ us hl => match us, hl with | [_, _, _], _ => rfl⟩
  case G_check_heights =>
    exact (glo_ok X G (c.fact 18 (f := fa (.glo "check_heights"))))
  case F_least_step =>
    exact hfd 2 d_least_step rfl
  case B0_least_step =>
    exact ⟨.nil, FunD.bindsN (hfd 2 d_least_step rfl) fun _ _ _ _ _ _ us hl => match us, hl with | [_, _, _], _ => rfl⟩
  case G_least_step =>
    exact (glo_ok X G (c.fact 19 (f := fa (.glo "least_step"))))
  case F_normal_form =>
    exact hfd 3 d_normal_form rfl
  case B0_normal_form =>
    exact ⟨.nil, FunD.bindsN (hfd 3 d_normal_form rfl) fun _ _ _ _ _ _ us hl => match us, hl with | [_, _, _], _ => rfl⟩
  case G_normal_form =>
    exact (glo_ok X G (c.fact 20 (f := fa (.glo "normal_form"))))
  case F_Stair_init =>
    exact hfd 4 d_Stair_init rfl
  case B0_Stair_init =>
    exact ⟨.nil, FunD.bindsN (hfd 4 d_Stair_init rfl) fun _ _ _ _ _ _ us hl => match us, hl with | [_, _, _, _], _ => rfl⟩
  case F_Stair_at =>
    exact hfd 5 d_Stair_at rfl
  case B0_Stair_at =>
    exact ⟨.nil, FunD.bindsN (hfd 5 d_Stair_at rfl) fun _ _ _ _ _ _ us hl => match us, hl with | [_, _], _ => rfl⟩
  case MT_Stair_at =>
    exact meth_ok (c.fact 21 (f := fa (.meth "Stair" "at")))
  case F_Stair_pace =>
    exact hfd 6 d_Stair_pace rfl
  case B0_Stair_pace =>
    exact ⟨.nil, FunD.bindsN (hfd 6 d_Stair_pace rfl) fun _ _ _ _ _ _ us hl => match us, hl with | [_], _ => rfl⟩
  case MT_Stair_pace =>
    exact meth_ok (c.fact 22 (f := fa (.meth "Stair" "pace")))
  case F_p_law_cell =>
    exact hfd 7 d_p_law_cell rfl
  case B0_p_law_cell =>
    exact ⟨.nil, FunD.bindsN (hfd 7 d_p_law_cell rfl) fun _ _ _ _ _ _ us hl => match us, hl with | [_, _], _ => rfl⟩
  case G_p_law_cell =>
    exact (glo_ok X G (c.fact 23 (f := fa (.glo "_law_cell"))))
  case F_p_law_numbers =>
    exact hfd 8 d_p_law_numbers rfl
  case B0_p_law_numbers =>
    exact ⟨.nil, FunD.bindsN (hfd 8 d_p_law_numbers rfl) fun _ _ _ _ _ _ us hl => match us, hl with | [_, _, _, _], _ => rfl⟩
  case G_p_law_numbers =>
    exact (glo_ok X G (c.fact 24 (f := fa (.glo "_law_numbers"))))
  case F_p_law_is =>
    exact hfd 9 d_p_law_is rfl
  case B0_p_law_is =>
    exact ⟨.nil, FunD.bindsN (hfd 9 d_p_law_is rfl) fun _ _ _ _ _ _ us hl => match us, hl with | [_, _], _ => rfl⟩
  case G_p_law_is =>
    exact (glo_ok X G (c.fact 25 (f := fa (.glo "_law_is"))))
  case F_p_law_value =>
    exact hfd 10 d_p_law_value rfl
  case B0_p_law_value =>
    exact ⟨.nil, FunD.bindsN (hfd 10 d_p_law_value rfl) fun _ _ _ _ _ _ us hl => match us, hl with | [_, _, _, _], _ => rfl⟩
  case G_p_law_value =>
    exact (glo_ok X G (c.fact 26 (f := fa (.glo "_law_value"))))
  case F_p_law_normal =>
    exact hfd 11 d_p_law_normal rfl
  case B0_p_law_normal =>
    exact ⟨.nil, FunD.bindsN (hfd 11 d_p_law_normal rfl) fun _ _ _ _ _ _ us hl => match us, hl with | [_, _, _], _ => rfl⟩
  case G_p_law_normal =>
    exact (glo_ok X G (c.fact 27 (f := fa (.glo "_law_normal"))))
  case F_p_law_same =>
    exact hfd 12 d_p_law_same rfl
  case B0_p_law_same =>
    exact ⟨.nil, FunD.bindsN (hfd 12 d_p_law_same rfl) fun _ _ _ _ _ _ us hl => match us, hl with | [_, _], _ => rfl⟩
  case G_p_law_same =>
    exact (glo_ok X G (c.fact 28 (f := fa (.glo "_law_same"))))
  case F_p_law_told =>
    exact hfd 13 d_p_law_told rfl
  case B0_p_law_told =>
    exact ⟨.nil, FunD.bindsN (hfd 13 d_p_law_told rfl) fun _ _ _ _ _ _ us hl => match us, hl with | [_, _], _ => rfl⟩
  case G_p_law_told =>
    exact (glo_ok X G (c.fact 29 (f := fa (.glo "_law_told"))))
  case F_p_law_refused =>
    exact hfd 14 d_p_law_refused rfl
  case B0_p_law_refused =>
    exact ⟨.nil, FunD.bindsN (hfd 14 d_p_law_refused rfl) fun _ _ _ _ _ _ us hl => match us, hl with | [_, _, _], _ => rfl⟩
  case G_p_law_refused =>
    exact (glo_ok X G (c.fact 30 (f := fa (.glo "_law_refused"))))
  case F_p_law_all_refused =>
    exact hfd 15 d_p_law_all_refused rfl
  case B0_p_law_all_refused =>
    exact ⟨.nil, FunD.bindsN (hfd 15 d_p_law_all_refused rfl) fun _ _ _ _ _ _ us hl => match us, hl with | [_, _, _, _], _ => rfl⟩
  case G_p_law_all_refused =>
    exact (glo_ok X G (c.fact 31 (f := fa (.glo "_law_all_refused"))))
  case F_p_law_pace =>
    exact hfd 16 d_p_law_pace rfl
  case B0_p_law_pace =>
    exact ⟨.nil, FunD.bindsN (hfd 16 d_p_law_pace rfl) fun _ _ _ _ _ _ us hl => match us, hl with | [_, _, _], _ => rfl⟩
  case G_p_law_pace =>
    exact (glo_ok X G (c.fact 32 (f := fa (.glo "_law_pace"))))
  case F_p_law_limits =>
    exact hfd 17 d_p_law_limits rfl
  case B0_p_law_limits =>
    exact ⟨.nil, FunD.bindsN (hfd 17 d_p_law_limits rfl) fun _ _ _ _ _ _ us hl => match us, hl with | [_], _ => rfl⟩
  case G_p_law_limits =>
    exact (glo_ok X G (c.fact 33 (f := fa (.glo "_law_limits"))))
  case F_p_law_below =>
    exact hfd 18 d_p_law_below rfl
  case B0_p_law_below =>
    exact ⟨.nil, FunD.bindsN (hfd 18 d_p_law_below rfl) fun _ _ _ _ _ _ us hl => match us, hl with | [_, _], _ => rfl⟩
  case G_p_law_below =>
    exact (glo_ok X G (c.fact 34 (f := fa (.glo "_law_below"))))
  case F_law =>
    exact hfd 19 d_law rfl
  case B0_law =>
    exact ⟨.nil, FunD.bindsN (hfd 19 d_law rfl) fun _ _ _ _ _ _ us hl => match us, hl with | [_], _ => rfl⟩
  case G_law =>
    exact (glo_ok X G (c.fact 35 (f := fa (.glo "law"))))
  case G_Fault =>
    exact (glo_ok X G (c.fact 36 (f := fa (.glo "Fault"))))
  case G_BadAmount =>
    exact (glo_ok X G (c.fact 37 (f := fa (.glo "BadAmount"))))
  case SU_BadAmount =>
    exact sup_ok (d := x_BadAmount) (c.sup 0 (d := x_BadAmount)) (c.fact 38 (f := supB mfl x_BadAmount)) rfl rfl rfl hmf htop ⟨by decide, by decide, by decide, by decide⟩ (fun _ _ _ _ _ _ _ _ _ _ _ _ => rfl) (fun _ => ⟨_, rfl⟩)
  case KP_BadAmount =>
    exact keep_ok (c.fact 39 (f := fa (.keep "BadAmount")))
  case RS_BadAmount =>
    exact fun Y e => by
      subst e
      exact rais_ok (c.fact 40 (f := raisB "BadAmount"))
  case G_TooMany =>
    exact (glo_ok X G (c.fact 41 (f := fa (.glo "TooMany"))))
  case SU_TooMany =>
    exact sup_ok (d := x_TooMany) (c.sup 1 (d := x_TooMany)) (c.fact 42 (f := supB mfl x_TooMany)) rfl rfl rfl hmf htop ⟨by decide, by decide, by decide, by decide⟩ (fun _ _ _ _ _ _ _ _ _ _ _ _ => rfl) (fun _ => ⟨_, rfl⟩)
  case KP_TooMany =>
    exact keep_ok (c.fact 43 (f := fa (.keep "TooMany")))
  case RS_TooMany =>
    exact fun Y e => by
      subst e
      exact rais_ok (c.fact 44 (f := raisB "TooMany"))
  case G_BadStair =>
    exact (glo_ok X G (c.fact 45 (f := fa (.glo "BadStair"))))
  case EX_BadStair =>
    exact (exc_ok (c.fact 46 (f := fa (.exc "BadStair")))).1
  case KP_BadStair =>
    exact keep_ok (c.fact 47 (f := fa (.keep "BadStair")))
  case RS_BadStair =>
    exact fun Y e => by
      subst e
      exact rais_ok (c.fact 48 (f := raisB "BadStair"))
  case G_Stair =>
    exact (glo_ok X G (c.fact 49 (f := fa (.glo "Stair"))))
  case C_Stair =>
    exact cls_ok (c.fact 50 (f := fa (.cls "Stair")))
  case M_Stair =>
    exact mkr_ok (c.fact 51 (f := fa (.mkr "Stair")))
  case FL_heights =>
    exact by
      intro c h
      simp only [ok_heights, Bool.or_eq_true, beq_iff_eq] at h
      have e := h
      · subst e; exact ⟨cls_ok (c.fact 50 (f := fa (.cls "Stair"))), noat_ok (c.fact 52 (f := fa (.noat "Stair" "heights")))⟩
  case FL_rise =>
    exact by
      intro c h
      simp only [ok_rise, Bool.or_eq_true, beq_iff_eq] at h
      have e := h
      · subst e; exact ⟨cls_ok (c.fact 50 (f := fa (.cls "Stair"))), noat_ok (c.fact 53 (f := fa (.noat "Stair" "rise")))⟩
  case FL_start =>
    exact by
      intro c h
      simp only [ok_start, Bool.or_eq_true, beq_iff_eq] at h
      have e := h
      · subst e; exact ⟨cls_ok (c.fact 50 (f := fa (.cls "Stair"))), noat_ok (c.fact 54 (f := fa (.noat "Stair" "start")))⟩
  case FL_step =>
    exact by
      intro c h
      simp only [ok_step, Bool.or_eq_true, beq_iff_eq] at h
      have e := h
      · subst e; exact ⟨cls_ok (c.fact 50 (f := fa (.cls "Stair"))), noat_ok (c.fact 55 (f := fa (.noat "Stair" "step")))⟩
  case XF_amount =>
    exact by
      intro c h
      simp only [okx_amount, Bool.or_eq_true, beq_iff_eq] at h
      have e := h
      · subst e; exact ⟨xfc_ok (c.fact 56 (f := xfCk "BadAmount")), noat_ok (c.fact 57 (f := fa (.noat "BadAmount" "amount")))⟩
  case XF_limit =>
    exact by
      intro c h
      simp only [okx_limit, Bool.or_eq_true, beq_iff_eq] at h
      have e := h
      · subst e; exact ⟨xfc_ok (c.fact 58 (f := xfCk "TooMany")), noat_ok (c.fact 59 (f := fa (.noat "TooMany" "limit")))⟩
  case MTX_BadAmount =>
    exact by
      intro c b h
      unfold mt_BadAmount at h
      by_cases e : c = 0
      · subst e; cases h; exact exmB_ok (c.fact 60 (f := exmB "Fault" "BadAmount" false))
      rw [if_neg e] at h; clear e
      by_cases e : c = 1
      · subst e; cases h; exact exmB_ok (c.fact 61 (f := exmB "BadAmount" "BadAmount" true))
      rw [if_neg e] at h; clear e
      by_cases e : c = 2
      · subst e; cases h; exact exmB_ok (c.fact 62 (f := exmB "TooMany" "BadAmount" false))
      rw [if_neg e] at h; clear e
      by_cases e : c = 3
      · subst e; cases h; exact exmB_ok (c.fact 63 (f := exmB "BadStair" "BadAmount" false))
      rw [if_neg e] at h; clear e
      cases h
  case MTX_BadStair =>
    exact by
      intro c b h
      unfold mt_BadStair at h
      by_cases e : c = 0
      · subst e; cases h; exact exmB_ok (c.fact 64 (f := exmB "Fault" "BadStair" false))
      rw [if_neg e] at h; clear e
      by_cases e : c = 1
      · subst e; cases h; exact exmB_ok (c.fact 65 (f := exmB "BadAmount" "BadStair" false))
      rw [if_neg e] at h; clear e
      by_cases e : c = 2
      · subst e; cases h; exact exmB_ok (c.fact 66 (f := exmB "TooMany" "BadStair" false))
      rw [if_neg e] at h; clear e
      by_cases e : c = 3
      · subst e; cases h; exact exmB_ok (c.fact 67 (f := exmB "BadStair" "BadStair" true))
      rw [if_neg e] at h; clear e
      cases h
  case MTX_TooMany =>
    exact by
      intro c b h
      unfold mt_TooMany at h
      by_cases e : c = 0
      · subst e; cases h; exact exmB_ok (c.fact 68 (f := exmB "Fault" "TooMany" false))
      rw [if_neg e] at h; clear e
      by_cases e : c = 1
      · subst e; cases h; exact exmB_ok (c.fact 69 (f := exmB "BadAmount" "TooMany" false))
      rw [if_neg e] at h; clear e
      by_cases e : c = 2
      · subst e; cases h; exact exmB_ok (c.fact 70 (f := exmB "TooMany" "TooMany" true))
      rw [if_neg e] at h; clear e
      by_cases e : c = 3
      · subst e; cases h; exact exmB_ok (c.fact 71 (f := exmB "BadStair" "TooMany" false))
      rw [if_neg e] at h; clear e
      cases h
  case XI_BadAmount =>
    exact by
      intro c b h
      unfold ib_BadAmount at h
      by_cases e : c = 0
      · subst e; cases h; exact ⟨exi_ok (c.fact 72 (f := exiC "Fault")), kitRR_ok (c.fact 73 (f := kitRR "Fault" "BadAmount" false))⟩
      rw [if_neg e] at h; clear e
      by_cases e : c = 1
      · subst e; cases h; exact ⟨exi_ok (c.fact 74 (f := exiC "BadAmount")), kitRR_ok (c.fact 75 (f := kitRR "BadAmount" "BadAmount" true))⟩
      rw [if_neg e] at h; clear e
      by_cases e : c = 2
      · subst e; cases h; exact ⟨exi_ok (c.fact 76 (f := exiC "TooMany")), kitRR_ok (c.fact 77 (f := kitRR "TooMany" "BadAmount" false))⟩
      rw [if_neg e] at h; clear e
      by_cases e : c = 3
      · subst e; cases h; exact ⟨exi_ok (c.fact 78 (f := exiC "BadStair")), kitRR_ok (c.fact 79 (f := kitRR "BadStair" "BadAmount" false))⟩
      rw [if_neg e] at h; clear e
      cases h
  case XI_BadStair =>
    exact by
      intro c b h
      unfold ib_BadStair at h
      by_cases e : c = 0
      · subst e; cases h; exact ⟨exi_ok (c.fact 72 (f := exiC "Fault")), kitRR_ok (c.fact 80 (f := kitRR "Fault" "BadStair" false))⟩
      rw [if_neg e] at h; clear e
      by_cases e : c = 1
      · subst e; cases h; exact ⟨exi_ok (c.fact 74 (f := exiC "BadAmount")), kitRR_ok (c.fact 81 (f := kitRR "BadAmount" "BadStair" false))⟩
      rw [if_neg e] at h; clear e
      by_cases e : c = 2
      · subst e; cases h; exact ⟨exi_ok (c.fact 76 (f := exiC "TooMany")), kitRR_ok (c.fact 82 (f := kitRR "TooMany" "BadStair" false))⟩
      rw [if_neg e] at h; clear e
      by_cases e : c = 3
      · subst e; cases h; exact ⟨exi_ok (c.fact 78 (f := exiC "BadStair")), kitRR_ok (c.fact 83 (f := kitRR "BadStair" "BadStair" true))⟩
      rw [if_neg e] at h; clear e
      cases h
  case XI_Fault =>
    exact by
      intro c b h
      unfold ib_Fault at h
      by_cases e : c = 0
      · subst e; cases h; exact ⟨exi_ok (c.fact 72 (f := exiC "Fault")), kitRR_ok (c.fact 84 (f := kitRR "Fault" "Fault" true))⟩
      rw [if_neg e] at h; clear e
      by_cases e : c = 1
      · subst e; cases h; exact ⟨exi_ok (c.fact 74 (f := exiC "BadAmount")), kitRR_ok (c.fact 85 (f := kitRR "BadAmount" "Fault" true))⟩
      rw [if_neg e] at h; clear e
      by_cases e : c = 2
      · subst e; cases h; exact ⟨exi_ok (c.fact 76 (f := exiC "TooMany")), kitRR_ok (c.fact 86 (f := kitRR "TooMany" "Fault" true))⟩
      rw [if_neg e] at h; clear e
      by_cases e : c = 3
      · subst e; cases h; exact ⟨exi_ok (c.fact 78 (f := exiC "BadStair")), kitRR_ok (c.fact 87 (f := kitRR "BadStair" "Fault" true))⟩
      rw [if_neg e] at h; clear e
      cases h
  case XI_TooMany =>
    exact by
      intro c b h
      unfold ib_TooMany at h
      by_cases e : c = 0
      · subst e; cases h; exact ⟨exi_ok (c.fact 72 (f := exiC "Fault")), kitRR_ok (c.fact 88 (f := kitRR "Fault" "TooMany" false))⟩
      rw [if_neg e] at h; clear e
      by_cases e : c = 1
      · subst e; cases h; exact ⟨exi_ok (c.fact 74 (f := exiC "BadAmount")), kitRR_ok (c.fact 89 (f := kitRR "BadAmount" "TooMany" false))⟩
      rw [if_neg e] at h; clear e
      by_cases e : c = 2
      · subst e; cases h; exact ⟨exi_ok (c.fact 76 (f := exiC "TooMany")), kitRR_ok (c.fact 90 (f := kitRR "TooMany" "TooMany" true))⟩
      rw [if_neg e] at h; clear e
      by_cases e : c = 3
      · subst e; cases h; exact ⟨exi_ok (c.fact 78 (f := exiC "BadStair")), kitRR_ok (c.fact 91 (f := kitRR "BadStair" "TooMany" false))⟩
      rw [if_neg e] at h; clear e
      cases h
  case G_MOST_HEIGHTS =>
    exact ⟨g0, _, rfl⟩
  case R_MOST_HEIGHTS =>
    exact fun H => by simp only [Rep]
section
variable {P : Program} {w : World} {Γ : Gc} {mg : Str → Option Value} {base : Heap} {ad : Nat → Addr} {fd : Nat → FuncData} {dv : Nat → List V} {cv : Nat → V} {cu : Nat → Value} {fI : Nat → Addr}
theorem ok_all (fx : Fx P Γ mg ad fd dv cv cu fI) : FnOk P w Γ.K mg base (L2N.CX P w) 7 (ad 19) (fd 19) ["script"] (spP Γ F_law) := by
  have k_lowest := ok_lowest (w := w) (base := base) fx 
  have k_check_heights := ok_check_heights (w := w) (base := base) fx 
  have k_least_step := ok_least_step (w := w) (base := base) fx 
  have k_Stair_at := ok_Stair_at (w := w) (base := base) fx 
  have k_p_law_cell := ok_p_law_cell (w := w) (base := base) fx 
  have k_p_law_numbers := ok_p_law_numbers (w := w) (base := base) fx 
  have k_p_law_is := ok_p_law_is (w := w) (base := base) fx 
  have h_p_law_is := okH_p_law_is (w := w) (base := base) fx 
  have k_p_law_value := ok_p_law_value (w := w) (base := base) fx 
  have k_normal_form := ok_normal_form (w := w) (base := base) fx k_least_step
  have k_Stair_pace := ok_Stair_pace (w := w) (base := base) fx k_lowest
  have k_p_law_normal := ok_p_law_normal (w := w) (base := base) fx k_p_law_value
  have k_p_law_same := ok_p_law_same (w := w) (base := base) fx k_p_law_is
  have k_p_law_told := ok_p_law_told (w := w) (base := base) fx k_p_law_cell k_p_law_numbers k_p_law_value
  have k_p_law_below := ok_p_law_below (w := w) (base := base) fx k_Stair_at h_p_law_is
  have k_Stair_init := ok_Stair_init (w := w) (base := base) fx k_check_heights k_normal_form
  have k_p_law_pace := ok_p_law_pace (w := w) (base := base) fx k_Stair_pace k_p_law_is
  have k_p_law_refused := ok_p_law_refused (w := w) (base := base) fx k_Stair_init
  have k_p_law_limits := ok_p_law_limits (w := w) (base := base) fx k_Stair_init h_p_law_is
  have k_p_law_all_refused := ok_p_law_all_refused (w := w) (base := base) fx k_p_law_refused
  have k_law := ok_law (w := w) (base := base) fx k_Stair_init k_Stair_at k_p_law_all_refused k_p_law_below k_p_law_cell k_p_law_is k_p_law_limits k_p_law_normal k_p_law_pace k_p_law_same k_p_law_told k_p_law_value
  exact k_law
end
end K01
open PySem PySem.W PySem.Calls PyProof.Rows
set_option maxHeartbeats 0 in
theorem K01.holds_of (hF : ∀ ns : List Int, ns.length ≤ 63 → (∀ z ∈ ns, Builtin.Int.intBits z ≤ 1048576) → K01.F_law [.scr (ns.map .int)] = .ok (.sh (.bl true))) : PySem.Challenge.rw_flagfalls_k01_stairs_in_normal_form.Holds := by
  w_on; o_law
  refine HandSHeadRun.head_imp (r := OpenLaw.row PySem.Challenge.rw_flagfalls_k01_stairs_in_normal_form) (q := view (OpenLaw.row PySem.Challenge.rw_flagfalls_k01_stairs_in_normal_form).prog [0, 39]) (H := K01.hk) (ob := K01.ob) (M := 20000) (loose := K01.names) (d := HandSHeadRun.topDef (OpenLaw.row PySem.Challenge.rw_flagfalls_k01_stairs_in_normal_form).prog 39) (kwd := []) K01.ob_eq
    K01.run (by kernel_rfl) (by kernel_rfl) (by kernel_rfl) (by rfl) (by first | assumption | decide +kernel) (by decide +kernel) ⟨rfl, rfl, rfl, rfl, rfl, by decide +kernel⟩ ?hw ?hc
  case hw => w_witness2
  case hc =>
    refine X4.walk_X (l := PySem.Challenge.rw_flagfalls_k01_stairs_in_normal_form) (n := 63) (k := 7) (x := "script") (Fn := K01.F_law) rfl (by decide) (by kernel_rfl) ⟨rfl, by decide, by decide⟩ ?F hF
    intro w mg fa h Y G hmg0
    obtain ⟨K, KX, c⟩ := Y
    have hmg : mg ("law" : PySem.Str) = some (.ref fa) := by
      have e : (HandSHeadRun.topDef (OpenLaw.row PySem.Challenge.rw_flagfalls_k01_stairs_in_normal_form).prog 39).name = ("law" : PySem.Str) := by kernel_rfl
      rw [← e]
      exact hmg0
    obtain ⟨Γ, ad, fd, dv, cv, cu, fI, eK, ea, hb, fx⟩ := K01.facts (P := (PySem.Challenge.rw_flagfalls_k01_stairs_in_normal_form).prog) (by kernel_rfl) (by kernel_rfl) KX G hmg c
    subst eK ea
    exact ⟨Γ, fd 19, KX, hb, fun base _ _ => K01.ok_all fx⟩

end
section
namespace K01
open PySem L2 L3
local macro_rules | `(tactic| walk_at "d") => `(tactic| first | assumption | omega | (simp only [szl, List.length_map, List.length_append, List.length_cons, List.length_nil, List.length_range, List.length_replicate, rngP_length]; omega) | exact Eq.refl _ | (simp; done))
def cell (ns : List Int) (k : Nat) : Int := ns.getD k 0
theorem cell_ok {ns : List Int} {k : Nat} : F_p_law_cell [.scr (ns.map .int), .int k] = .ok (.sh (.int (cell ns k))) := by
  rw [F_p_law_cell_at]
  unfold s_p_law_cell
  by_cases h : k < ns.length
  · simp [h, atI_natP, cell]
  · simp [h, cell]

def mixA (c s k : Int) : Int := ((if c < 0 then -c else c) + s * 7919 + k * 104729 + 17) % 2147483647
def mixB (c s k : Int) : Int := (mixA c s k * 48271 + 5) % 2147483647
def mixC (c s k : Int) : Int := (mixB c s k * mixB c s k + mixB c s k * 69621 + k * 31) % 2147483629
theorem mixB_rng {c s k : Int} : -(2 ^ 64) < mixB c s k ∧ mixB c s k < 2 ^ 64 := by unfold mixB; omega
def numAt (c s m k : Int) (g : Bool) (r : Int) : Int := if (g && decide (0 < r)) = true then r % m else (mixC c s k / 7) % m
def restAt (m : Int) (g : Bool) (r : Int) : Int := if (g && decide (0 < r)) = true then r / m else r
def nEnv (c s m n : Int) (b : List Int × Int) (g : Bool) : L3.Env := [some (.sh (.int c)), some (.sh (.int s)), some (.sh (.int n)), some (.sh (.int m)), some (.own (b.1.map fun i => .sh (.int i))), some (.sh (.int b.2)), some (.sh (.bl g)), none, none]
theorem numAt_rng {c s m k : Int} {g : Bool} {r : Int} (hm : 0 < m) : 0 ≤ numAt c s m k g r ∧ numAt c s m k g r < m := by
  unfold numAt
  split <;> exact ⟨Int.emod_nonneg _ (by omega), Int.emod_lt_of_pos _ hm⟩
theorem numbers_turn {c s m n : Int} {b : List Int × Int} {g : Bool} {k : Nat} (hm : 0 < m) (hm2 : m < 2 ^ 200) (hl : b.1.length < 1000000) :
    Turn (.nm 7) [7, 8] b_p_law_numbers_1 (.int (0 + (k : Int))) (nEnv c s m n b g) (nEnv c s m n (b.1 ++ [numAt c s m k g b.2], restAt m g b.2) g) := by
  unfold b_p_law_numbers_1 nEnv
  obtain ⟨l, r⟩ := b
  dsimp only at hl
  refine .of ?_
  have hB : -(2 ^ 64) < mixB c s k ∧ mixB c s k < 2 ^ 64 := mixB_rng
  cases h : (g && decide (0 < r)) with
  | true => simp (disch := walk_at "d") [h, numAt, restAt]
  | false =>
    unfold mixB mixA at hB
    simp (disch := walk_at "d") [h, numAt, restAt, mixC, mixB, mixA]
def numsF (c s m : Int) (b : List Int × Int) (k : Nat) : List Int × Int := (b.1 ++ [numAt c s m k (decide (1000000000000000000 ≤ (if c < 0 then -c else c))) b.2], restAt m (decide (1000000000000000000 ≤ (if c < 0 then -c else c))) b.2)
def nums (c s : Int) (n : Nat) (m : Int) : List Int := ((List.range n).foldl (numsF c s m) ([], if c < 0 then -c else c)).1
theorem nums_ok {c s m : Int} {n : Nat} (hm : 0 < m) (hm2 : m < 2 ^ 200) (hn : n < 1000000) : F_p_law_numbers [.int c, .int s, .int n, .int m] = .ok (.own ((nums c s n m).map fun i => .sh (.int i))) := by
  rw [F_p_law_numbers_at]
  unfold s_p_law_numbers
  simp (disch := walk_at "d")
  have key := (forGo_foldN (T := .nm 7) (fg := [7, 8]) (fb := b_p_law_numbers_1) (f := fun (k : Nat) => PV.int (0 + (k : Int))) (fun b => nEnv c s m n b (decide (1000000000000000000 ≤ (if c < 0 then -c else c)))) (numsF c s m) (fun k b => b.1.length = k ∧ k ≤ n) (List.range n) 0 ([], if c < 0 then -c else c) ⟨rfl, Nat.zero_le _⟩ fun j x b hx hb => by
    obtain ⟨hj, rfl⟩ := List.getElem?_eq_some_iff.mp hx
    rw [List.length_range] at hj
    refine ⟨⟨by simp [numsF]; omega, by omega⟩, ?_⟩
    exact numbers_turn hm hm2 (by omega)).1
  rw [← rngP_eq] at key
  simp only [nEnv, List.map_nil] at key
  rw [key]
  simp [nums]
theorem nums_fold (c s m : Int) (hm : 0 < m) : ∀ (l : List Nat) (b : List Int × Int), (∀ x ∈ b.1, 0 ≤ x ∧ x < m) → (∀ x ∈ (l.foldl (numsF c s m) b).1, 0 ≤ x ∧ x < m) ∧ (l.foldl (numsF c s m) b).1.length = b.1.length + l.length
  | [], b, h => ⟨h, rfl⟩
  | k :: l, b, h => by
    have := nums_fold c s m hm l (numsF c s m b k) (by
      intro x hx
      rcases List.mem_append.mp hx with hx | hx
      · exact h x hx
      · rw [List.mem_singleton.mp hx]; exact numAt_rng hm)
    refine ⟨this.1, ?_⟩
    rw [List.foldl_cons, this.2]
    simp [numsF]
    omega
theorem nums_len {c s m : Int} {n : Nat} (hm : 0 < m) : (nums c s n m).length = n := by
  have := (nums_fold c s m hm (List.range n) ([], if c < 0 then -c else c) (by simp)).2
  simpa [nums] using this
theorem nums_mem {c s m : Int} {n : Nat} (hm : 0 < m) : ∀ x ∈ nums c s n m, 0 ≤ x ∧ x < m := (nums_fold c s m hm (List.range n) ([], if c < 0 then -c else c) (by simp)).1
end K01

end
section
/-! the heights are looked at -/
namespace K01
open PySem L2 L3
local macro_rules | `(tactic| walk_at "d") => `(tactic| first | assumption | omega | (simp only [szl, repP_length, List.length_map, List.length_append, List.length_cons, List.length_nil, List.length_range, List.length_replicate, rngP_length]; omega) | exact Eq.refl _ | (simp; done) | decide)
abbrev Hs := List (Option Int)
def hP (l : Hs) : List PV := l.map o2p
theorem hP_len {l : Hs} : (hP l).length = l.length := by simp [hP]
/-- the last one, if none is wrong -/
def scan : Option Int → Hs → Option (Option Int)
  | last, [] => some last
  | none, some _ :: _ => none
  | none, none :: t => scan none t
  | some _, none :: t => scan none t
  | some a, some b :: t => if b < a then none else scan (some b) t
theorem scan_app {l r : Hs} : ∀ {x : Option Int}, scan x (l ++ r) = (scan x l).bind fun y => scan y r := by
  induction l with
  | nil => intro x; cases x <;> rfl
  | cons h t ih =>
    intro x
    cases x with
    | none => cases h with
      | none => exact ih
      | some b => rfl
    | some a => cases h with
      | none => exact ih
      | some b =>
        show (if b < a then none else scan (some b) (t ++ r)) = (if b < a then none else scan (some b) t).bind _
        split
        · rfl
        · exact ih
def lowR : Option Int → Option Int → Bool
  | none, _ => false
  | _, none => true
  | some l, some f => false
/-- what of the rise is wrong -/
def riseBad : Option Int → Option Int → Option Int → Bool
  | none, first, _ => first.isSome
  | some _, _, none => true
  | some _, none, some _ => true
  | some r, some f, some l => decide (f + r < l)
def nth (l : Hs) (i : Nat) : Option Int := l.getD i none
theorem nth_at {l : Hs} {i : Int} (h0 : 0 ≤ i) (h : i < l.length) : atI (hP l) i = some (o2p (nth l i.toNat)) := by
  unfold hP nth
  rw [atI_map, atI_getI (d := none) h0 h]
  rfl
theorem scan_some : ∀ {l : Hs} {x : Option Int} {y : Int}, scan x l = some (some y) → (∃ a, x = some a) ∧ ∀ i < l.length, ∃ v, nth l i = some v
  | [], x, y, h => by
    cases x with
    | none => cases h
    | some a => exact ⟨⟨a, rfl⟩, fun i hi => by simp at hi⟩
  | b :: l, x, y, h => by
    cases x with
    | none => cases b with
      | none => exact absurd (scan_some (l := l) (x := none) h).1 (by simp)
      | some b => cases h
    | some a => cases b with
      | none => exact absurd (scan_some (l := l) (x := none) h).1 (by simp)
      | some b =>
        rw [scan] at h
        split at h
        · cases h
        · have ih := (scan_some (l := l) h).2
          refine ⟨⟨a, rfl⟩, fun i hi => ?_⟩
          cases i with
          | zero => exact ⟨b, rfl⟩
          | succ i => exact ih i (by simpa using hi)
def badS : PX := ⟨3, []⟩
def cEnv (h s r : PV) (x : Option Int) : L3.Env := [some (.sh h), some (.sh s), some (.sh r), some (.sh (o2p x)), none, none]
theorem check_loop {h s r : PV} : ∀ (l : Hs) (x : Option Int), (∀ y, scan x l = some y → forGo (.nm 4) [4] b_check_heights_1 (hP l) (cEnv h s r x) = .nx (cEnv h s r y)) ∧ (scan x l = none → ∃ ρ, forGo (.nm 4) [4] b_check_heights_1 (hP l) (cEnv h s r x) = .er badS ρ)
  | [], x => ⟨fun y e => by cases x <;> (cases e; rfl), fun e => by cases x <;> cases e⟩
  | a :: l, x => by
    obtain ⟨ih1, ih2⟩ := check_loop (h := h) (s := s) (r := r) l a
    have go : ∀ (c : Turn (.nm 4) [4] b_check_heights_1 (o2p a) (cEnv h s r x) (cEnv h s r a)), forGo (.nm 4) [4] b_check_heights_1 (hP (a :: l)) (cEnv h s r x) = forGo (.nm 4) [4] b_check_heights_1 (hP l) (cEnv h s r a) := fun c => c.go
    have bad : ∀ ρ, b_check_heights_1 ((cEnv h s r x).set 4 (some (.sh (o2p a)))) = .er badS ρ → ∃ ρ, forGo (.nm 4) [4] b_check_heights_1 (hP (a :: l)) (cEnv h s r x) = .er badS ρ := fun ρ e => ⟨ρ, forGo_cons_er (ρ1 := (cEnv h s r x).set 4 (some (.sh (o2p a)))) rfl e⟩
    cases x with
    | none =>
      cases a with
      | none =>
        have t : Turn (.nm 4) [4] b_check_heights_1 (o2p none) (cEnv h s r none) (cEnv h s r none) := .of (by unfold b_check_heights_1 cEnv; simp)
        rw [go t]
        exact ⟨ih1, ih2⟩
      | some b =>
        refine ⟨(fun y e => by cases e), fun _ => ?_⟩
        refine bad ((cEnv h s r none).set 4 (some (.sh (o2p (some b))))) ?_
        unfold b_check_heights_1 cEnv badS
        simp
    | some c =>
      cases a with
      | none =>
        have t : Turn (.nm 4) [4] b_check_heights_1 (o2p none) (cEnv h s r (some c)) (cEnv h s r none) := .of (by unfold b_check_heights_1 cEnv; simp)
        rw [go t]
        exact ⟨ih1, ih2⟩
      | some b =>
        by_cases hb : b < c
        · have e0 : scan (some c) (some b :: l) = none := by unfold scan; rw [if_pos hb]
          refine ⟨(fun y e => by rw [e0] at e; cases e), fun _ => ?_⟩
          refine bad ((cEnv h s r (some c)).set 4 (some (.sh (o2p (some b))))) ?_
          unfold b_check_heights_1 cEnv badS
          simp [hb]
        · have e0 : scan (some c) (some b :: l) = scan (some b) l := by rw [scan, if_neg hb]
          have t : Turn (.nm 4) [4] b_check_heights_1 (o2p (some b)) (cEnv h s r (some c)) (cEnv h s r (some b)) := .of (by unfold b_check_heights_1 cEnv; simp [hb])
          rw [go t, e0]
          exact ⟨ih1, ih2⟩
theorem check_step {l : Hs} {s : Int} {r : PV} (h : s < 1 ∨ (l.length : Int) < s) : F_check_heights [.lst (hP l), .int s, r] = .er badS := by
  rw [F_check_heights_at]
  unfold s_check_heights badS
  have e : (decide (s < 1) || decide ((l.length : Int) < s)) = true := by simpa using h
  simp [hP_len, e]
theorem check_scan {l : Hs} {s : Int} {r : PV} (h : scan (some 0) l = none) : F_check_heights [.lst (hP l), .int s, r] = .er badS := by
  by_cases c : s < 1 ∨ (l.length : Int) < s
  · exact check_step c
  · have e : (decide (s < 1) || decide ((l.length : Int) < s)) = false := by
      rw [← Bool.not_eq_true]
      simpa using c
    obtain ⟨ρ, e2⟩ := (check_loop (h := .lst (hP l)) (s := .int s) (r := r) l (some 0)).2 h
    rw [F_check_heights_at]
    unfold s_check_heights
    simp only [cEnv, o2p_some] at e2
    simp [hP_len, e, e2]
theorem check_rise {l : Hs} {s : Int} {r y : Option Int} (h1 : 1 ≤ s) (h2 : s ≤ l.length) (h : scan (some 0) l = some y) (hb : riseBad r (nth l (l.length - s.toNat)) y = true) : F_check_heights [.lst (hP l), .int s, o2p r] = .er badS := by
  have e : (decide (s < 1) || decide ((l.length : Int) < s)) = false := by
    rw [← Bool.not_eq_true]
    simp
    omega
  have e2 := (check_loop (h := .lst (hP l)) (s := .int s) (r := o2p r) l (some 0)).1 y h
  have e3 := nth_at (l := l) (i := (l.length : Int) - s) (by omega) (by omega)
  have e4 : ((l.length : Int) - s).toNat = l.length - s.toNat := by omega
  rw [e4] at e3
  rw [F_check_heights_at]
  unfold s_check_heights badS
  simp only [cEnv, o2p_some] at e2
  have hsome : ∀ v, y = some v → ∃ f', nth l (l.length - s.toNat) = some f' := fun v hv => (scan_some (by rw [← hv]; exact h)).2 _ (by omega)
  generalize nth l (l.length - s.toNat) = f at e3 hb hsome
  cases r with
  | none =>
    cases f with
    | none => cases hb
    | some f =>
      simp only [o2p_none, o2p_some] at e2 e3 ⊢
      simp [hP_len, e, e2, e3]
  | some r =>
    cases y with
    | none =>
      simp only [o2p_none, o2p_some] at e2 ⊢
      cases f <;> simp [hP_len, e, e2, e3]
    | some y =>
      obtain ⟨f', hf⟩ := hsome y rfl
      subst hf
      have hb : f' + r < y := by simpa [riseBad] using hb
      simp only [o2p_none, o2p_some] at e2 e3 ⊢
      simp [hP_len, e, e2, e3, hb]
theorem check_ok {l : Hs} {s : Int} {r y : Option Int} (h1 : 1 ≤ s) (h2 : s ≤ l.length) (h : scan (some 0) l = some y) (hb : riseBad r (nth l (l.length - s.toNat)) y = false) : F_check_heights [.lst (hP l), .int s, o2p r] = .ok (.sh .non) := by
  have e : (decide (s < 1) || decide ((l.length : Int) < s)) = false := by
    rw [← Bool.not_eq_true]
    simp
    omega
  have e2 := (check_loop (h := .lst (hP l)) (s := .int s) (r := o2p r) l (some 0)).1 y h
  have e3 := nth_at (l := l) (i := (l.length : Int) - s) (by omega) (by omega)
  have e4 : ((l.length : Int) - s).toNat = l.length - s.toNat := by omega
  rw [e4] at e3
  rw [F_check_heights_at]
  unfold s_check_heights
  simp only [cEnv, o2p_some] at e2
  have hsome : ∀ v, y = some v → ∃ f', nth l (l.length - s.toNat) = some f' := fun v hv => (scan_some (by rw [← hv]; exact h)).2 _ (by omega)
  generalize nth l (l.length - s.toNat) = f at e3 hb hsome
  cases r with
  | none =>
    cases f with
    | none =>
      simp only [o2p_none, o2p_some] at e2 e3 ⊢
      simp [hP_len, e, e2, e3]
    | some f => cases hb
  | some r =>
    cases y with
    | none => cases f <;> cases hb
    | some y =>
      obtain ⟨f', hf⟩ := hsome y rfl
      subst hf
      have hb : ¬ f' + r < y := by simpa [riseBad] using hb
      simp only [o2p_none, o2p_some] at e2 e3 ⊢
      simp [hP_len, e, e2, e3, hb]
end K01

end
section
/-! stairs that go on: their least step -/
namespace K01
open PySem L2 L3
/-- a stair as it is given: its heights, its step; r its rise -/
structure Fin (hs : List Int) (s : Nat) (r : Int) : Prop where
  s1 : 1 ≤ s
  sl : s ≤ hs.length
def st0 (hs : List Int) (s : Nat) : Nat := hs.length - s
def fv (hs : List Int) (s : Nat) (r : Int) (x : Nat) : Int := if x < hs.length then el hs x else el hs (st0 hs s + (x - st0 hs s) % s) + ((x - st0 hs s) / s : Nat) * r
section
variable {hs : List Int} {s : Nat} {r : Int} (F : Fin hs s r)
include F in
theorem fv_tail (d : Nat) : fv hs s r (st0 hs s + d) = el hs (st0 hs s + d % s) + (d / s : Nat) * r := by
  unfold fv
  have h1 := F.s1
  have h2 := F.sl
  rw [Nat.add_sub_cancel_left]
  split
  · rename_i h
    have : d < s := by unfold st0 at h; omega
    rw [Nat.mod_eq_of_lt this, Nat.div_eq_of_lt this]
    simp
  · rfl
theorem fv_lt {x : Nat} (h : x < hs.length) : fv hs s r x = el hs x := if_pos h
include F in
theorem fv_step (d : Nat) : fv hs s r (st0 hs s + d + s) = fv hs s r (st0 hs s + d) + r := by
  rw [Nat.add_assoc, fv_tail F, fv_tail F, Nat.add_mod_right, Nat.add_div_right _ F.s1]
  have : ((d / s + 1 : Nat) : Int) * r = (d / s : Nat) * r + r := by
    rw [Int.natCast_add, Int.add_mul]
    simp
  rw [this]
  omega
include F in
theorem fv_steps (d : Nat) : ∀ b : Nat, fv hs s r (st0 hs s + d + s * b) = fv hs s r (st0 hs s + d) + b * r
  | 0 => by simp
  | b + 1 => by
    have : st0 hs s + d + s * (b + 1) = st0 hs s + (d + s * b) + s := by rw [Nat.mul_add]; omega
    rw [this, fv_step F, ← Nat.add_assoc, fv_steps d b]
    have : ((b + 1 : Nat) : Int) * r = b * r + r := by
      rw [Int.natCast_add, Int.add_mul]
      simp
    rw [this]
    omega
/-- p is a step too, with the rise u -/
structure Per (hs : List Int) (s : Nat) (r : Int) (p : Nat) (u : Int) : Prop where
  p1 : 1 ≤ p
  e : (s : Int) * u = r * p
  f : ∀ d, fv hs s r (st0 hs s + d + p) = fv hs s r (st0 hs s + d) + u
include F in
theorem Per.self : Per hs s r s r := ⟨F.s1, Int.mul_comm _ _, fun d => fv_step F d⟩
theorem Per.sub {a b : Nat} {u v : Int} (A : Per hs s r a u) (B : Per hs s r b v) (h : b < a) : Per hs s r (a - b) (u - v) := by
  refine ⟨by omega, ?_, fun d => ?_⟩
  · have h1 := A.e
    have h2 := B.e
    rw [Int.mul_sub, h1, h2, ← Int.mul_sub]
    congr 1
    omega
  · have h1 := A.f d
    have h2 := B.f (d + (a - b))
    have : st0 hs s + (d + (a - b)) + b = st0 hs s + d + a := by omega
    rw [this, h1, ← Nat.add_assoc] at h2
    omega
theorem Per.one {p : Nat} {u v : Int} (hs1 : 1 ≤ s) (A : Per hs s r p u) (B : Per hs s r p v) : u = v := by
  have h : (s : Int) * u = s * v := by rw [A.e, B.e]
  exact Int.eq_of_mul_eq_mul_left (by omega) h
/-- the least one -/
structure Least (hs : List Int) (s : Nat) (r : Int) (p : Nat) (u : Int) : Prop where
  per : Per hs s r p u
  le : p ≤ s
  no : ∀ q v, q < p → ¬ Per hs s r q v
  dv : p ∣ s
include F in
theorem least_ex : ∃ p u, Least hs s r p u := by
  have key : ∀ n u, Per hs s r n u → n ≤ s → ∃ p u, Per hs s r p u ∧ p ≤ s ∧ ∀ q v, q < p → ¬ Per hs s r q v := by
    intro n
    induction n using Nat.strongRecOn with
    | ind n ih =>
      intro u A hn
      by_cases c : ∃ q v, q < n ∧ Per hs s r q v
      · obtain ⟨q, v, h1, h2⟩ := c
        exact ih q h1 v h2 (by omega)
      · exact ⟨n, u, A, hn, fun q v h1 h2 => c ⟨q, v, h1, h2⟩⟩
  obtain ⟨p, u, A, hp, no⟩ := key s r (Per.self F) (Nat.le_refl _)
  refine ⟨p, u, A, hp, no, ?_⟩
  have dv : ∀ n v, Per hs s r n v → p ∣ n := by
    intro n
    induction n using Nat.strongRecOn with
    | ind n ih =>
      intro v B
      by_cases c1 : n < p
      · exact absurd B (no n v c1)
      · by_cases c2 : n = p
        · exact c2 ▸ Nat.dvd_refl _
        · have := ih (n - p) (by have := A.p1; omega) _ (B.sub A (by omega))
          have h := Nat.dvd_add this (Nat.dvd_refl p)
          rwa [Nat.sub_add_cancel (by omega)] at h
  exact dv s r (Per.self F)
include F in
/-- looked at in one step's heights -/
theorem per_of_full {q : Nat} {v : Int} (hq : 1 ≤ q) (e : (s : Int) * v = r * q) (h : ∀ d < s, fv hs s r (st0 hs s + d + q) = fv hs s r (st0 hs s + d) + v) : Per hs s r q v := by
  refine ⟨hq, e, fun d => ?_⟩
  have hm := Nat.mod_lt d F.s1
  have hd : d = d % s + s * (d / s) := (Nat.mod_add_div d s).symm
  have h1 := h (d % s) hm
  have h2 := fv_steps F (d % s) (d / s)
  have h3 := fv_steps F (d % s + q) (d / s)
  have e1 : st0 hs s + d = st0 hs s + d % s + s * (d / s) := by omega
  have e2 : st0 hs s + d + q = st0 hs s + (d % s + q) + s * (d / s) := by omega
  rw [e2, h3, e1, h2, ← Nat.add_assoc, h1]
  omega
include F in
theorem per_of_window {q : Nat} {v : Int} (hq : 1 ≤ q) (hd : q ∣ s) (e : (s : Int) * v = r * q) (h : ∀ d, d + q < s → el hs (st0 hs s + d + q) = el hs (st0 hs s + d) + v) : Per hs s r q v := by
  obtain ⟨m, hm⟩ := hd
  have hl := F.sl
  have low : ∀ d < s, fv hs s r (st0 hs s + d) = el hs (st0 hs s + d) := fun d hd => fv_lt (by unfold st0; omega)
  have hm0 : 1 ≤ m := by
    cases m with
    | zero => have := F.s1; simp at hm; omega
    | succ m => omega
  have hmv : (m : Int) * v = r := by
    have h1 : (q : Int) * (m * v) = q * r := by
      rw [← Int.mul_assoc, ← Int.natCast_mul, ← hm, e, Int.mul_comm]
    exact Int.eq_of_mul_eq_mul_left (by omega) h1
  refine per_of_full F hq e fun d hds => ?_
  by_cases c : d + q < s
  · rw [low d hds, Nat.add_assoc, low (d + q) c, ← Nat.add_assoc, h d c]
  · have ee : ∃ e0, d + q = e0 + s ∧ e0 < q := ⟨d + q - s, by omega, by omega⟩
    obtain ⟨e0, h1, h2⟩ := ee
    have chain : ∀ j : Nat, j < m → fv hs s r (st0 hs s + (e0 + j * q)) = fv hs s r (st0 hs s + e0) + j * v := by
      intro j
      induction j with
      | zero => intro _; simp
      | succ j ih =>
        intro hj
        have ih := ih (by omega)
        have lt : e0 + (j + 1) * q < s := by
          have : (j + 1) * q + q ≤ m * q := by rw [← Nat.succ_mul]; exact Nat.mul_le_mul_right _ (by omega)
          rw [hm, Nat.mul_comm q m]
          omega
        have lt2 : e0 + j * q + q < s := by rw [Nat.add_mul] at lt; omega
        rw [low _ (by omega)] at ih
        rw [low _ lt]
        have e3 : e0 + (j + 1) * q = e0 + j * q + q := by rw [Nat.add_mul]; omega
        rw [e3, ← Nat.add_assoc, h _ lt2, ih]
        have : ((j + 1 : Nat) : Int) * v = j * v + v := by
          rw [Int.natCast_add, Int.add_mul]
          simp
        rw [this]
        omega
    have hd2 : d = e0 + (m - 1) * q := by
      have : (m - 1) * q + q = m * q := by rw [← Nat.succ_mul]; congr 1; omega
      rw [hm, Nat.mul_comm q m] at h1
      omega
    have h3 := chain (m - 1) (by omega)
    rw [← hd2] at h3
    have h4 := fv_step F e0
    have e5 : st0 hs s + d + q = st0 hs s + e0 + s := by omega
    rw [e5, h4, h3]
    have : ((m - 1 : Nat) : Int) * v + v = r := by
      rw [← hmv]
      have : ((m - 1 : Nat) : Int) = (m : Int) - 1 := by omega
      rw [this, Int.sub_mul]
      omega
    omega
/-! the start -/
def down (g : Nat → Bool) : Nat → Nat
  | 0 => 0
  | n + 1 => if g n = true then down g n else n + 1
theorem down_le (g : Nat → Bool) : ∀ n, down g n ≤ n
  | 0 => Nat.le_refl _
  | n + 1 => by
    rw [down]
    split
    · have := down_le g n; omega
    · exact Nat.le_refl _
theorem down_all (g : Nat → Bool) : ∀ n y, down g n ≤ y → y < n → g y = true
  | 0, y, _, h => by omega
  | n + 1, y, h1, h2 => by
    rw [down] at h1
    split at h1
    · rename_i c
      by_cases e : y = n
      · rw [e]; exact c
      · exact down_all g n y h1 (by omega)
    · omega
theorem down_skip (g : Nat → Bool) {m : Nat} : ∀ n, m ≤ n → (∀ y, m ≤ y → y < n → g y = true) → down g n = down g m
  | n, h, k => by
    by_cases e : m = n
    · rw [e]
    · obtain ⟨j, rfl⟩ : ∃ j, n = j + 1 := ⟨n - 1, by omega⟩
      rw [down, if_pos (k j (by omega) (by omega))]
      exact down_skip g j (by omega) fun y h1 h2 => k y h1 (by omega)
theorem down_congr {g g' : Nat → Bool} : ∀ n, (∀ y < n, g y = g' y) → down g n = down g' n
  | 0, _ => rfl
  | n + 1, h => by rw [down, down, h n (Nat.lt_succ_self _), down_congr n fun y hy => h y (Nat.lt_succ_of_lt hy)]
/-- from the start on the least step goes on -/
theorem stp_at {p : Nat} {u : Int} (A : Per hs s r p u) (hp : p ≤ s) (F : Fin hs s r) {y : Nat} (h : down (fun y => decide (el hs y + u = el hs (y + p))) (st0 hs s) ≤ y) : fv hs s r (y + p) = fv hs s r y + u := by
  have hl := F.sl
  by_cases c : y < st0 hs s
  · have := down_all _ _ _ h c
    simp only [decide_eq_true_eq] at this
    have h1 : y + p < hs.length := by unfold st0 at c; omega
    rw [fv_lt h1, fv_lt (by omega), this]
  · have := A.f (y - st0 hs s)
    rw [show st0 hs s + (y - st0 hs s) = y by omega] at this
    exact this
theorem stps_at {p : Nat} {u : Int} (A : Per hs s r p u) (hp : p ≤ s) (F : Fin hs s r) {y : Nat} (h : down (fun y => decide (el hs y + u = el hs (y + p))) (st0 hs s) ≤ y) : ∀ t : Nat, fv hs s r (y + t * p) = fv hs s r y + t * u
  | 0 => by simp
  | t + 1 => by
    have ih := stps_at A hp F h t
    have : y + (t + 1) * p = (y + t * p) + p := by rw [Nat.add_mul]; omega
    rw [this, stp_at A hp F (Nat.le_trans h (Nat.le_add_right _ _)), ih]
    have : ((t + 1 : Nat) : Int) * u = t * u + u := by
      rw [Int.natCast_add, Int.add_mul]
      simp
    rw [this]
    omega
end
end K01

end
section
/-! the normal form -/
namespace K01
open PySem L2 L3
local macro_rules | `(tactic| walk_at "d") => `(tactic| first | assumption | omega | (simp only [szl, repP_length, List.length_map, List.length_append, List.length_cons, List.length_nil, List.length_range, List.length_replicate, rngP_length]; omega) | exact Eq.refl _ | (simp; done) | decide)
theorem hP_some {hs : List Int} : hP (hs.map some) = hs.map .int := by unfold hP; rw [List.map_map]; rfl
theorem rngP_add {lo : Int} {a b : Nat} : rngP lo (a + b) = rngP lo a ++ rngP (lo + a) b := by
  unfold rngP
  rw [List.range_add, List.map_append, List.map_map]
  congr 1
  refine List.map_congr_left fun x _ => ?_
  show PV.int _ = PV.int _
  congr 1
  rw [Int.natCast_add]
  omega
theorem rngP_succ {lo : Int} {b : Nat} : rngP lo (b + 1) = .int lo :: rngP (lo + 1) b := by
  rw [Nat.add_comm, rngP_add]
  simp [rngP]
theorem forGo_pre {T : Tg} {fg : List Nat} {fb : L3.Env → RS} {ρ : L3.Env} {rest : List PV} : ∀ l : List PV, (∀ p ∈ l, Turn T fg fb p ρ ρ) → forGo T fg fb (l ++ rest) ρ = forGo T fg fb rest ρ
  | [], _ => rfl
  | p :: l, h => by
    rw [List.cons_append, (h p List.mem_cons_self).go]
    exact forGo_pre l fun q hq => h q (List.mem_cons_of_mem _ hq)
theorem rngP_mem {lo : Int} {n : Nat} {p : PV} (h : p ∈ rngP lo n) : ∃ k : Nat, k < n ∧ p = .int (lo + k) := by
  unfold rngP at h
  obtain ⟨k, hk, rfl⟩ := List.mem_map.mp h
  exact ⟨k, by simpa using hk, rfl⟩
section
variable {hs : List Int} {s : Nat} {r : Int} (F : Fin hs s r) (hb : hs.length < 100000)
def lsEnv (hs : List Int) (s : Nat) (r : Int) : L3.Env := [some (.sh (.lst (hs.map .int))), some (.sh (.int s)), some (.sh (.int r)), some (.sh (.int (st0 hs s))), none, none, none]
def win (hs : List Int) (s q : Nat) (v : Int) : Bool := (List.range (s - q)).all fun d => decide (el hs (st0 hs s + d + q) = el hs (st0 hs s + d) + v)
include F hb in
theorem ls_win {q : Nat} {v : Int} (h1 : 1 ≤ q) (h2 : q < s) : (eTst (eB bAll (aCons (eFz (fLc (.nm 6) [6] (iRg rng2R (aCons (eVar 3) (aCons (eBin pySub (eBin pyAdd (eVar 3) (eVar 1)) (eVar 4)) aNil))) tYesB c_least_step_1)) aNil))) [some (.sh (.lst (hs.map .int))), some (.sh (.int s)), some (.sh (.int r)), some (.sh (.int (st0 hs s))), some (.sh (.int q)), some (.sh (.int v)), none] = .ok (win hs s q v) := by
  have hl := F.sl
  have hst : st0 hs s + s = hs.length := by unfold st0; omega
  have lc : fLc (.nm 6) [6] (iRg rng2R (aCons (eVar 3) (aCons (eBin pySub (eBin pyAdd (eVar 3) (eVar 1)) (eVar 4)) aNil))) tYesB c_least_step_1 [some (.sh (.lst (hs.map .int))), some (.sh (.int s)), some (.sh (.int r)), some (.sh (.int (st0 hs s))), some (.sh (.int q)), some (.sh (.int v)), none] = .ok (.own ((List.range (s - q)).map fun d => .sh (.bl (decide (el hs (st0 hs s + d + q) = el hs (st0 hs s + d) + v))))) := by
    refine fLc_at (ps := rngP (st0 hs s) (s - q)) ?_ (by simp [szl]; omega) ?_
    · have e : ((st0 hs s : Int) + s - q - st0 hs s).toNat = s - q := by omega
      simp (disch := walk_at "d") [e]
    · rw [rngP_eq]
      refine lcGo_map (f := fun (k : Nat) => PV.int ((st0 hs s : Int) + (k : Int))) _ fun d hd => ?_
      have hd : d < s - q := by simpa using hd
      have e1 := el_atI (l := hs) (i := (st0 hs s : Int) + d + q) (by omega) (by omega)
      have e2 := el_atI (l := hs) (i := (st0 hs s : Int) + d) (by omega) (by omega)
      rw [show ((st0 hs s : Int) + d + q).toNat = st0 hs s + d + q by omega] at e1
      rw [show ((st0 hs s : Int) + d).toNat = st0 hs s + d by omega] at e2
      unfold c_least_step_1
      simp [e1, e2]
  simp [lc, bAll, toBls_map, win, Function.comp_def]
include F hb in
theorem ls_turn {q : Nat} (h1 : 1 ≤ q) (h2 : q < s) (hno : ¬ ∃ v, q ∣ s ∧ Per hs s r q v) : Turn (.nm 4) [4, 5] b_least_step_1 (.int q) (lsEnv hs s r) (lsEnv hs s r) := by
  have hl := F.sl
  refine .of ?_
  unfold b_least_step_1 lsEnv
  by_cases c : (s : Int) % q = 0 ∧ r * q % s = 0
  · obtain ⟨c1, c2⟩ := c
    have w := ls_win F hb (q := q) (v := r * q / s) h1 h2
    have e : (s : Int) * (r * q / s) = r * q := Int.mul_ediv_cancel' (Int.dvd_of_emod_eq_zero c2)
    have dv : q ∣ s := by
      have := Int.dvd_of_emod_eq_zero c1
      exact Int.natCast_dvd_natCast.mp this
    have wf : win hs s q (r * q / s) = false := by
      rw [← Bool.not_eq_true]
      intro z
      refine hno ⟨r * q / s, dv, per_of_window F h1 dv e fun d hd => ?_⟩
      have := List.all_eq_true.mp z d (by simp; omega)
      simpa using this
    rw [wf] at w
    simp (disch := walk_at "d") [c1, c2, ↓w]
  · have c' : (decide ((s : Int) % q = 0) && decide (r * q % s = 0)) = false := by
      rw [← Bool.not_eq_true]
      simpa using c
    simp (disch := walk_at "d") [c']
include F hb in
theorem ls_hit {q : Nat} {v : Int} (h2 : q < s) (P : Per hs s r q v) (dv : q ∣ s) : ∃ ρ1, tgS (.nm 4) (.int q) (lsEnv hs s r) = .ok ρ1 ∧ b_least_step_1 ρ1 = .rt (.sh (.int q)) := by
  have hl := F.sl
  have h1 := P.p1
  refine ⟨_, rfl, ?_⟩
  have c1 : (s : Int) % q = 0 := Int.emod_eq_zero_of_dvd (Int.natCast_dvd_natCast.mpr dv)
  have c2 : r * q % s = 0 := by rw [← P.e]; exact Int.mul_emod_right _ _
  have c3 : r * q / s = v := by
    rw [← P.e]
    exact Int.mul_ediv_cancel_left _ (by omega)
  have w := ls_win F hb (q := q) (v := v) h1 h2
  have wt : win hs s q v = true := by
    refine List.all_eq_true.mpr fun d hd => ?_
    have hd : d < s - q := by simpa using hd
    have := P.f d
    rw [fv_lt (by unfold st0; omega), fv_lt (by unfold st0; omega)] at this
    simpa using this
  rw [wt] at w
  unfold b_least_step_1 lsEnv
  simp (disch := walk_at "d") [c1, c2, c3, ↓w]
include F hb in
theorem least_step_ok {p : Nat} {u : Int} (L : Least hs s r p u) : F_least_step [.lst (hs.map .int), .int s, .int r] = .ok (.sh (.int p)) := by
  have hl := F.sl
  have hs1 := F.s1
  have p1 := L.per.p1
  have loop : forGo (.nm 4) [4, 5] b_least_step_1 (rngP 1 (s - 1)) (lsEnv hs s r) = if p < s then .rt (.sh (.int p)) else .nx (lsEnv hs s r) := by
    by_cases c : p < s
    · rw [if_pos c]
      have e : s - 1 = (p - 1) + ((s - 1 - p) + 1) := by omega
      rw [e, rngP_add, rngP_succ]
      rw [forGo_pre]
      · have e2 : (1 : Int) + (p - 1 : Nat) = (p : Int) := by omega
        rw [e2]
        obtain ⟨ρ1, a, b⟩ := ls_hit F hb c L.per L.dv
        exact forGo_cons_rt a b
      · intro q hq
        obtain ⟨k, hk, rfl⟩ := rngP_mem hq
        have : (1 : Int) + k = ((k + 1 : Nat) : Int) := by omega
        rw [this]
        exact ls_turn F hb (by omega) (by omega) fun ⟨v, _, P⟩ => L.no _ v (by omega) P
    · rw [if_neg c]
      have hps : p = s := by have := L.le; omega
      have := forGo_pre (T := .nm 4) (fg := [4, 5]) (fb := b_least_step_1) (ρ := lsEnv hs s r) (rest := []) (rngP 1 (s - 1)) fun q hq => by
        obtain ⟨k, hk, rfl⟩ := rngP_mem hq
        have : (1 : Int) + k = ((k + 1 : Nat) : Int) := by omega
        rw [this]
        exact ls_turn F hb (by omega) (by omega) fun ⟨v, _, P⟩ => L.no _ v (by omega) P
      rw [List.append_nil] at this
      rw [this]
      rfl
  rw [F_least_step_at]
  unfold s_least_step
  have e0 : ((hs.length : Int) - s) = (st0 hs s : Int) := by unfold st0; omega
  have e1 : ((s : Int) - 1).toNat = s - 1 := by omega
  simp only [lsEnv] at loop
  by_cases c : p < s
  · rw [if_pos c] at loop
    simp (disch := walk_at "d") [e0, e1, loop]
  · rw [if_neg c] at loop
    have hps : p = s := by have := L.le; omega
    simp (disch := walk_at "d") [e0, e1, loop, hps]
def nfG (hs : List Int) (p : Nat) (u : Int) : Nat → Bool := fun y => decide (el hs y + u = el hs (y + p))
/-- the start in normal form -/
def stN (hs : List Int) (s p : Nat) (u : Int) : Nat := down (nfG hs p u) (st0 hs s)
theorem stN_le {p : Nat} {u : Int} : stN hs s p u ≤ st0 hs s := down_le _ _
include F hb in
theorem nf_while {p : Nat} {u : Int} (hp : p ≤ s) (p1 : 1 ≤ p) : ∀ (n k : Nat), n ≤ st0 hs s → n < k → whGo [] (bAnd (eTst (eBin pyGt (eVar 5) (eCst (.int 0)))) (eTst (eBin pyEq (eBin pyAdd (eIdx (eVar 0) (eBin pySub (eVar 5) (eCst (.int 1)))) (eVar 4)) (eIdx (eVar 0) (eBin pyAdd (eBin pySub (eVar 5) (eCst (.int 1))) (eVar 3)))))) b_normal_form_1 k
    [some (.sh (.lst (hs.map .int))), some (.sh (.int s)), some (.sh (.int r)), some (.sh (.int p)), some (.sh (.int u)), some (.sh (.int n))] = .nx [some (.sh (.lst (hs.map .int))), some (.sh (.int s)), some (.sh (.int r)), some (.sh (.int p)), some (.sh (.int u)), some (.sh (.int (down (nfG hs p u) n)))] := by
  intro n
  have hl := F.sl
  induction n with
  | zero =>
    intro k _ hk
    obtain ⟨k, rfl⟩ : ∃ j, k = j + 1 := ⟨k - 1, by omega⟩
    rw [whGo_false]
    · rfl
    · simp
  | succ n ih =>
    intro k h hk
    obtain ⟨k, rfl⟩ : ∃ j, k = j + 1 := ⟨k - 1, by omega⟩
    have hst : st0 hs s + s = hs.length := by unfold st0; omega
    have e1 := el_at (l := hs) (i := n) (by omega)
    have e2 := el_at (l := hs) (i := n + p) (by omega)
    have e3 : ((n + 1 : Nat) : Int) - 1 = (n : Int) := by omega
    have e4 : (n : Int) + (p : Int) = ((n + p : Nat) : Int) := by omega
    have e5 : (0 : Int) < ((n + 1 : Nat) : Int) := by omega
    rw [down]
    cases c : nfG hs p u n with
    | true =>
      have c' : el hs n + u = el hs (n + p) := by simpa [nfG] using c
      rw [whGo_true (ρ2 := [some (.sh (.lst (hs.map .int))), some (.sh (.int s)), some (.sh (.int r)), some (.sh (.int p)), some (.sh (.int u)), some (.sh (.int n))])]
      · exact ih k (by omega) (by omega)
      · simp only [bAnd_at, eTst_at, eBin_at, eVar_zero, eVar_succ, eCst_at, bin2_ok, gt_int, tst_bl, eIdx_at, sub_int, idx_lst, e3, atI_map, e1, Option.map_some, R.of_some, add_int, e4, e2, eq_int, andR_ok, e5, c', decide_true, Bool.and_self]
      · unfold b_normal_form_1
        simp only [sAugI_at, eVar_zero, eVar_succ, eCst_at, augG_ok, List.set_cons_zero, List.set_cons_succ, e3]
    | false =>
      have c' : ¬ el hs n + u = el hs (n + p) := by simpa [nfG] using c
      rw [whGo_false]
      · rfl
      · simp only [bAnd_at, eTst_at, eBin_at, eVar_zero, eVar_succ, eCst_at, bin2_ok, gt_int, tst_bl, eIdx_at, sub_int, idx_lst, e3, atI_map, e1, Option.map_some, R.of_some, add_int, e4, e2, eq_int, andR_ok, e5, c', decide_true, decide_false, Bool.and_false]
include F hb in
theorem normal_ok {p : Nat} {u : Int} (L : Least hs s r p u) (h2 : hs.length < 1900) : F_normal_form [.lst (hs.map .int), .int s, .int r] = .ok (.sh (.tup [.lst ((hs.take (stN hs s p u + p)).map .int), .int p, .int u])) := by
  have hl := F.sl
  have hs1 := F.s1
  have p1 := L.per.p1
  have pl := L.le
  have h1 := least_step_ok F hb L
  have c3 : r * p / s = u := by
    rw [← L.per.e]
    exact Int.mul_ediv_cancel_left _ (by omega)
  have e0 : ((hs.length : Int) - s) = (st0 hs s : Int) := by unfold st0; omega
  have w := nf_while F hb (u := u) pl p1 (st0 hs s) 2000 (Nat.le_refl _) (by unfold st0; omega)
  have e6 : ((stN hs s p u : Int) + p).toNat = stN hs s p u + p := by omega
  rw [F_normal_form_at]
  unfold s_normal_form
  have w' : down (nfG hs p u) (st0 hs s) = stN hs s p u := rfl
  rw [w'] at w
  simp (disch := walk_at "d") [h1, c3, e0, fuel_normal_form, w, e6]
end
theorem nf_none {hs : List Int} {t : Hs} {S : PV} : F_normal_form [.lst (hP (hs.map some ++ none :: t)), S, .non] = .ok (.sh (.tup [.lst (hP (hs.map some ++ [none])), .int 1, .non])) := by
  have flat : (hP (hs.map some ++ none :: t)).all flatP = true := by
    unfold hP
    rw [List.all_map]
    refine List.all_eq_true.mpr fun x _ => ?_
    cases x <;> rfl
  have idx : ixG (.lst (hP (hs.map some ++ none :: t))) [.non] = .ok (.int hs.length) := by
    show (if flatP .non = true ∧ (hP (hs.map some ++ none :: t)).all flatP = true then R.of ((((hP (hs.map some ++ none :: t)).map toV).findIdx? fun z => eqV z (toV .non)).map fun j => PV.int (j : Nat)) else R.no) = _
    rw [if_pos ⟨rfl, flat⟩]
    have : ((hP (hs.map some ++ none :: t)).map toV).findIdx? (fun z => eqV z (toV .non)) = some hs.length := by
      clear flat
      unfold hP
      induction hs with
      | nil => rfl
      | cons a hs ih =>
        rw [List.map_cons, List.cons_append, List.map_cons, List.map_cons, List.findIdx?_cons]
        have : eqV (toV (o2p (some a))) (toV .non) = false := rfl
        rw [this, ih]
        rfl
    rw [this]
    rfl
  have tk : (hP (hs.map some ++ none :: t)).take (hs.length + 1) = hP (hs.map some ++ [none]) := by
    unfold hP
    rw [← List.map_take]
    congr 1
    have : hs.map some ++ none :: t = (hs.map some ++ [none]) ++ t := by simp
    rw [this, List.take_append_of_le_length (by simp), List.take_of_length_le (by simp)]
  have e6 : ((hs.length : Int) + 1).toNat = hs.length + 1 := by omega
  rw [F_normal_form_at]
  unfold s_normal_form
  simp (disch := walk_at "d") [idx, e6, tk]
end K01

end
section
/-! a stair is made; its values -/
namespace K01
open PySem L2 L3
local macro_rules | `(tactic| walk_at "d") => `(tactic| first | assumption | omega | (simp only [szl, repP_length, List.length_map, List.length_append, List.length_cons, List.length_nil, List.length_range, List.length_replicate, rngP_length]; omega) | exact Eq.refl _ | (simp; done) | decide)
/-- a stair: its heights, start, step, rise -/
def stO (l : List PV) (b : Int) (p : Int) (u : Option Int) : List (Str × OV) := [("heights", .sh (.tup l)), ("start", .sh (.int b)), ("step", .sh (.int p)), ("rise", .sh (o2p u))]
def stF (l : List PV) (b : Int) (p : Int) (u : Option Int) : List (Str × PV) := [("heights", .tup l), ("start", .int b), ("step", .int p), ("rise", o2p u)]
def stP (l : List PV) (b : Int) (p : Int) (u : Option Int) : PV := .ins 4 (stF l b p u)
section
variable {l : List PV} {b p : Int} {u : Option Int}
theorem pvf_st : OV.pvf (stO l b p u) = stF l b p u := by simp [stO, stF]
@[simp] theorem lk_heights : List.lookup ("heights" : Str) (stF l b p u) = some (.tup l) := nr (by kernel_rfl)
@[simp] theorem lk_start : List.lookup ("start" : Str) (stF l b p u) = some (.int b) := nr (by kernel_rfl)
@[simp] theorem lk_step : List.lookup ("step" : Str) (stF l b p u) = some (.int p) := nr (by kernel_rfl)
@[simp] theorem lk_rise : List.lookup ("rise" : Str) (stF l b p u) = some (o2p u) := nr (by kernel_rfl)
@[simp] theorem lk_at : List.lookup ("at" : Str) (stF l b p u) = none := nr (by kernel_rfl)
@[simp] theorem lk_pace : List.lookup ("pace" : Str) (stF l b p u) = none := nr (by kernel_rfl)
@[simp] theorem f_heights : fldR "heights" ok_heights (.ok (stP l b p u)) = .ok (.tup l) := by unfold stP; simp
@[simp] theorem f_start : fldR "start" ok_start (.ok (stP l b p u)) = .ok (.int b) := by unfold stP; simp
@[simp] theorem f_step : fldR "step" ok_step (.ok (stP l b p u)) = .ok (.int p) := by unfold stP; simp
@[simp] theorem f_rise : fldR "rise" ok_rise (.ok (stP l b p u)) = .ok (o2p u) := by unfold stP; simp
def manyP : PX := ⟨2, [("limit", .int 600)]⟩
theorem o2p_n {x : PV} (h : x = .non ∨ ∃ i, x = .int i) : ∃ o, x = o2p o := by
  rcases h with rfl | ⟨i, rfl⟩
  · exact ⟨none, rfl⟩
  · exact ⟨some i, rfl⟩
theorem init_bad {l : Hs} {s r : PV} (h : F_check_heights [.lst (hP l), s, r] = .er badS) : F_Stair_init [.lst (hP l), s, r] = .er badS := by
  rw [F_Stair_init_at]
  unfold s_Stair_init badS
  simp only [badS] at h
  simp [h]
theorem init_go {l : Hs} {s r : PV} {t : List PV} (h : F_check_heights [.lst (hP l), s, r] = .ok (.sh .non)) (h2 : F_normal_form [.lst (hP l), s, r] = .ok (.sh (.tup [.lst t, .int p, o2p u]))) (ht : t.length ≤ 600) : F_Stair_init [.lst (hP l), s, r] = .ok (stO t (t.length - p) p u) := by
  have e : ¬ (600 : Int) < t.length := by omega
  rw [F_Stair_init_at]
  unfold s_Stair_init
  simp (disch := walk_at "d") [h, h2, e]
  rfl
theorem init_many {l : Hs} {s r : PV} {t : List PV} (h : F_check_heights [.lst (hP l), s, r] = .ok (.sh .non)) (h2 : F_normal_form [.lst (hP l), s, r] = .ok (.sh (.tup [.lst t, .int p, o2p u]))) (ht : 600 < t.length) : F_Stair_init [.lst (hP l), s, r] = .er manyP := by
  have e : (600 : Int) < t.length := by omega
  rw [F_Stair_init_at]
  unfold s_Stair_init manyP
  simp (disch := walk_at "d") [h, h2, e]
def badA (a : Int) : PX := ⟨1, [("amount", .int a)]⟩
theorem at_neg {a : Int} (h : a < 0) : F_Stair_at [stP l b p u, .int a] = .er (badA a) := by
  rw [F_Stair_at_at]
  unfold s_Stair_at badA
  simp [h]
theorem at_in {a : Int} {x : PV} (h0 : 0 ≤ a) (h1 : a < l.length) (hx : atI l a = some x) : F_Stair_at [stP l b p u, .int a] = .ok (.sh x) := by
  have e : ¬ a < 0 := by omega
  rw [F_Stair_at_at]
  unfold s_Stair_at
  simp [e, h1, hx]
theorem at_none {a : Int} (h0 : 0 ≤ a) (h1 : (l.length : Int) ≤ a) : F_Stair_at [stP l b p none, .int a] = .ok (.sh .non) := by
  have e : ¬ a < 0 := by omega
  have e1 : ¬ a < l.length := by omega
  rw [F_Stair_at_at]
  unfold s_Stair_at
  simp [e, e1]
theorem at_far {a v x : Int} (h0 : 0 ≤ a) (h1 : (l.length : Int) ≤ a) (hp : 0 < p) (hp2 : p < 1000000) (hb : ((a - b) / p).natAbs < 2 ^ 1000) (hv : v.natAbs < 2 ^ 1000) (hx : atI l (a - (a - b) / p * p) = some (.int x)) : F_Stair_at [stP l b p (some v), .int a] = .ok (.sh (.int (x + (a - b) / p * v))) := by
  have e : ¬ a < 0 := by omega
  have e1 : ¬ a < l.length := by omega
  have m := mul_big hb hv
  rw [F_Stair_at_at]
  unfold s_Stair_at
  simp (disch := walk_at "d") [e, e1, hx, m]
/-! the law's own values -/
theorem value_in {l : Hs} {s x : Int} {r : PV} (h0 : 0 ≤ x) (h : x < l.length) : F_p_law_value [.lst (hP l), .int s, r, .int x] = .ok (.sh (o2p (nth l x.toNat))) := by
  have e := nth_at (l := l) (i := x) h0 h
  rw [F_p_law_value_at]
  unfold s_p_law_value
  simp [hP_len, h, e]
theorem value_none {l : Hs} {s x : Int} (h : (l.length : Int) ≤ x) : F_p_law_value [.lst (hP l), .int s, .non, .int x] = .ok (.sh .non) := by
  have h' : ¬ x < l.length := by omega
  rw [F_p_law_value_at]
  unfold s_p_law_value
  simp [hP_len, h']
theorem value_ok {hs : List Int} {s : Nat} {r : Int} (F : Fin hs s r) {x : Nat} (hx : x < 2 ^ 900) (hl : hs.length < 100000) (hr : r.natAbs < 2 ^ 1000) : F_p_law_value [.lst (hs.map .int), .int s, .int r, .int x] = .ok (.sh (.int (fv hs s r x))) := by
  have hs1 := F.s1
  have hsl := F.sl
  by_cases h : x < hs.length
  · have := value_in (l := hs.map some) (s := s) (x := x) (r := .int r) (by omega) (by simp; omega)
    rw [hP_some] at this
    rw [this, fv_lt h]
    unfold nth el
    simp [List.getD_eq_getElem?_getD, h]
  · have hm := Nat.mod_lt (x - st0 hs s) hs1
    have hst : st0 hs s + s = hs.length := by unfold st0; omega
    have e := el_at (l := hs) (i := st0 hs s + (x - st0 hs s) % s) (by omega)
    have e0 : ((hs.length : Int) - s) = (st0 hs s : Int) := by omega
    have e1 : (x : Int) - (st0 hs s : Int) = ((x - st0 hs s : Nat) : Int) := by omega
    have e2 : (st0 hs s : Int) + ((x - st0 hs s : Nat) : Int) % (s : Int) = ((st0 hs s + (x - st0 hs s) % s : Nat) : Int) := by
      rw [Int.natCast_add, Int.natCast_emod]
    have e3 : ((x - st0 hs s : Nat) : Int) / (s : Int) = (((x - st0 hs s) / s : Nat) : Int) := by rw [Int.natCast_ediv]
    have h' : ¬ (x : Int) < hs.length := by omega
    have hq : (((x - st0 hs s) / s : Nat) : Int).natAbs < 2 ^ 1000 := by
      have : (x - st0 hs s) / s ≤ x := Nat.le_trans (Nat.div_le_self _ _) (Nat.sub_le _ _)
      have : (((x - st0 hs s) / s : Nat) : Int).natAbs = (x - st0 hs s) / s := Int.natAbs_natCast _
      omega
    have m := mul_big hq hr
    unfold fv
    rw [if_neg h, F_p_law_value_at]
    unfold s_p_law_value
    simp (disch := walk_at "d") only [sSeq_at, sIf_at, eTst_at, eBin_at, eVar_zero, eVar_succ, eB_at, aCons_at, aNil_at, cons2_ok, app1_ok, len_lst, List.length_map, bin2_ok, lt_int, tst_bl, h', decide_false, ifS_false, sNx_at, seqS_nx, eIsN_at, isN1_ok, isN_int, bne_self_eq_false, sSet_at, mSh_at, sub_int, e0, shM_ok, setS_ok, List.set_cons_zero, List.set_cons_succ, e1, fdiv_int, e3, int_int, mod_int, sRt_at, eIdx_at, add_int, e2, idx_lst, atI_map, e, Option.map_some, R.of_some, m, rtS_ok, outS_rt]
end
end K01

end
section
/-! the law's own normal form -/
namespace K01
open PySem L2 L3
local macro_rules | `(tactic| walk_at "d") => `(tactic| first | assumption | omega | (simp only [szl, repP_length, List.length_map, List.length_append, List.length_cons, List.length_nil, List.length_range, List.length_replicate, rngP_length]; omega) | exact Eq.refl _ | (simp; done) | decide)
theorem is_o2p {x y : Option Int} : F_p_law_is [o2p x, o2p y] = .ok (.sh (.bl (decide (x = y)))) := by
  rw [F_p_law_is_at]
  unfold s_p_law_is
  cases y with
  | none => cases x <;> simp
  | some y => cases x <;> simp
theorem is_int {x y : Int} : F_p_law_is [.int x, .int y] = .ok (.sh (.bl (decide (x = y)))) := by
  have := is_o2p (x := some x) (y := some y)
  simpa using this
section
variable {hs : List Int} {s : Nat} {r : Int} (F : Fin hs s r) (hb : hs.length < 100000) (hr : r.natAbs < 2 ^ 1000)
def gL (hs : List Int) (s : Nat) (r : Int) (q : Nat) (v : Int) : Nat → Bool := fun y => decide (fv hs s r (y + q) = el hs y + v)
def lStp (hs : List Int) (s : Nat) (r : Int) (q : Nat) (v : Int) (b : Nat × Option OV) (k : Nat) : Nat × Option OV := (if (decide (b.1 = hs.length - 1 - k + 1) && gL hs s r q v (hs.length - 1 - k)) = true then hs.length - 1 - k else b.1, some (.sh (.int (hs.length - 1 - k : Nat))))
def lEnv (hs : List Int) (s : Nat) (r : Int) (q : Nat) (v : Int) (b : Nat × Option OV) : L3.Env := [some (.sh (.lst (hs.map .int))), some (.sh (.int s)), some (.sh (.int r)), none, some (.sh (.int q)), some (.sh (.int v)), some (.sh (.int b.1)), b.2]
theorem l_fold {q : Nat} {v : Int} : ∀ (m : Nat) (n : Nat) (w : Option OV), m ≤ hs.length → m ≤ n → ((List.range' (hs.length - m) m).foldl (lStp hs s r q v) (n, w)).1 = if n = m then down (gL hs s r q v) m else n
  | 0, n, w, _, _ => by
    simp [down]
  | m + 1, n, w, h, hn => by
    have e : hs.length - (m + 1) + 1 = hs.length - m := by omega
    rw [List.range'_succ, List.foldl_cons, e]
    have ex : hs.length - 1 - (hs.length - (m + 1)) = m := by omega
    have es : lStp hs s r q v (n, w) (hs.length - (m + 1)) = (if (decide (n = m + 1) && gL hs s r q v m) = true then m else n, some (.sh (.int (m : Nat)))) := by
      unfold lStp
      rw [ex]
    rw [es]
    have ih := fun (n : Nat) (w : Option OV) => l_fold (q := q) (v := v) m n w (by omega)
    by_cases c : n = m + 1
    · subst c
      rw [if_pos rfl, down]
      cases hg : gL hs s r q v m with
      | true =>
        simp only [decide_true, Bool.and_self, if_true]
        rw [ih _ _ (Nat.le_refl _), if_pos rfl]
      | false =>
        simp only [Bool.and_false, Bool.false_eq_true, if_false]
        rw [ih _ _ (by omega), if_neg (by omega)]
    · rw [if_neg c]
      have : (decide (n = m + 1) && gL hs s r q v m) = false := by simp [c]
      rw [this]
      simp only [Bool.false_eq_true, if_false]
      rw [ih _ _ (by omega), if_neg (by omega)]
include F hb hr in
theorem l_turn {q : Nat} {v : Int} (hq : q < 100000) {b : Nat × Option OV} {k : Nat} (hk : k < hs.length) : Turn (.nm 3) [3] b_p_law_normal_2 (.int (0 + (k : Int))) (lEnv hs s r q v b) (lEnv hs s r q v (lStp hs s r q v b k)) := by
  obtain ⟨n, w⟩ := b
  have e1 : (hs.length : Int) - 1 - (k : Int) = ((hs.length - 1 - k : Nat) : Int) := by omega
  have e2 := el_at (l := hs) (i := hs.length - 1 - k) (by omega)
  have e3 := value_ok F (x := hs.length - 1 - k + q) (by omega) hb hr
  have e4 : ((hs.length - 1 - k : Nat) : Int) + (q : Int) = ((hs.length - 1 - k + q : Nat) : Int) := by omega
  have e5 : decide ((n : Int) = ((hs.length - 1 - k : Nat) : Int) + 1) = decide (n = hs.length - 1 - k + 1) := decide_eq_decide.mpr (by omega)
  generalize hs.length - 1 - k = x at e1 e2 e3 e4 e5
  refine .of ?_
  unfold b_p_law_normal_2 lEnv lStp
  have e6 : hs.length - 1 - k = x := by omega
  rw [e6]
  have base : b_p_law_normal_2 = b_p_law_normal_2 := rfl
  cases c : (decide (n = x + 1) && gL hs s r q v x) with
  | true =>
    have c' : (decide ((n : Int) = (x : Int) + 1) && decide (fv hs s r (x + q) = el hs x + v)) = true := by rw [e5]; exact c
    simp only [sSeq_at, sSet_at, mSh_at, eBin_at, eB_at, aCons_at, aNil_at, eVar_zero, eVar_succ, List.set_cons_zero, List.set_cons_succ, cons2_ok, app1_ok, len_lst, List.length_map, bin2_ok, eCst_at, sub_int, Int.zero_add, e1, shM_ok, setS_ok, seqS_nx, sIf_at, bAnd_at, eTst_at, add_int, eq_int, tst_bl, eFz_at, fCall_at, call1_ok, List.append_nil, List.cons_append, List.nil_append, e4, e3, capR_true, fz1_ok, pv_sh, eIdx_at, idx_lst, atI_map, e2, Option.map_some, R.of_some, andR_ok, c', ifS_true, endT_nx, wipeE_cons, wipeE_nil]
    simp
  | false =>
    have c' : (decide ((n : Int) = (x : Int) + 1) && decide (fv hs s r (x + q) = el hs x + v)) = false := by rw [e5]; exact c
    simp only [sSeq_at, sSet_at, mSh_at, eBin_at, eB_at, aCons_at, aNil_at, eVar_zero, eVar_succ, List.set_cons_zero, List.set_cons_succ, cons2_ok, app1_ok, len_lst, List.length_map, bin2_ok, eCst_at, sub_int, Int.zero_add, e1, shM_ok, setS_ok, seqS_nx, sIf_at, bAnd_at, eTst_at, add_int, eq_int, tst_bl, eFz_at, fCall_at, call1_ok, List.append_nil, List.cons_append, List.nil_append, e4, e3, capR_true, fz1_ok, pv_sh, eIdx_at, idx_lst, atI_map, e2, Option.map_some, R.of_some, andR_ok, c', ifS_false, sNx_at, endT_nx, wipeE_cons, wipeE_nil]
    simp
include F hb hr in
theorem l_loop {q : Nat} {v : Int} (hq : q < 100000) {w : Option OV} : ∃ w', forGo (.nm 3) [3] b_p_law_normal_2 (rngP 0 hs.length) (lEnv hs s r q v (hs.length, w)) = .nx (lEnv hs s r q v (down (gL hs s r q v) hs.length, w')) := by
  have key := (forGo_foldN (T := .nm 3) (fg := [3]) (fb := b_p_law_normal_2) (f := fun (k : Nat) => PV.int (0 + (k : Int))) (lEnv hs s r q v) (lStp hs s r q v) (fun k _ => k ≤ hs.length) (List.range hs.length) 0 (hs.length, w) (Nat.zero_le _) fun j x b hx hi => by
    obtain ⟨hj, rfl⟩ := List.getElem?_eq_some_iff.mp hx
    simp only [List.length_range] at hj
    exact ⟨by omega, l_turn F hb hr hq (by simpa using hj)⟩).1
  rw [← rngP_eq] at key
  have f := l_fold (hs := hs) (s := s) (r := r) (q := q) (v := v) hs.length hs.length w (Nat.le_refl _) (Nat.le_refl _)
  rw [if_pos rfl, Nat.sub_self, ← List.range_eq_range'] at f
  refine ⟨((List.range hs.length).foldl (lStp hs s r q v) (hs.length, w)).2, ?_⟩
  rw [key, ← f]
def nEnvL (hs : List Int) (s : Nat) (r : Int) (w : Option OV) : L3.Env := [some (.sh (.lst (hs.map .int))), some (.sh (.int s)), some (.sh (.int r)), none, none, none, none, w]
include F hb hr in
theorem n_turn {q : Nat} (h1 : 1 ≤ q) (hq : q < 100000) (hno : ¬ ∃ v, Per hs s r q v) {w : Option OV} : ∃ w', Turn (.nm 4) [3, 4, 5, 6] b_p_law_normal_3 (.int q) (nEnvL hs s r w) (nEnvL hs s r w') := by
  have hs1 := F.s1
  have hsl := F.sl
  by_cases c : r * q % s = 0
  · obtain ⟨w', e⟩ := l_loop F hb hr (v := r * q / s) hq (w := w)
    have ee : (s : Int) * (r * q / s) = r * q := Int.mul_ediv_cancel' (Int.dvd_of_emod_eq_zero c)
    have lt : ¬ ((down (gL hs s r q (r * q / s)) hs.length : Nat) : Int) ≤ (hs.length : Int) - s := by
      intro z
      refine hno ⟨r * q / s, per_of_full F h1 ee fun d hd => ?_⟩
      have hst : st0 hs s + s = hs.length := by unfold st0; omega
      have := down_all (gL hs s r q (r * q / s)) hs.length (st0 hs s + d) (by omega) (show st0 hs s + d < hs.length by omega)
      simp only [gL, decide_eq_true_eq] at this
      rw [this, fv_lt (by omega)]
    refine ⟨w', .of ?_⟩
    unfold b_p_law_normal_3 nEnvL
    simp only [lEnv] at e
    simp (disch := walk_at "d") [c, e, lt]
  · refine ⟨w, .of ?_⟩
    unfold b_p_law_normal_3 nEnvL
    simp (disch := walk_at "d") [c]
theorem take_fv {n : Nat} (hn : n ≤ hs.length) : (List.range n).map (fun x => fv hs s r x) = hs.take n := by
  apply List.ext_getElem
  · simp [hn]
  · intro i h1 h2
    have hi : i < n := by simpa using h1
    simp only [List.getElem_map, List.getElem_range, List.getElem_take]
    rw [fv_lt (by omega), el_of (by omega)]
include F hb hr in
theorem law_normal_ok {p : Nat} {u : Int} (L : Least hs s r p u) : F_p_law_normal [.lst (hs.map .int), .int s, .int r] = .ok (.sh (.lst [.lst ((hs.take (stN hs s p u + p)).map .int), .int p, .int u])) := by
  have hs1 := F.s1
  have hsl := F.sl
  have p1 := L.per.p1
  have pl := L.le
  have hst : st0 hs s + s = hs.length := by unfold st0; omega
  obtain ⟨ρ', pre, w, rfl⟩ := forGo_invA (T := .nm 4) (fg := [3, 4, 5, 6]) (fb := b_p_law_normal_3) (f := fun (k : Nat) => PV.int (1 + (k : Int))) (fun _ ρ => ∃ w, ρ = nEnvL hs s r w) (List.range (p - 1)) 0 (nEnvL hs s r none) ⟨none, rfl⟩ fun i x ρ hx ⟨w, e⟩ => by
    obtain ⟨hj, rfl⟩ := List.getElem?_eq_some_iff.mp hx
    simp only [List.length_range] at hj
    subst e
    simp only [List.getElem_range]
    have : (1 : Int) + i = ((i + 1 : Nat) : Int) := by omega
    rw [this]
    obtain ⟨w', t⟩ := n_turn F hb hr (q := i + 1) (by omega) (by omega) (fun ⟨v, P⟩ => L.no _ v (by omega) P) (w := w)
    exact ⟨_, t, w', rfl⟩
  rw [← rngP_eq] at pre
  obtain ⟨w', e⟩ := l_loop F hb hr (q := p) (v := u) (by omega) (w := w)
  have c3 : r * p / s = u := by
    rw [← L.per.e]
    exact Int.mul_ediv_cancel_left _ (by omega)
  have c2 : r * p % s = 0 := by rw [← L.per.e]; exact Int.mul_emod_right _ _
  have dn : down (gL hs s r p u) hs.length = stN hs s p u := by
    have h1 := down_skip (gL hs s r p u) (m := st0 hs s) hs.length (by omega) fun y h1 h2 => by
      have := L.per.f (y - st0 hs s)
      rw [show st0 hs s + (y - st0 hs s) = y by omega] at this
      simp only [gL, decide_eq_true_eq]
      rw [this, fv_lt h2]
    rw [h1]
    unfold stN
    refine down_congr _ fun y hy => ?_
    unfold gL nfG
    rw [fv_lt (by omega)]
    exact decide_eq_decide.mpr ⟨fun z => z.symm, fun z => z.symm⟩
  have sle := stN_le (hs := hs) (s := s) (p := p) (u := u)
  have hit : ∃ ρ1, tgS (.nm 4) (.int p) (nEnvL hs s r w) = .ok ρ1 ∧ b_p_law_normal_3 ρ1 = .rt (.sh (.lst [.lst ((hs.take (stN hs s p u + p)).map .int), .int p, .int u])) := by
    refine ⟨_, rfl, ?_⟩
    rw [dn] at e
    have le : ((stN hs s p u : Nat) : Int) ≤ (hs.length : Int) - s := by omega
    have lc : ∀ x3, fLc (.nm 7) [7] (iRg rng1R (aCons (eBin pyAdd (eVar 6) (eVar 4)) aNil)) tYesB c_p_law_normal_1 [some (.sh (.lst (hs.map .int))), some (.sh (.int s)), some (.sh (.int r)), x3, some (.sh (.int p)), some (.sh (.int u)), some (.sh (.int (stN hs s p u : Nat))), w'] = .ok (.own ((List.range (stN hs s p u + p)).map fun x => .sh (.int (fv hs s r x)))) := by
      intro x3
      refine fLc_at (ps := rngP 0 (stN hs s p u + p)) ?_ (by simp [szl]; omega) ?_
      · have : ((stN hs s p u : Nat) : Int) + (p : Int) = ((stN hs s p u + p : Nat) : Int) := by omega
        simp (disch := walk_at "d") only [iRg_at, aCons_at, aNil_at, eBin_at, eVar_zero, eVar_succ, bin2_ok, add_int, cons2_ok, app1_ok, this, rng1_int, Int.toNat_natCast]
      · rw [rngP_eq]
        refine lcGo_map (f := fun (k : Nat) => PV.int (0 + (k : Int))) _ fun x hx => ?_
        have hx : x < stN hs s p u + p := by simpa using hx
        have ev := value_ok F (x := x) (by omega) hb hr
        unfold c_p_law_normal_1
        simp [ev]
    have tk := take_fv (hs := hs) (s := s) (r := r) (n := stN hs s p u + p) (by omega)
    have tk2 : (List.range (stN hs s p u + p)).map (fun x => PV.int (fv hs s r x)) = (hs.take (stN hs s p u + p)).map .int := by rw [← tk, List.map_map]; rfl
    unfold b_p_law_normal_3 nEnvL
    simp only [lEnv] at e
    simp (disch := walk_at "d") only [sIf_at, eTst_at, eBin_at, eB_at, aCons_at, aNil_at, eVar_zero, eVar_succ, List.set_cons_zero, List.set_cons_succ, mul_int, bin2_ok, cons2_ok, app1_ok, int_int, mod_int, eCst_at, eq_int, tst_bl, c2, decide_true, ifS_true, sSeq_at, sSet_at, mSh_at, fdiv_int, c3, shM_ok, setS_ok, seqS_nx, len_lst, List.length_map, sFor_at, iRg_at, rng1_int, Int.toNat_natCast, forS_ok, wipeE_cons, wipeE_nil, e, le_int, sub_int, le, sRt_at, eFz_at, fLst_at, lc, fz1_ok, pv_own, pvs_map, pv_sh, tk2, mkLst_ok, pvs_cons, pvs_nil, List.map_cons, List.map_nil, rtS_ok]
  obtain ⟨ρ1, h1, h2⟩ := hit
  have loop : forGo (.nm 4) [3, 4, 5, 6] b_p_law_normal_3 (rngP 1 s) (nEnvL hs s r none) = .rt (.sh (.lst [.lst ((hs.take (stN hs s p u + p)).map .int), .int p, .int u])) := by
    have e : s = (p - 1) + ((s - p) + 1) := by omega
    have e2 : (1 : Int) + (p - 1 : Nat) = (p : Int) := by omega
    have e3 : rngP 1 s = rngP 1 (p - 1) ++ .int p :: rngP (p + 1) (s - p) := by
      have := rngP_add (lo := 1) (a := p - 1) (b := (s - p) + 1)
      rw [← e, rngP_succ, e2] at this
      exact this
    rw [e3, pre]
    exact forGo_cons_rt h1 h2
  have e1 : ((s : Int) + 1 - 1).toNat = s := by omega
  rw [F_p_law_normal_at]
  unfold s_p_law_normal
  simp only [nEnvL] at loop
  simp (disch := walk_at "d") [e1, loop]
end
/-! a stair that ends in None -/
theorem law_normal_none {hs : List Int} {t : Hs} {s : Int} (hb : (hs.map some ++ none :: t).length < 100000) : F_p_law_normal [.lst (hP (hs.map some ++ none :: t)), .int s, .non] = .ok (.sh (.lst [.lst (hP (hs.map some ++ [none])), .int 1, .non])) := by
  have hn : ∀ i < hs.length, nth (hs.map some ++ none :: t) i = some (el hs i) := fun i hi => by
    unfold nth
    rw [getD_of (by simp; omega), List.getElem_append_left (by simpa using hi), List.getElem_map, el_of hi]
  have hn2 : nth (hs.map some ++ none :: t) hs.length = none := by
    unfold nth
    rw [getD_of (by simp), List.getElem_append_right (by simp)]
    simp
  have tk : (hP (hs.map some ++ none :: t)).take (hs.length + 1) = hP (hs.map some ++ [none]) := by
    unfold hP
    rw [← List.map_take]
    congr 1
    have : hs.map some ++ none :: t = (hs.map some ++ [none]) ++ t := by simp
    rw [this, List.take_append_of_le_length (by simp), List.take_of_length_le (by simp)]
  have hl : (hs.map some ++ none :: t).length = hs.length + (t.length + 1) := by simp
  have loop : forGo (.nm 3) [3] b_p_law_normal_1 (rngP 0 (hs.map some ++ none :: t).length) [some (.sh (.lst (hP (hs.map some ++ none :: t)))), some (.sh (.int s)), some (.sh .non), none, none, none, none, none] = .rt (.sh (.lst [.lst (hP (hs.map some ++ [none])), .int 1, .non])) := by
    rw [hl, rngP_add, rngP_succ, forGo_pre]
    · refine forGo_cons_rt rfl ?_
      have e1 := nth_at (l := hs.map some ++ none :: t) (i := (0 : Int) + hs.length) (by omega) (by simp; omega)
      rw [show ((0 : Int) + hs.length).toNat = hs.length by omega, hn2] at e1
      have e2 : ((0 : Int) + (hs.length : Int) + 1).toNat = hs.length + 1 := by omega
      unfold b_p_law_normal_1
      simp only [List.set_cons_zero, List.set_cons_succ, sIf_at, eTst_at, eIsN_at, eIdx_at, eVar_zero, eVar_succ, bin2_ok, idx_lst, e1, o2p_none, R.of_some, isN1_ok, isN_non]
      simp (disch := walk_at "d") [tk]
    · intro q hq
      obtain ⟨k, hk, rfl⟩ := rngP_mem hq
      have e1 := nth_at (l := hs.map some ++ none :: t) (i := (0 : Int) + k) (by omega) (by simp; omega)
      rw [show ((0 : Int) + k).toNat = k by omega, hn k hk] at e1
      refine .of ?_
      unfold b_p_law_normal_1
      simp only [List.set_cons_zero, List.set_cons_succ, sIf_at, eTst_at, eIsN_at, eIdx_at, eVar_zero, eVar_succ, bin2_ok, idx_lst, e1, o2p_some, R.of_some, isN1_ok, isN_int]
      simp
  rw [F_p_law_normal_at]
  unfold s_p_law_normal
  rw [hl] at loop hb
  have e7 : ((hs.length : Int) + ((t.length : Int) + 1)).toNat = hs.length + (t.length + 1) := by omega
  simp (disch := walk_at "d") [hP_len, e7, loop]
/-- a stair that is as it is due -/
theorem same_ok {l : Hs} {p : Int} {u : Option Int} (hl : l.length < 100000) : F_p_law_same [stP (hP l) (l.length - p) p u, .lst [.lst (hP l), .int p, o2p u]] = .ok (.sh (.bl true)) := by
  have loop : forGo (.nm 3) [3] b_p_law_same_1 (rngP 0 l.length) [some (.sh (stP (hP l) (l.length - p) p u)), some (.sh (.lst [.lst (hP l), .int p, o2p u])), some (.sh (.tup (hP l))), none] = .nx [some (.sh (stP (hP l) (l.length - p) p u)), some (.sh (.lst [.lst (hP l), .int p, o2p u])), some (.sh (.tup (hP l))), none] := by
    rw [rngP_eq]
    refine forGo_same _ fun k hk => .of ?_
    have hk : k < l.length := by simpa using hk
    have e := nth_at (l := l) (i := k) (by omega) (by omega)
    have i1 := is_o2p (x := nth l k) (y := nth l k)
    unfold b_p_law_same_1
    simp only [List.set_cons_zero, List.set_cons_succ, Int.zero_add]
    simp [e, i1]
  have i2 := is_int (x := (l.length : Int) - p) (y := (l.length : Int) - p)
  have i3 := is_int (x := p) (y := p)
  have i4 := is_o2p (x := u) (y := u)
  rw [F_p_law_same_at]
  unfold s_p_law_same
  simp (disch := walk_at "d") [hP_len, loop, i2, i3, i4]
end K01

end
section
/-! what is handed in -/
namespace K01
open PySem L2 L3
local macro_rules | `(tactic| walk_at "d") => `(tactic| first | assumption | omega | (simp only [szl, repP_length, List.length_map, List.length_append, List.length_cons, List.length_nil, List.length_range, List.length_replicate, rngP_length]; omega) | exact Eq.refl _ | (simp; done) | decide)
theorem cellL {ns : List Int} (k : Nat) {K : Int} (h : K = k) : F_p_law_cell [.scr (ns.map .int), .int K] = .ok (.sh (.int (cell ns k))) := by
  subst h
  exact cell_ok
theorem nums_ok' {c s m N : Int} {n : Nat} (hN : N = n) (hm : 0 < m) (hm2 : m < 2 ^ 200) (hn : n < 1000000) : F_p_law_numbers [.int c, .int s, .int N, .int m] = .ok (.own ((nums c s n m).map fun i => .sh (.int i))) := by
  subst hN
  exact nums_ok hm hm2 hn
def ab (c : Int) : Int := if c < 0 then -c else c
theorem ab_nn {c : Int} : 0 ≤ ab c := by unfold ab; split <;> omega
theorem abs_ab {c : Int} : bAbs [.int c] = .ok (.int (ab c)) := rfl
/-! scanning heights that do not fall -/
def Mono (hs : List Int) : Prop := (∀ i, i < hs.length → 0 ≤ el hs i) ∧ ∀ i, i + 1 < hs.length → el hs i ≤ el hs (i + 1)
theorem el_cons {a : Int} {l : List Int} {i : Nat} : el (a :: l) (i + 1) = el l i := by simp [el]
theorem scan_mono : ∀ (hs : List Int) (a : Int), (∀ i, i + 1 < (a :: hs).length → el (a :: hs) i ≤ el (a :: hs) (i + 1)) → scan (some a) (hs.map some) = some (some (el (a :: hs) hs.length))
  | [], a, _ => rfl
  | b :: hs, a, h => by
    have h0 := h 0 (by simp)
    have e0 : el (a :: b :: hs) 0 = a := rfl
    have e1 : el (a :: b :: hs) 1 = b := rfl
    rw [e0, e1] at h0
    rw [List.map_cons, scan, if_neg (by omega)]
    have := scan_mono hs b fun i hi => by
      have := h (i + 1) (by simp at hi ⊢; omega)
      rwa [el_cons, el_cons] at this
    rw [this, List.length_cons, el_cons]
theorem scan_ok {hs : List Int} (h : Mono hs) (h1 : 1 ≤ hs.length) : scan (some 0) (hs.map some) = some (some (el hs (hs.length - 1))) := by
  have := scan_mono hs 0 fun i hi => by
    cases i with
    | zero =>
      have e0 : el (0 :: hs) 0 = 0 := rfl
      rw [e0, el_cons]
      exact h.1 0 (by omega)
    | succ i =>
      rw [el_cons, el_cons]
      exact h.2 i (by simp at hi; omega)
  rw [this]
  obtain ⟨n, hn⟩ : ∃ n, hs.length = n + 1 := ⟨hs.length - 1, by omega⟩
  rw [hn, el_cons, Nat.add_sub_cancel]
theorem scan_none_tail {x : Option Int} {n : Nat} : scan x (List.replicate (n + 1) none) = some none := by
  have key : ∀ n, scan none (List.replicate n none) = some none := by
    intro n
    induction n with
    | zero => rfl
    | succ n ih => rw [List.replicate_succ]; exact ih
  rw [List.replicate_succ]
  cases x <;> exact key n
/-- a stair of numbers as it may be handed in -/
structure Good (hs : List Int) (s : Nat) (r : Int) : Prop where
  F : Fin hs s r
  m : Mono hs
  r : el hs (hs.length - 1) ≤ el hs (st0 hs s) + r
theorem Good.check {hs : List Int} {s : Nat} {r : Int} (G : Good hs s r) : F_check_heights [.lst (hs.map .int), .int s, .int r] = .ok (.sh .non) := by
  have h1 := G.F.s1
  have h2 := G.F.sl
  have := check_ok (l := hs.map some) (s := s) (r := some r) (y := some (el hs (hs.length - 1))) (by omega) (by simp; omega) (scan_ok G.m (by omega)) (by
    have : nth (hs.map some) ((hs.map some).length - (s : Int).toNat) = some (el hs (st0 hs s)) := by
      unfold nth
      rw [List.length_map, show (s : Int).toNat = s by omega, getD_of (by simp; omega), List.getElem_map, el_of (by unfold st0; omega)]
      rfl
    rw [this]
    have := G.r
    simp only [riseBad, decide_eq_false_iff_not]
    omega)
  rw [hP_some] at this
  exact this
section
variable {hs : List Int} {s : Nat} {r : Int} (G : Good hs s r)
include G in
theorem fv_mono : ∀ x, fv hs s r x ≤ fv hs s r (x + 1) := by
  have F := G.F
  have h1 := F.s1
  have h2 := F.sl
  have hst : st0 hs s + s = hs.length := by unfold st0; omega
  intro x
  induction x using Nat.strongRecOn with
  | ind x ih =>
    by_cases c1 : x + 1 < hs.length
    · rw [fv_lt c1, fv_lt (by omega)]
      exact G.m.2 x c1
    · by_cases c2 : x + 1 = hs.length
      · have e : x + 1 = st0 hs s + 0 + s := by omega
        rw [e, fv_step F, fv_lt (by omega), fv_lt (by omega)]
        have := G.r
        rw [show hs.length - 1 = x by omega] at this
        exact this
      · have := ih (x - s) (by omega)
        have e1 : x = st0 hs s + (x - s - st0 hs s) + s := by omega
        have e2 : x + 1 = st0 hs s + (x + 1 - s - st0 hs s) + s := by omega
        have a1 := fv_step F (x - s - st0 hs s)
        have a2 := fv_step F (x + 1 - s - st0 hs s)
        rw [← e1] at a1
        rw [← e2] at a2
        rw [a1, a2]
        rw [show st0 hs s + (x - s - st0 hs s) = x - s by omega, show st0 hs s + (x + 1 - s - st0 hs s) = x - s + 1 by omega]
        omega
include G in
theorem fv_mono' {x y : Nat} (h : x ≤ y) : fv hs s r x ≤ fv hs s r y := by
  obtain ⟨d, rfl⟩ : ∃ d, y = x + d := ⟨y - x, by omega⟩
  clear h
  induction d with
  | zero => exact Int.le_refl _
  | succ d ih => exact Int.le_trans ih (fv_mono G (x + d))
/-- the same function, with a later start and a longer step -/
def wideL (hs : List Int) (s : Nat) (r : Int) (n : Nat) : List Int := (List.range n).map fun x => fv hs s r x
theorem wide_el {n i : Nat} (h : i < n) : el (wideL hs s r n) i = fv hs s r i := by
  unfold wideL
  rw [el_of (by simpa using h)]
  simp
include G in
theorem wide_good {e w : Nat} (hw : 1 ≤ w) : Good (wideL hs s r (st0 hs s + e + s * w)) (s * w) (r * w) := by
  have F := G.F
  have h1 := F.s1
  have h2 := F.sl
  have hlen : (wideL hs s r (st0 hs s + e + s * w)).length = st0 hs s + e + s * w := by simp [wideL]
  have sw : 1 ≤ s * w := Nat.mul_pos h1 hw
  have nn : ∀ x, 0 ≤ fv hs s r x := fun x => by
    have := fv_mono' G (Nat.zero_le x)
    have h0 : fv hs s r 0 = el hs 0 := fv_lt (by omega)
    have := G.m.1 0 (by omega)
    omega
  refine ⟨⟨sw, by omega⟩, ⟨fun i hi => ?_, fun i hi => ?_⟩, ?_⟩
  · rw [hlen] at hi
    rw [wide_el hi]
    exact nn i
  · rw [hlen] at hi
    rw [wide_el (by omega), wide_el hi]
    exact fv_mono G i
  · have st : st0 (wideL hs s r (st0 hs s + e + s * w)) (s * w) = st0 hs s + e := by
      show (wideL hs s r (st0 hs s + e + s * w)).length - s * w = _
      rw [hlen]
      omega
    rw [st, hlen, wide_el (by omega), wide_el (by omega)]
    have := fv_steps F e w
    have m := fv_mono' G (show st0 hs s + e + s * w - 1 ≤ st0 hs s + e + s * w by omega)
    rw [this] at m
    rw [Int.mul_comm r]
    exact m
end
theorem atI_last {l : List Int} (h : 1 ≤ l.length) : atI l (-1) = some (el l (l.length - 1)) := by
  unfold atI ixN
  rw [if_neg (by omega), if_pos (by omega)]
  have : ((-1 : Int) + (l.length : Int)).toNat = l.length - 1 := by omega
  rw [this]
  show l[l.length - 1]? = _
  rw [List.getElem?_eq_getElem (by omega), el_of (by omega)]
/-! the law's draw -/
def tStp (sc : Int) (b : List Int × Int) (up : Int) : List Int × Int := (b.1 ++ [b.2 + up * sc], b.2 + up * sc)
structure TI (sc : Int) (k : Nat) (b : List Int × Int) : Prop where
  len : b.1.length = k
  m : Mono b.1
  hi : b.2 = if k = 0 then 0 else el b.1 (k - 1)
  lo : 0 ≤ b.2
  up : b.2 ≤ 3 * sc * k
def tEnv (x0 x1 x2 x3 x4 : Option OV) (sc : Int) (b : List Int × Int) : L3.Env := [x0, x1, x2, x3, x4, some (.sh (.int sc)), some (.own (b.1.map fun i => .sh (.int i))), some (.sh (.int b.2)), none, none, none, none, none, none]
theorem t_loop {x0 x1 x2 x3 x4 : Option OV} {sc : Int} (h0 : 0 ≤ sc) (ups : List Int) (hu : ∀ x ∈ ups, 0 ≤ x ∧ x < 4) (hl : ups.length < 1000) : ∃ b, forGo (.nm 8) [8] b_p_law_told_1 (ups.map .int) (tEnv x0 x1 x2 x3 x4 sc ([], 0)) = .nx (tEnv x0 x1 x2 x3 x4 sc b) ∧ TI sc ups.length b := by
  have key := forGo_foldN (T := .nm 8) (fg := [8]) (fb := b_p_law_told_1) (f := PV.int) (tEnv x0 x1 x2 x3 x4 sc) (tStp sc) (fun k b => TI sc k b ∧ k ≤ ups.length) ups 0 ([], 0) ⟨⟨rfl, ⟨(fun i hi => by simp at hi), (fun i hi => by simp at hi)⟩, rfl, Int.le_refl _, by simp⟩, Nat.zero_le _⟩ fun j x b hx ⟨I, hj0⟩ => by
    obtain ⟨hj, rfl⟩ := List.getElem?_eq_some_iff.mp hx
    obtain ⟨u0, u4⟩ := hu _ (List.getElem_mem hj)
    generalize ups[j] = x at u0 u4
    obtain ⟨l, h⟩ := b
    have hlen := I.len
    have hm := I.m
    have hhi := I.hi
    have hlo := I.lo
    have hup := I.up
    rw [Nat.zero_add] at hlen hhi hup
    dsimp only at hlen hm hhi hlo hup
    have p0 : 0 ≤ x * sc := Int.mul_nonneg u0 h0
    have p3 : x * sc ≤ 3 * sc := Int.mul_le_mul_of_nonneg_right (by omega) h0
    refine ⟨⟨⟨by simp [tStp, hlen], ⟨fun i hi => ?_, fun i hi => ?_⟩, ?_, by simp only [tStp]; omega, ?_⟩, by omega⟩, .of ?_⟩
    · simp only [tStp] at hi ⊢
      rw [el_app]
      rw [List.length_append, List.length_cons, List.length_nil] at hi
      split
      · exact hm.1 i (by omega)
      · rw [if_pos (by omega)]; omega
    · simp only [tStp] at hi ⊢
      rw [el_app, el_app]
      rw [List.length_append, List.length_cons, List.length_nil] at hi
      rw [if_pos (by omega)]
      split
      · exact hm.2 i (by omega)
      · rw [if_pos (by omega)]
        rw [if_neg (by omega)] at hhi
        rw [show i = j - 1 by omega, ← hhi]
        omega
    · simp only [tStp]
      rw [if_neg (by omega), el_app, if_neg (by omega), if_pos (by omega)]
    · simp only [tStp]
      have : 3 * sc * ((0 + j + 1 : Nat) : Int) = 3 * sc * j + 3 * sc := by
        rw [show ((0 + j + 1 : Nat) : Int) = (j : Int) + 1 by omega, Int.mul_add, Int.mul_one]
      rw [this]
      omega
    · have ml := mul_int_l (a := x) (b := sc) (by omega)
      unfold b_p_law_told_1 tEnv tStp
      simp (disch := walk_at "d") [ml]
  refine ⟨ups.foldl (tStp sc) ([], 0), key.1, ?_⟩
  have := key.2.1
  rwa [Nat.zero_add] at this
inductive Case (l : Hs) (s : Int) (r : Option Int) : Prop where
  | num (hs : List Int) (sN : Nat) (rI : Int) (e1 : l = hs.map some) (e2 : s = sN) (e3 : r = some rI) (g : Good hs sN rI) (hl : hs.length ≤ 60) (hb : rI.natAbs < 2 ^ 900) (h15 : sN ≤ 15) : Case l s r
  | non (hs : List Int) (c : Nat) (e1 : l = hs.map some ++ none :: List.replicate c none) (h1 : 1 ≤ s) (h2 : s ≤ c + 1) (e3 : r = none) (m : Mono hs) (hl : hs.length + c ≤ 60) : Case l s r
theorem told_ok (ns : List Int) : ∃ l s r, F_p_law_told [.scr (ns.map .int), .int 0] = .ok (.sh (.lst [.lst (hP l), .int s, o2p r])) ∧ Case l s r := by
  have c0 := cellL (ns := ns) 0 (K := 0) rfl
  have c1 := cellL (ns := ns) 1 (K := 1) rfl
  have c2 := cellL (ns := ns) 2 (K := 2) rfl
  have en := nums_ok' (c := cell ns 0) (s := 0) (N := 8) (n := 8) (m := 1000) rfl (by omega) (by omega) (by omega)
  have hn := nums_len (c := cell ns 0) (s := 0) (n := 8) (m := 1000) (by omega)
  generalize nums (cell ns 0) 0 8 1000 = n at en hn
  have a0 : atI n 0 = some (el n 0) := el_at (l := n) (i := 0) (by omega)
  have a1 : atI n 1 = some (el n 1) := el_at (l := n) (i := 1) (by omega)
  have a2 : atI n 2 = some (el n 2) := el_at (l := n) (i := 2) (by omega)
  have a3 : atI n 3 = some (el n 3) := el_at (l := n) (i := 3) (by omega)
  have a4 : atI n 4 = some (el n 4) := el_at (l := n) (i := 4) (by omega)
  have a5 : atI n 5 = some (el n 5) := el_at (l := n) (i := 5) (by omega)
  have a6 : atI n 6 = some (el n 6) := el_at (l := n) (i := 6) (by omega)
  obtain ⟨st, est, hst⟩ : ∃ st : Nat, el n 0 % 7 = (st : Int) ∧ st ≤ 6 := ⟨(el n 0 % 7).toNat, by omega, by omega⟩
  obtain ⟨sp, esp, hsp1, hsp⟩ : ∃ sp : Nat, 1 + el n 1 % 5 = (sp : Int) ∧ 1 ≤ sp ∧ sp ≤ 5 := ⟨(1 + el n 1 % 5).toNat, by omega, by omega, by omega⟩
  obtain ⟨sc, sc1, sc2, esc⟩ : ∃ sc : Int, 1 ≤ sc ∧ sc ≤ 10 ^ 20 ∧ sIf (eTst (eBin pyEq (eBin pyMod (eIdx (eVar 2) (eCst (.int 2))) (eCst (.int 8))) (eCst (.int 1)))) (sSet 5 (mSh (eBin pyAdd (eCst (.int 1)) (eBin pyMod (eB bInt (aCons (eB bAbs (aCons (eFz (fCall true F_p_law_cell [] (aCons (eVar 0) (aCons (eBin pyAdd (eVar 1) (eCst (.int 2))) aNil)))) aNil)) aNil)) (eBin pyPow (eCst (.int 10)) (eCst (.int 20))))))) sNx
      [some (.sh (.scr (ns.map .int))), some (.sh (.int 0)), some (.sh (.lst (n.map .int))), some (.sh (.int st)), some (.sh (.int sp)), some (.sh (.int 1)), none, none, none, none, none, none, none, none] = .nx
      [some (.sh (.scr (ns.map .int))), some (.sh (.int 0)), some (.sh (.lst (n.map .int))), some (.sh (.int st)), some (.sh (.int sp)), some (.sh (.int sc)), none, none, none, none, none, none, none, none] := by
    by_cases c : el n 2 % 8 = 1
    · refine ⟨1 + ab (cell ns 2) % 10 ^ 20, ?_, ?_, ?_⟩
      · have := Int.emod_nonneg (ab (cell ns 2)) (show (10 : Int) ^ 20 ≠ 0 by decide); omega
      · have := Int.emod_lt_of_pos (ab (cell ns 2)) (show (0 : Int) < 10 ^ 20 by decide); omega
      · simp (disch := walk_at "d") [a2, c, c2, abs_ab, -abs_int]
    · exact ⟨1, by omega, by decide, by simp (disch := walk_at "d") [a2, c]⟩
  have eu := nums_ok' (c := cell ns 1) (s := 50) (N := (st : Int) + sp) (n := st + sp) (m := 4) (by omega) (by omega) (by omega) (by omega)
  have hu := nums_len (c := cell ns 1) (s := 50) (n := st + sp) (m := 4) (by omega)
  have hu0 := nums_mem (c := cell ns 1) (s := 50) (n := st + sp) (m := 4) (by omega)
  generalize nums (cell ns 1) 50 (st + sp) 4 = ups at eu hu hu0
  obtain ⟨b, el1, I⟩ := t_loop (x0 := some (.sh (.scr (ns.map .int)))) (x1 := some (.sh (.int 0))) (x2 := some (.sh (.lst (n.map .int)))) (x3 := some (.sh (.int st))) (x4 := some (.sh (.int sp))) (sc := sc) (by omega) ups hu0 (by omega)
  rw [hu] at I
  obtain ⟨hs, hh⟩ := b
  have Il : hs.length = st + sp := I.len
  have Im : Mono hs := I.m
  have Ihi := I.hi
  have Iup := I.up
  dsimp only at Ihi Iup
  rw [if_neg (by omega)] at Ihi
  have hlast := atI_last (l := hs) (by omega)
  rw [Il] at hlast
  have hfirst := el_at (l := hs) (i := st) (by omega)
  simp only [tEnv, List.map_nil] at el1
  have base : F_p_law_told [.scr (ns.map .int), .int 0] = F_p_law_told [.scr (ns.map .int), .int 0] := rfl
  by_cases c : el n 3 % 6 = 0
  · obtain ⟨ct, ect, hct⟩ : ∃ ct : Nat, 1 + el n 4 % 3 = (ct : Int) + 1 ∧ ct ≤ 2 := ⟨(el n 4 % 3).toNat, by omega, by omega⟩
    have m5 := Int.emod_nonneg (el n 5) (show ((ct : Int) + 1) ≠ 0 by omega)
    have m5' := Int.emod_lt_of_pos (el n 5) (show (0 : Int) < ((ct : Int) + 1) by omega)
    have rep := mul_one (p := .non) (k := ((ct : Int) + 1)) (by omega) (by omega)
    rw [show ((ct : Int) + 1).toNat = ct + 1 by omega] at rep
    have hl : (hs.take st).map some ++ none :: List.replicate ct none = (hs.take st).map some ++ List.replicate (ct + 1) none := by rw [List.replicate_succ]
    refine ⟨(hs.take st).map some ++ none :: List.replicate ct none, 1 + el n 5 % ((ct : Int) + 1), none, ?_, .non (hs.take st) ct rfl (by omega) (by omega) rfl ⟨fun i hi => ?_, fun i hi => ?_⟩ (by simp; omega)⟩
    · rw [base, F_p_law_told_at]
      unfold s_p_law_told
      have tk : (hs.map fun x => PV.int x).take st ++ repP PV.non (ct + 1) = hP ((hs.take st).map some ++ none :: List.replicate ct none) := by
        rw [hl]
        simp only [hP, List.map_append, List.map_map, List.map_replicate, o2p_none, List.map_take]
        rfl
      have pa : pyAdd (.lst ((hs.map fun x => PV.int x).take st)) (.lst (repP .non (ct + 1))) = .ok (.lst (hP ((hs.take st).map some ++ none :: List.replicate ct none))) := by
        rw [add_lst (by simp [szl]; omega), tk]
      generalize (hs.take st).map some ++ none :: List.replicate ct none = L at pa
      simp (disch := walk_at "d") [c0, c1, en, a0, a1, a3, a4, a5, est, esp, ↓esc, eu, ↓el1, c, ect, rep, sl_take, pa]
    · have hi : i < st := by rw [List.length_take] at hi; omega
      have := Im.1 i (by omega)
      unfold el at this ⊢
      simpa [List.getD_eq_getElem?_getD, List.getElem?_take, hi] using this
    · have hi : i + 1 < st := by rw [List.length_take] at hi; omega
      have := Im.2 i (by omega)
      unfold el at this ⊢
      simpa [List.getD_eq_getElem?_getD, List.getElem?_take, hi, show i < st by omega] using this
  · obtain ⟨n4, e4, h4⟩ : ∃ n4 : Int, el n 4 % 4 = n4 ∧ 0 ≤ n4 ∧ n4 < 4 := ⟨_, rfl, by omega, by omega⟩
    obtain ⟨w, e5, h5⟩ : ∃ w : Nat, 1 + el n 5 % 3 = (w : Int) ∧ 1 ≤ w ∧ w ≤ 3 := ⟨(1 + el n 5 % 3).toNat, by omega, by omega, by omega⟩
    obtain ⟨e, e6, h6⟩ : ∃ e : Nat, el n 6 % 4 = (e : Int) ∧ e ≤ 3 := ⟨(el n 6 % 4).toNat, by omega, by omega⟩
    have h4s0 : 0 ≤ n4 * sc := Int.mul_nonneg h4.1 (by omega)
    have h4s : n4 * sc ≤ 3 * sc := Int.mul_le_mul_of_nonneg_right (by omega) (by omega)
    have s0 : st0 hs sp = st := by unfold st0; omega
    have g : Good hs sp (el hs (st + sp - 1) - el hs st + n4 * sc) := ⟨⟨by omega, by omega⟩, Im, by rw [s0, Il]; omega⟩
    have gw := wide_good g (e := e) (w := w) (by omega)
    rw [s0] at gw
    have spw : sp * w ≤ 5 * 3 := Nat.mul_le_mul (by omega) (by omega)
    have m5 := mul_big (a := (sp : Int)) (b := w) (by omega) (by omega)
    rw [show ((sp : Int) * w) = ((sp * w : Nat) : Int) by push_cast; rfl] at m5
    generalize sp * w = q at gw spw m5
    obtain ⟨N, hN⟩ : ∃ N, N = st + e + q := ⟨_, rfl⟩
    rw [← hN] at gw
    have esz : ((st : Int) + e + q) = N := by omega
    have l0 := Im.1 st (by omega)
    have l1 := Im.1 (st + sp - 1) (by omega)
    have mo := fv_mono' g (show st ≤ st + sp - 1 by omega)
    rw [fv_lt (by omega), fv_lt (by omega)] at mo
    have up : 3 * sc * ((st + sp : Nat) : Int) ≤ 3 * sc * 11 := Int.mul_le_mul_of_nonneg_left (by omega) (by omega)
    generalize hr : el hs (st + sp - 1) - el hs st + n4 * sc = r at g gw
    have rb : -(10 ^ 22) ≤ r ∧ r ≤ 10 ^ 22 := by omega
    have rw0 : (r * w).natAbs < 2 ^ 900 := by
      rw [Int.natAbs_mul, Int.natAbs_natCast]
      have : r.natAbs ≤ 10 ^ 22 := by omega
      have := Nat.mul_le_mul this h5.2
      omega
    refine ⟨(wideL hs sp r N).map some, (q : Int), some (r * w), ?_, .num _ q (r * w) rfl rfl rfl gw (by simp [wideL]; omega) rw0 (by omega)⟩
    have lc : ∀ x0 x1 x2 x3 x5 x7 x8 x9 x11, fLc (.nm 13) [13] (iRg rng1R (aCons (eVar 12) aNil)) tYesB c_p_law_told_1 [x0, x1, x2, x3, some (.sh (.int sp)), x5, some (.sh (.lst (hs.map .int))), x7, x8, x9, some (.sh (.int r)), x11, some (.sh (.int (N : Int))), none] = .ok (.own ((wideL hs sp r N).map fun x => .sh (.int x))) := by
      intro x0 x1 x2 x3 x5 x7 x8 x9 x11
      refine fLc_at (ps := rngP 0 (N)) ?_ (by simp [szl]; omega) ?_
      · simp (disch := walk_at "d") only [iRg_at, aCons_at, aNil_at, eVar_zero, eVar_succ, cons2_ok, app1_ok, rng1_int, Int.toNat_natCast]
      · rw [rngP_eq, wideL, List.map_map]
        refine lcGo_map (f := fun (k : Nat) => PV.int (0 + (k : Int))) _ fun x hx => ?_
        have hx : x < N := by simpa using hx
        have ev := value_ok g.F (x := x) (by omega) (by omega) (by omega)
        unfold c_p_law_told_1
        simp [ev]
    have m4 := mul_int_l (a := n4) (b := sc) (by omega)
    have m6 := mul_big (a := r) (b := w) (by omega) (by omega)
    have wl : (wideL hs sp r N).map (PV.int) = hP ((wideL hs sp r N).map some) := by rw [hP_some]
    rw [base, F_p_law_told_at]
    unfold s_p_law_told
    simp (disch := walk_at "d") [c0, c1, en, a0, a1, a3, a4, a5, a6, est, esp, ↓esc, eu, ↓el1, c, e4, e5, e6, hlast, hfirst, hr, m4, m5, m6, esz, ↓lc, wl]
end K01

end
section
/-! what is refused -/
namespace K01
open PySem L2 L3
local macro_rules | `(tactic| walk_at "d") => `(tactic| first | assumption | omega | (simp only [szl, repP_length, List.length_map, List.length_append, List.length_cons, List.length_nil, List.length_range, List.length_replicate, rngP_length]; omega) | exact Eq.refl _ | (simp; done) | decide)
theorem below_ok {l : List PV} {b p a : Int} {u : Option Int} (h : a < 0) : F_p_law_below [stP l b p u, .int a] = .ok (.sh (.bl true)) := by
  have e := at_neg (l := l) (b := b) (p := p) (u := u) h
  have i := is_int (x := a) (y := a)
  rw [F_p_law_below_at]
  unfold s_p_law_below
  simp only [badA] at e
  unfold stP at e ⊢
  simp [e, i]
theorem refused_ok {l : Hs} {s r : PV} (h : F_check_heights [.lst (hP l), s, r] = .er badS) : F_p_law_refused [.lst (hP l), s, r] = .ok (.sh (.bl true)) := by
  have e := init_bad h
  rw [F_p_law_refused_at]
  unfold s_p_law_refused
  simp only [badS] at e
  simp [e]
def pls (hs : List Int) : List Int := hs.map (· + 5)
theorem pls_len {hs : List Int} : (pls hs).length = hs.length := by simp [pls]
theorem pls_el {hs : List Int} {i : Nat} (h : i < hs.length) : el (pls hs) i = el hs i + 5 := by
  rw [el_of (by rwa [pls_len]), el_of h]
  simp [pls]
theorem pls_mono {hs : List Int} (m : Mono hs) : Mono (pls hs) := by
  refine ⟨fun i hi => ?_, fun i hi => ?_⟩
  · rw [pls_len] at hi
    rw [pls_el hi]
    have := m.1 i hi
    omega
  · rw [pls_len] at hi
    rw [pls_el (by omega), pls_el hi]
    have := m.2 i hi
    omega
theorem scan_pls {P : List Int} (m : Mono P) : ∃ y, scan (some 0) (P.map some) = some (some y) := by
  by_cases c : 1 ≤ P.length
  · exact ⟨_, scan_ok m c⟩
  · have : P = [] := by cases P with
      | nil => rfl
      | cons a l => simp at c
    subst this
    exact ⟨0, rfl⟩
theorem nth_map {P : List Int} {t : Hs} {i : Nat} (h : i < P.length) : nth (P.map some ++ t) i = some (el P i) := by
  unfold nth
  rw [getD_of (by simp; omega), List.getElem_append_left (by simpa using h), List.getElem_map, el_of h]
theorem ref1 {hs : List Int} {P : List Int} (m : Mono P) : F_p_law_refused [.lst (hP (some (-1) :: (P.map some ++ [none]))), .int 1, .non] = .ok (.sh (.bl true)) :=
  refused_ok (check_scan (by rw [scan, if_pos (by omega)]))
theorem ref2 {P : List Int} (m : Mono P) {x : Int} : F_p_law_refused [.lst (hP (P.map some ++ [none, some x, none])), .int 1, .non] = .ok (.sh (.bl true)) := by
  obtain ⟨y, e⟩ := scan_pls m
  refine refused_ok (check_scan ?_)
  rw [scan_app, e]
  rfl
theorem ref3 {P : List Int} (m : Mono P) : F_p_law_refused [.lst (hP (P.map some ++ [none, none])), .int 2, .int 0] = .ok (.sh (.bl true)) := by
  obtain ⟨y, e⟩ := scan_pls m
  refine refused_ok (check_rise (r := some 0) (y := none) (by omega) (by simp; omega) (by rw [scan_app, e]; rfl) ?_)
  cases nth _ _ <;> rfl
theorem ref4 {P : List Int} (m : Mono P) : F_p_law_refused [.lst (hP (P.map some ++ [none])), .int 1, .int 3] = .ok (.sh (.bl true)) := by
  obtain ⟨y, e⟩ := scan_pls m
  refine refused_ok (check_rise (r := some 3) (y := none) (by omega) (by simp; omega) (by rw [scan_app, e]; rfl) ?_)
  cases nth _ _ <;> rfl
theorem ref5 {P : List Int} (m : Mono P) (h : 1 ≤ P.length) : F_p_law_refused [.lst (hP (P.map some)), .int 1, .non] = .ok (.sh (.bl true)) := by
  obtain ⟨y, e⟩ := scan_pls m
  refine refused_ok (check_rise (r := none) (by omega) (by simp; omega) e ?_)
  have := nth_map (P := P) (t := []) (i := P.length - 1) (by omega)
  rw [List.append_nil] at this
  rw [List.length_map, show (1 : Int).toNat = 1 from rfl, this]
  rfl
theorem ref6 {P : List Int} (m : Mono P) (h : 1 ≤ P.length) : F_p_law_refused [.lst (hP (P.map some ++ [none])), .int 2, .non] = .ok (.sh (.bl true)) := by
  obtain ⟨y, e⟩ := scan_pls m
  refine refused_ok (check_rise (r := none) (y := none) (by omega) (by simp; omega) (by rw [scan_app, e]; rfl) ?_)
  have := nth_map (P := P) (t := [none]) (i := P.length - 1) (by omega)
  have e1 : (P.map some ++ [none]).length - (2 : Int).toNat = P.length - 1 := by simp
  rw [e1, this]
  rfl
theorem ref7 {P : List Int} (m : Mono P) {k : Nat} (h : k < P.length) {s r : Int} (hs : s = P.length - k) (hr : r = el P (P.length - 1) - el P k - 1) : F_p_law_refused [.lst (hP (P.map some)), .int s, .int r] = .ok (.sh (.bl true)) := by
  refine refused_ok (check_rise (r := some r) (y := some (el P (P.length - 1))) (by omega) (by simp; omega) (scan_ok m (by omega)) ?_)
  have := nth_map (P := P) (t := []) (i := k) h
  rw [List.append_nil] at this
  rw [List.length_map, show P.length - s.toNat = k by omega, this]
  simp only [riseBad, decide_eq_true_eq]
  omega
theorem take_mono {P : List Int} (m : Mono P) {n : Nat} : Mono (P.take n) := by
  have key : ∀ i, i < (P.take n).length → el (P.take n) i = el P i := fun i hi => by
    rw [el_of hi, el_of (by rw [List.length_take] at hi; omega)]
    simp
  refine ⟨fun i hi => ?_, fun i hi => ?_⟩
  · rw [key i hi]
    exact m.1 i (by rw [List.length_take] at hi; omega)
  · rw [key i (by omega), key _ hi]
    exact m.2 i (by rw [List.length_take] at hi; omega)
theorem ref8 {P : List Int} (m : Mono P) {k : Nat} (h : k < P.length) {x : Int} (hx : x < el P k) {r : PV} {t : Hs} : F_p_law_refused [.lst (hP ((P.take (k + 1)).map some ++ some x :: t)), .int 1, r] = .ok (.sh (.bl true)) := by
  refine refused_ok (check_scan ?_)
  have l : (P.take (k + 1)).length = k + 1 := by rw [List.length_take]; omega
  have e : el (P.take (k + 1)) k = el P k := by
    rw [el_of (by omega), el_of h]
    simp
  rw [scan_app, scan_ok (take_mono m) (by omega), l, Nat.add_sub_cancel, e]
  show scan (some _) (some x :: t) = none
  rw [scan, if_pos hx]
theorem hP_app {a b : Hs} : hP (a ++ b) = hP a ++ hP b := by simp [hP]
theorem hP_cons {a : Option Int} {b : Hs} : hP (a :: b) = o2p a :: hP b := rfl
theorem hP_nil : hP [] = [] := rfl
theorem hP_reps {m : Nat} : hP (List.replicate m none) = List.replicate m .non := by simp [hP]
theorem all_refused_ok {hs : List Int} {m : Nat} {s place : Int} {r : Option Int} (mo : Mono hs) (hl : hs.length + m ≤ 100) (hp : 0 ≤ place) : F_p_law_all_refused [.lst (hP (hs.map some ++ List.replicate m none)), .int s, o2p r, .int place] = .ok (.sh (.bl true)) := by
  have len : (hP (hs.map some ++ List.replicate m none)).length = hs.length + m := by simp [hP_len]
  have z0 := refused_ok (check_step (l := hs.map some ++ List.replicate m none) (s := 0) (r := o2p r) (by omega))
  have z1 := refused_ok (check_step (l := hs.map some ++ List.replicate m none) (s := -1) (r := o2p r) (by omega))
  have z2 := refused_ok (check_step (l := hs.map some ++ List.replicate m none) (s := hs.length + m + 1) (r := o2p r) (by simp; omega))
  have e0 : ∀ i < hs.length, nth (hs.map some ++ List.replicate m none) i = some (el hs i) := fun i hi => nth_map hi
  have e1 : ∀ i, hs.length ≤ i → i < hs.length + m → nth (hs.map some ++ List.replicate m none) i = none := fun i h1 h2 => by
    unfold nth
    rw [getD_of (by simp; omega), List.getElem_append_right (by simpa using h1)]
    simp
  have at0 : ∀ i : Nat, i < hs.length + m → atI (hP (hs.map some ++ List.replicate m none)) (0 + (i : Int)) = some (o2p (nth (hs.map some ++ List.replicate m none) i)) := fun i hi => by
    have := nth_at (l := hs.map some ++ List.replicate m none) (i := 0 + (i : Int)) (by omega) (by simp; omega)
    rwa [show (0 + (i : Int)).toNat = i by omega] at this
  generalize hs.map some ++ List.replicate m none = l at len z0 z1 z2 e0 e1 at0
  have lc1 : ∀ x1 x2 x3, fLc (.nm 8) [8] (iRg rng1R (aCons (eB bLen (aCons (eVar 0) aNil)) aNil)) t_p_law_all_refused_1 c_p_law_all_refused_1 [some (.sh (.lst (hP l))), x1, x2, x3, none, none, none, none, none] = .ok (.own ((List.range hs.length).map fun (i : Nat) => .sh (.int i))) := by
    intro x1 x2 x3
    refine fLc_at (ps := rngP 0 (hs.length + m)) ?_ (by simp [szl]; omega) ?_
    · have e : ((hs.length : Int) + m).toNat = hs.length + m := by omega
      simp (disch := walk_at "d") [len, e]
    · have f : (List.range hs.length) = (List.range (hs.length + m)).filter fun i => decide (i < hs.length) := by
        rw [List.range_eq_range', List.range_eq_range', ← List.range'_append_1, List.filter_append, List.filter_eq_self.mpr, List.filter_eq_nil_iff.mpr, List.append_nil]
        · intro a ha; simp at ha ⊢; omega
        · intro a ha; simp at ha ⊢; omega
      rw [rngP_eq, f]
      refine lcGo_filter (f := fun (k : Nat) => PV.int (0 + (k : Int))) _ (fun x hx => ?_) fun x hx hc => ?_
      · have hx : x < hs.length + m := by simpa using hx
        have a := at0 x hx
        unfold t_p_law_all_refused_1
        by_cases c : x < hs.length
        · rw [e0 x c] at a
          simp only [o2p_some] at a
          simp only [wipeE_cons, wipeE_nil, eCst_at, List.set_cons_zero, List.set_cons_succ, eTst_at, eNotN_at, eIdx_at, eVar_zero, eVar_succ, bin2_ok, idx_lst]
          rw [a]
          simp [c]
        · rw [e1 x (by omega) hx] at a
          simp only [o2p_none] at a
          simp only [wipeE_cons, wipeE_nil, eCst_at, List.set_cons_zero, List.set_cons_succ, eTst_at, eNotN_at, eIdx_at, eVar_zero, eVar_succ, bin2_ok, idx_lst]
          rw [a]
          simp [c]
      · unfold c_p_law_all_refused_1
        simp
  have lc2 : ∀ x1 x2 x3 x4, fLc (.nm 8) [8] (iSeq (eVar 4)) tYesB c_p_law_all_refused_2 [some (.sh (.lst (hP l))), x1, x2, x3, some (.sh (.lst ((List.range hs.length).map fun (i : Nat) => .int i))), x4, none, none, none] = .ok (.own ((pls hs).map fun i => .sh (.int i))) := by
    intro x1 x2 x3 x4
    refine fLc_at (ps := (List.range hs.length).map fun (i : Nat) => .int i) (by simp) (by simp [szl]; omega) ?_
    have f : (pls hs).map (fun i => OV.sh (.int i)) = (List.range hs.length).map fun i => OV.sh (.int (el hs i + 5)) := by
      refine List.ext_getElem (by simp [pls]) fun i h1 h2 => ?_
      have hi : i < hs.length := by simpa using h2
      simp [pls, el_of hi]
    rw [f]
    refine lcGo_map (f := fun (k : Nat) => PV.int (k : Int)) _ fun x hx => ?_
    have hx : x < hs.length := by simpa using hx
    have a := at0 x (by omega)
    rw [e0 x hx, Int.zero_add] at a
    simp only [o2p_some] at a
    unfold c_p_law_all_refused_2
    simp only [wipeE_cons, wipeE_nil, eCst_at, List.set_cons_zero, List.set_cons_succ, fSh_at, eBin_at, eIdx_at, eVar_zero, eVar_succ, bin2_ok, idx_lst]
    rw [a]
    simp
  have mp := pls_mono mo
  have pl := pls_len (hs := hs)
  generalize pls hs = P at lc2 mp pl
  rw [F_p_law_all_refused_at]
  unfold s_p_law_all_refused
  have q1 := ref1 (hs := hs) mp
  have q2 := ref2 mp (x := 1000000000000000000000000000005)
  have q3 := ref3 mp
  have q4 := ref4 mp
  have e : (P.map some).map o2p = P.map fun x => .int x := by rw [List.map_map]; rfl
  simp only [hP, List.map_cons, List.map_append, e, List.map_nil, o2p_none, o2p_some] at q1 q2 q3 q4
  by_cases c0 : hs.length = 0
  · simp (disch := walk_at "d") [↓lc1, ↓lc2, z0, z1, z2, len, q1, q2, q3, q4, pl]
    have h0 : hs = [] := List.eq_nil_of_length_eq_zero c0
    simp [h0]
  · have q5 := ref5 mp (by omega)
    have q6 := ref6 mp (by omega)
    obtain ⟨k, ek, hk⟩ : ∃ k : Nat, place % (hs.length : Int) = k ∧ k < hs.length := by
      have a := Int.emod_nonneg place (show (hs.length : Int) ≠ 0 by omega)
      have b := Int.emod_lt_of_pos place (show (0 : Int) < (hs.length : Int) by omega)
      exact ⟨(place % (hs.length : Int)).toNat, by omega, by omega⟩
    have q7 := ref7 mp (k := k) (by omega) (s := hs.length - k) (by omega) rfl
    have q8 := ref8 mp (k := k) (by omega) (x := el P k - 1) (by omega) (r := .int 10000000000000000000000000000000) (t := (P.drop (k + 1)).map some)
    have e2 : ((P.drop (k + 1)).map some).map o2p = (P.drop (k + 1)).map fun x => .int x := by rw [List.map_map]; rfl
    have e3 : ((P.take (k + 1)).map some).map o2p = (P.take (k + 1)).map fun x => .int x := by rw [List.map_map]; rfl
    simp only [hP, List.map_cons, List.map_append, e, e2, e3, List.map_nil, o2p_none, o2p_some] at q5 q6 q7 q8
    have ak := el_at (l := P) (i := k) (by omega)
    have al := atI_last (l := P) (by omega)
    have kt : ((k : Int) + 1).toNat = k + 1 := by omega
    rw [pl] at q7 al
    have pa : ∀ x, pyAdd (.lst ((P.map fun x => PV.int x).take (k + 1))) (.lst [x]) = .ok (.lst ((P.map fun x => PV.int x).take (k + 1) ++ [x])) := fun x => add_lst (by simp [szl]; omega)
    have pb : ∀ x, pyAdd (.lst ((P.map fun x => PV.int x).take (k + 1) ++ [x])) (.lst ((P.map fun x => PV.int x).drop (k + 1))) = .ok (.lst ((P.map fun x => PV.int x).take (k + 1) ++ [x] ++ (P.map fun x => PV.int x).drop (k + 1))) := fun x => add_lst (by simp [szl]; omega)
    rw [List.map_take, List.map_drop] at q8
    simp (disch := walk_at "d") [↓lc1, ↓lc2, z0, z1, z2, len, q1, q2, q3, q4, pl, c0, q5, q6, ek, ak, al, q7, kt, q8, pa, pb]
end K01

end
section
/-! the pace -/
namespace K01
open PySem L2 L3
local macro_rules | `(tactic| walk_at "d") => `(tactic| first | assumption | omega | (simp only [szl, repP_length, List.length_map, List.length_append, List.length_cons, List.length_nil, List.length_range, List.length_replicate, rngP_length]; omega) | exact Eq.refl _ | (simp; done) | decide)
/-! equal fractions in lowest terms -/
theorem low_eq {r s u p : Nat} (hs : 0 < s) (hp : 0 < p) (h : s * u = r * p) : u / Nat.gcd u p = r / Nat.gcd s r ∧ p / Nat.gcd u p = s / Nat.gcd s r := by
  have g1 : 0 < Nat.gcd u p := Nat.gcd_pos_of_pos_right _ hp
  have g2 : 0 < Nat.gcd s r := Nat.gcd_pos_of_pos_left _ hs
  have c1 : Nat.Coprime (u / Nat.gcd u p) (p / Nat.gcd u p) := Nat.coprime_div_gcd_div_gcd g1
  have c2 : Nat.Coprime (s / Nat.gcd s r) (r / Nat.gcd s r) := Nat.coprime_div_gcd_div_gcd g2
  have e1 : u / Nat.gcd u p * Nat.gcd u p = u := Nat.div_mul_cancel (Nat.gcd_dvd_left u p)
  have e2 : p / Nat.gcd u p * Nat.gcd u p = p := Nat.div_mul_cancel (Nat.gcd_dvd_right u p)
  have e3 : s / Nat.gcd s r * Nat.gcd s r = s := Nat.div_mul_cancel (Nat.gcd_dvd_left s r)
  have e4 : r / Nat.gcd s r * Nat.gcd s r = r := Nat.div_mul_cancel (Nat.gcd_dvd_right s r)
  generalize u / Nat.gcd u p = u' at *
  generalize p / Nat.gcd u p = p' at *
  generalize s / Nat.gcd s r = s' at *
  generalize r / Nat.gcd s r = r' at *
  generalize Nat.gcd u p = g at *
  generalize Nat.gcd s r = k at *
  have m : s' * u' = r' * p' := by
    have : (k * g) * (s' * u') = (k * g) * (r' * p') := by
      have a : (k * g) * (s' * u') = (s' * k) * (u' * g) := by ac_rfl
      have b : (k * g) * (r' * p') = (r' * k) * (p' * g) := by ac_rfl
      rw [a, b, e1, e2, e3, e4, h]
    exact Nat.eq_of_mul_eq_mul_left (Nat.mul_pos g2 g1) this
  have sp : s' = p' := by
    apply Nat.dvd_antisymm
    · exact c2.dvd_of_dvd_mul_left (m ▸ Nat.dvd_mul_right s' u')
    · exact c1.symm.dvd_of_dvd_mul_right (m.symm ▸ Nat.dvd_mul_left p' r')
  have s0 : 0 < s' := by
    rcases Nat.eq_zero_or_pos s' with z | z
    · rw [z, Nat.zero_mul] at e3; omega
    · exact z
  subst sp
  refine ⟨?_, rfl⟩
  rw [Nat.mul_comm] at m
  exact Nat.eq_of_mul_eq_mul_right s0 m
/-! the law's own common divisor -/
def eStp (b : Nat × Nat) (_ : Nat) : Nat × Nat := if b.2 = 0 then b else (b.2, b.1 % b.2)
structure EI (s r : Nat) (k : Nat) (b : Nat × Nat) : Prop where
  g : Nat.gcd b.1 b.2 = Nat.gcd s r
  z : (k = 0 ∧ b.1 = s) ∨ (1 ≤ k ∧ (b.2 = 0 ∨ b.2 + k ≤ 16))
def eEnv (x0 x1 x2 x3 : Option OV) (b : Nat × Nat) : L3.Env := [x0, x1, x2, x3, some (.sh (.int b.1)), some (.sh (.int b.2)), none, none]
theorem e_loop {x0 x1 x2 x3 : Option OV} {s r : Nat} (hs : s ≤ 15) : forGo (.nm 6) [6, 7] b_p_law_pace_1 (rngP 0 40) (eEnv x0 x1 x2 x3 (s, r)) = .nx (eEnv x0 x1 x2 x3 (Nat.gcd s r, 0)) := by
  have key := forGo_foldN (T := .nm 6) (fg := [6, 7]) (fb := b_p_law_pace_1) (f := fun (k : Nat) => PV.int (0 + (k : Int))) (eEnv x0 x1 x2 x3) eStp (fun k b => EI s r k b) (List.range 40) 0 (s, r) ⟨rfl, .inl ⟨rfl, rfl⟩⟩ fun j x b hx I => by
    obtain ⟨a, c⟩ := b
    have hg := I.g
    have hz := I.z
    rw [Nat.zero_add] at hz
    dsimp only at hg hz
    by_cases c0 : c = 0
    · subst c0
      refine ⟨⟨by simpa [eStp] using hg, .inr ⟨by omega, .inl (by simp [eStp])⟩⟩, .of ?_⟩
      unfold b_p_law_pace_1 eEnv eStp
      simp
    · have cp : 0 < c := by omega
      have lt := Nat.mod_lt a cp
      have le := Nat.mod_le a c
      refine ⟨⟨?_, .inr ⟨by omega, ?_⟩⟩, .of ?_⟩
      · rw [eStp, if_neg c0]
        show Nat.gcd c (a % c) = _
        rw [← hg, Nat.gcd_comm a c, Nat.gcd_rec c a, Nat.gcd_comm]
      · rw [eStp, if_neg c0]
        show a % c = 0 ∨ a % c + _ ≤ 16
        omega
      · have e : (a : Int) % (c : Int) = ((a % c : Nat) : Int) := by simp
        have e2 : (c : Int) ≠ 0 := by omega
        have st : eStp (a, c) x = (c, a % c) := by rw [eStp, if_neg c0]
        rw [st]
        unfold b_p_law_pace_1 eEnv
        simp (disch := walk_at "d") [c0, e2]
  rw [rngP_eq]
  have I := key.2
  rw [key.1]
  generalize (List.range 40).foldl eStp (s, r) = b at I
  obtain ⟨a, c⟩ := b
  have hg := I.g
  have hz := I.z
  simp at hg hz
  have c0 : c = 0 := by omega
  subst c0
  simp at hg
  rw [hg]
theorem lowest_ok {u p : Nat} (hp : 1 ≤ p) (hp2 : p ≤ 15) : F_lowest [.int u, .int p] = .ok (.sh (.tup [.int (u / Nat.gcd u p : Nat), .int (p / Nat.gcd u p : Nat)])) := by
  have g1 : 0 < Nat.gcd u p := Nat.gcd_pos_of_pos_right _ hp
  have g3 : Nat.gcd u p ≤ p := Nat.gcd_le_right _ hp
  have e : (0 : Int) < (Nat.gcd u p : Nat) := by omega
  have e2 : ((Nat.gcd u p : Nat) : Int) < 2 ^ 200 := by omega
  rw [F_lowest_at]
  unfold s_lowest
  have f1 := fdiv_int (a := u) e e2
  have f2 := fdiv_int (a := p) e e2
  simp (disch := walk_at "d") [f1, f2]
theorem pace_num {l : List PV} {b p u s r : Int} (hs : 0 < s) (hs2 : s ≤ 15) (hp : 0 < p) (hp2 : p ≤ 15) (hu : 0 ≤ u) (hr : 0 ≤ r) (h : s * u = r * p) : F_p_law_pace [stP l b p (some u), .int r, .int s] = .ok (.sh (.bl true)) := by
  obtain ⟨s, rfl⟩ : ∃ n : Nat, s = n := ⟨s.toNat, by omega⟩
  obtain ⟨r, rfl⟩ : ∃ n : Nat, r = n := ⟨r.toNat, by omega⟩
  obtain ⟨u, rfl⟩ : ∃ n : Nat, u = n := ⟨u.toNat, by omega⟩
  obtain ⟨p, rfl⟩ : ∃ n : Nat, p = n := ⟨p.toNat, by omega⟩
  have h : s * u = r * p := by exact_mod_cast h
  obtain ⟨q1, q2⟩ := low_eq (by omega) (by omega) h
  have lo := lowest_ok (u := u) (p := p) (by omega) (by omega)
  rw [q1, q2] at lo
  have pc : F_Stair_pace [stP l b p (some (u : Int))] = .ok (.sh (.tup [.int (r / Nat.gcd s r : Nat), .int (s / Nat.gcd s r : Nat)])) := by
    rw [F_Stair_pace_at]
    unfold s_Stair_pace
    simp [lo]
  have g2 : 0 < Nat.gcd s r := Nat.gcd_pos_of_pos_left _ (by omega)
  have g3 : Nat.gcd s r ≤ s := Nat.gcd_le_left _ (by omega)
  have i1 := is_int (x := (r / Nat.gcd s r : Nat)) (y := (r / Nat.gcd s r : Nat))
  have i2 := is_int (x := (s / Nat.gcd s r : Nat)) (y := (s / Nat.gcd s r : Nat))
  have lp := e_loop (x0 := some (.sh (stP l b p (some (u : Int))))) (x1 := some (.sh (.int r))) (x2 := some (.sh (.int s))) (x3 := some (.sh (.tup [.int (r / Nat.gcd s r : Nat), .int (s / Nat.gcd s r : Nat)]))) (s := s) (r := r) (by omega)
  have g0 : (0 : Int) < (Nat.gcd s r : Nat) := by omega
  have g4 : ((Nat.gcd s r : Nat) : Int) < 2 ^ 200 := by omega
  simp only [eEnv] at lp
  have ed1 : (r : Int) / (Nat.gcd s r : Nat) = ((r / Nat.gcd s r : Nat) : Int) := by simp
  have ed2 : (s : Int) / (Nat.gcd s r : Nat) = ((s / Nat.gcd s r : Nat) : Int) := by simp
  generalize r / Nat.gcd s r = A at *
  generalize s / Nat.gcd s r = B at *
  generalize Nat.gcd s r = G at *
  rw [F_p_law_pace_at]
  unfold s_p_law_pace
  unfold stP at *
  simp (disch := walk_at "d") [pc, lp, i1, i2, ed1, ed2, g0]
theorem pace_none {l : List PV} {b p s : Int} : F_p_law_pace [stP l b p none, .non, .int s] = .ok (.sh (.bl true)) := by
  have pc : F_Stair_pace [stP l b p none] = .ok (.sh .non) := by
    rw [F_Stair_pace_at]
    unfold s_Stair_pace
    simp
  rw [F_p_law_pace_at]
  unfold s_p_law_pace
  unfold stP at *
  simp (disch := walk_at "d") [pc]
end K01

end
section
/-! the limits -/
namespace K01
open PySem L2 L3
local macro_rules | `(tactic| walk_at "d") => `(tactic| first | assumption | omega | (simp only [szl, repP_length, List.length_map, List.length_append, List.length_cons, List.length_nil, List.length_range, List.length_replicate, rngP_length]; omega) | exact Eq.refl _ | (simp; done) | decide)
theorem stair_num {hs : List Int} {s p : Nat} {r u : Int} (G : Good hs s r) (L : Least hs s r p u) (hb : hs.length < 1900) (hr : r.natAbs < 2 ^ 900) (h : stN hs s p u + p ≤ 600) : F_Stair_init [.lst (hs.map .int), .int s, .int r] = .ok (stO ((hs.take (stN hs s p u + p)).map .int) (((hs.take (stN hs s p u + p)).map PV.int).length - p) p (some u)) := by
  have h1 := G.check
  have h2 := normal_ok G.F (by omega) L hb
  rw [← hP_some] at h1 h2 ⊢
  exact init_go h1 h2 (by simp; omega)
theorem stair_many {hs : List Int} {s p : Nat} {r u : Int} (G : Good hs s r) (L : Least hs s r p u) (hb : hs.length < 1900) (hr : r.natAbs < 2 ^ 900) (h : 600 < stN hs s p u + p) (h3 : stN hs s p u + p ≤ hs.length) : F_Stair_init [.lst (hs.map .int), .int s, .int r] = .er manyP := by
  have h1 := G.check
  have h2 := normal_ok G.F (by omega) L hb
  rw [← hP_some] at h1 h2 ⊢
  exact init_many (u := some u) h1 h2 (by simp; omega)
theorem least_one {hs : List Int} {r : Int} (F : Fin hs 1 r) : Least hs 1 r 1 r := ⟨Per.self F, Nat.le_refl _, fun q v hq P => by have := P.p1; omega, Nat.dvd_refl _⟩
theorem stN_top {hs : List Int} {p : Nat} {r u : Int} {n : Nat} (h : st0 hs s = n + 1) (h2 : el hs n + u ≠ el hs (n + p)) : stN hs s p u = n + 1 := by
  unfold stN
  rw [h, down, if_neg]
  simpa [nfG] using h2
/-! zeros -/
theorem el_rep {n i : Nat} {x : Int} (h : i < n) : el (List.replicate n x) i = x := by
  rw [el_of (by simpa using h)]
  simp
theorem zeros_good {n s : Nat} (h1 : 1 ≤ s) (h2 : s ≤ n) : Good (List.replicate n 0) s 0 := by
  refine ⟨⟨h1, by simpa using h2⟩, ⟨fun i hi => ?_, fun i hi => ?_⟩, ?_⟩
  · rw [List.length_replicate] at hi
    rw [el_rep hi]
    exact Int.le_refl _
  · rw [List.length_replicate] at hi
    rw [el_rep hi, el_rep (by omega)]
    exact Int.le_refl _
  · unfold st0
    rw [List.length_replicate, el_rep (by omega), el_rep (by omega)]
    exact Int.le_refl _
theorem zeros_fv {n s x : Nat} (h1 : 1 ≤ s) (h2 : s ≤ n) : fv (List.replicate n 0) s 0 x = 0 := by
  unfold fv
  split
  · rename_i h
    rw [List.length_replicate] at h
    exact el_rep h
  · have := Nat.mod_lt (x - st0 (List.replicate n (0 : Int)) s) (show 0 < s by omega)
    have e : st0 (List.replicate n (0 : Int)) s = n - s := by unfold st0; rw [List.length_replicate]
    rw [e] at this ⊢
    rw [el_rep (by omega)]
    simp
theorem zeros_least {n s : Nat} (h1 : 1 ≤ s) (h2 : s ≤ n) : Least (List.replicate n 0) s 0 1 0 :=
  ⟨⟨Nat.le_refl _, by simp, fun d => by rw [zeros_fv h1 h2, zeros_fv h1 h2]; rfl⟩, h1, fun q v hq P => by have := P.p1; omega, Nat.one_dvd _⟩
theorem zeros_stN {n s : Nat} (h1 : 1 ≤ s) (h2 : s ≤ n) : stN (List.replicate n 0) s 1 0 = 0 := by
  unfold stN
  have e : st0 (List.replicate n (0 : Int)) s = n - s := by unfold st0; rw [List.length_replicate]
  rw [e, down_skip (m := 0) _ _ (Nat.zero_le _) fun y _ hy => ?_]
  · rfl
  · unfold nfG
    rw [el_rep (by omega), el_rep (by omega)]
    rfl
theorem zeros_ok {n s : Nat} (h1 : 1 ≤ s) (h2 : s ≤ n) (hn : n < 1900) : ∃ l : List PV, l.length = 1 ∧ ∃ b p u, F_Stair_init [.lst ((List.replicate n (0 : Int)).map .int), .int s, .int 0] = .ok (stO l b p u) := by
  refine ⟨_, ?_, _, _, _, stair_num (zeros_good h1 h2) (zeros_least h1 h2) (by simpa using hn) (Nat.two_pow_pos 900) (by rw [zeros_stN h1 h2]; omega)⟩
  rw [zeros_stN h1 h2]
  simp
  omega
/-! zeros and a one -/
def ones (n : Nat) : List Int := List.replicate n 0 ++ [1]
theorem ones_len {n : Nat} : (ones n).length = n + 1 := by simp [ones]
theorem ones_el {n i : Nat} : el (ones n) i = if i = n then 1 else 0 := by
  unfold ones
  rw [el_app, List.length_replicate]
  split
  · rename_i h
    rw [el_rep h, if_neg (by omega)]
  · rfl
theorem ones_good {n : Nat} {r : Int} (h : 0 ≤ r) : Good (ones n) 1 r := by
  refine ⟨⟨by omega, by rw [ones_len]; omega⟩, ⟨fun i hi => ?_, fun i hi => ?_⟩, ?_⟩
  · rw [ones_el]; split <;> omega
  · rw [ones_len] at hi
    rw [ones_el, ones_el, if_neg (by omega)]
    split <;> omega
  · unfold st0
    rw [ones_len]
    omega
theorem ones_stN {n : Nat} {u : Int} (h1 : 1 ≤ n) (hu : u ≠ 1) : stN (ones n) 1 1 u = n := by
  obtain ⟨m, rfl⟩ : ∃ m, n = m + 1 := ⟨n - 1, by omega⟩
  refine stN_top (r := 0) (by unfold st0; rw [ones_len]; omega) ?_
  rw [ones_el, ones_el, if_neg (by omega), if_pos rfl]
  omega
theorem ones_ok {n : Nat} {r : Int} (h1 : 1 ≤ n) (hn : n < 600) (h0 : 0 ≤ r) (hr : r < 10) (hr1 : r ≠ 1) : ∃ l : List PV, l.length = n + 1 ∧ ∃ b p u, F_Stair_init [.lst ((ones n).map .int), .int 1, .int r] = .ok (stO l b p u) := by
  refine ⟨_, ?_, _, _, _, stair_num (s := 1) (ones_good h0) (least_one (ones_good h0).F) (by rw [ones_len]; omega) (by omega) (by rw [ones_stN h1 hr1]; omega)⟩
  rw [ones_stN h1 hr1, List.length_map, List.length_take, ones_len]
  omega
theorem ones_many {n : Nat} {r : Int} (h1 : 600 ≤ n) (hn : n < 1000) (h0 : 0 ≤ r) (hr : r < 10) (hr1 : r ≠ 1) : F_Stair_init [.lst ((ones n).map .int), .int 1, .int r] = .er manyP :=
  stair_many (s := 1) (ones_good h0) (least_one (ones_good h0).F) (by rw [ones_len]; omega) (by omega) (by rw [ones_stN (by omega) hr1]; omega) (by rw [ones_stN (by omega) hr1, ones_len]; omega)
/-! twos and a None -/
theorem twos_mono {n : Nat} : Mono (List.replicate n 2) := by
  refine ⟨fun i hi => ?_, fun i hi => ?_⟩
  · rw [List.length_replicate] at hi
    rw [el_rep hi]
    decide
  · rw [List.length_replicate] at hi
    rw [el_rep hi, el_rep (by omega)]
    exact Int.le_refl _
theorem none_check {hs : List Int} {c : Nat} {s : Int} (m : Mono hs) (h1 : 1 ≤ s) (h2 : s ≤ c + 1) : F_check_heights [.lst (hP (hs.map some ++ none :: List.replicate c none)), .int s, .non] = .ok (.sh .non) := by
  obtain ⟨y, e⟩ := scan_pls m
  have sc : scan (some 0) (hs.map some ++ none :: List.replicate c none) = some none := by
    rw [scan_app, e]
    exact scan_none_tail (n := c)
  refine check_ok (r := none) (y := none) h1 (by simp; omega) sc ?_
  have : nth (hs.map some ++ none :: List.replicate c none) ((hs.map some ++ none :: List.replicate c none).length - s.toNat) = none := by
    have e : none :: List.replicate c (none : Option Int) = List.replicate (c + 1) none := by rw [List.replicate_succ]
    unfold nth
    simp only [e]
    rw [getD_of (by simp; omega), List.getElem_append_right (by simp; omega)]
    simp
  rw [this]
  rfl
theorem stair_none {hs : List Int} {c : Nat} {s : Int} (m : Mono hs) (h1 : 1 ≤ s) (h2 : s ≤ c + 1) (h : hs.length < 600) : F_Stair_init [.lst (hP (hs.map some ++ none :: List.replicate c none)), .int s, .non] = .ok (stO (hP (hs.map some ++ [none])) ((hP (hs.map some ++ [none])).length - 1) 1 none) :=
  init_go (none_check m h1 h2) nf_none (by simp [hP_len]; omega)
theorem repP_map {n : Nat} {x : Int} : repP (.int x) n = (List.replicate n x).map .int := by
  unfold repP
  simp
theorem repP_ones {n : Nat} : repP (.int 0) n ++ [.int 1] = (ones n).map .int := by
  rw [repP_map]
  simp [ones]
theorem repP_twos {n : Nat} : repP (.int 2) n ++ [.non] = hP ((List.replicate n (2 : Int)).map some ++ none :: List.replicate 0 none) := by
  rw [repP_map]
  simp [hP]
theorem limits_ok {z : Int} (h : 0 ≤ z) : F_p_law_limits [.int z] = .ok (.sh (.bl true)) := by
  obtain ⟨k, ek, hk⟩ : ∃ k : Nat, z % 5 = k ∧ k < 5 := ⟨(z % 5).toNat, by omega, by omega⟩
  obtain ⟨j, ej, hj⟩ : ∃ j : Int, z % 3 = j ∧ 0 ≤ j ∧ j < 3 := ⟨_, rfl, by omega, by omega⟩
  have m1 := mul_one (p := .int 0) (k := 900) (by omega) (by omega)
  have m2 := mul_one (p := .int 0) (k := 599) (by omega) (by omega)
  have m3 := mul_one (p := .int 2) (k := 599) (by omega) (by omega)
  have m4 := mul_one (p := .int 0) (k := 600) (by omega) (by omega)
  have n1 : (900 : Int).toNat = 900 := rfl
  have n2 : (599 : Int).toNat = 599 := rfl
  have n3 : (600 : Int).toNat = 600 := rfl
  rw [n1] at m1
  rw [n2] at m2 m3
  rw [n3] at m4
  obtain ⟨l1, h1, b1, p1, u1, i1⟩ := zeros_ok (n := 900) (s := k + 1) (by omega) (by omega) (by omega)
  obtain ⟨l2, h2, b2, p2, u2, i2⟩ := ones_ok (n := 599) (r := 0) (by omega) (by omega) (by omega) (by omega) (by omega)
  have i3 := stair_none (hs := List.replicate 599 2) (c := 0) (s := 1) twos_mono (by omega) (by omega) (by rw [List.length_replicate]; omega)
  have i4 := ones_many (n := 600) (r := 2 * j) (by omega) (by omega) (by omega) (by omega) (by omega)
  have l3 : (hP ((List.replicate 599 (2 : Int)).map some ++ [none])).length = 600 := by rw [hP_len, List.length_append, List.length_map, List.length_replicate]; rfl
  rw [← repP_map] at i1
  rw [← repP_ones] at i2 i4
  rw [← repP_twos] at i3
  generalize hP ((List.replicate 599 (2 : Int)).map some ++ [none]) = L3 at i3 l3
  have q1 : pyAdd (.lst (repP (.int 0) 599)) (.lst [.int 1]) = .ok (.lst (repP (.int 0) 599 ++ [.int 1])) := add_lst (by simp only [repP_length, szl, List.length_cons, List.length_nil]; omega)
  have q2 : pyAdd (.lst (repP (.int 2) 599)) (.lst [.non]) = .ok (.lst (repP (.int 2) 599 ++ [.non])) := add_lst (by simp only [repP_length, szl, List.length_cons, List.length_nil]; omega)
  have q3 : pyAdd (.lst (repP (.int 0) 600)) (.lst [.int 1]) = .ok (.lst (repP (.int 0) 600 ++ [.int 1])) := add_lst (by simp only [repP_length, szl, List.length_cons, List.length_nil]; omega)
  generalize repP (.int 0) 900 = R1 at *
  generalize repP (.int 0) 599 = R2 at *
  generalize repP (.int 2) 599 = R3 at *
  generalize repP (.int 0) 600 = R4 at *
  generalize R2 ++ [.int 1] = R5 at *
  generalize R3 ++ [.non] = R6 at *
  generalize R4 ++ [.int 1] = R7 at *
  have k1 : (1 : Int) + k = ((k + 1 : Nat) : Int) := by omega
  have i5 := is_int (x := 600) (y := 600)
  simp only [manyP] at i4
  rw [← k1] at i1
  rw [F_p_law_limits_at]
  unfold s_p_law_limits
  simp (disch := walk_at "d") [m1, m2, m3, m4, q1, q2, q3, ek, ej, i1, i2, i3, i4, i5, pvf_st, h1, h2, l3]
end K01

end
section
/-! the law -/
namespace K01
open PySem L2 L3
local macro_rules | `(tactic| walk_at "d") => `(tactic| first | assumption | omega | (simp only [szl, hP_len, repP_length, List.length_map, List.length_append, List.length_cons, List.length_nil, List.length_range, List.length_replicate, rngP_length]; omega) | exact Eq.refl _ | (simp; done) | decide)
/-- a stair as it was made -/
structure St (l : Hs) (s : Int) (r : Option Int) (L : List PV) (b p : Int) (u : Option Int) (val : Nat → Option Int) (X : PV) : Prop where
  len : l.length ≤ 100
  s0 : 1 ≤ s
  s1 : s ≤ 100
  ini : F_Stair_init [.lst (hP l), .int s, o2p r] = .ok (stO L b p u)
  at_ : ∀ x : Nat, x ≤ 10 ^ 30 → F_Stair_at [stP L b p u, .int x] = .ok (.sh (o2p (val x)))
  va : ∀ x : Nat, x ≤ 10 ^ 30 → F_p_law_value [.lst (hP l), .int s, o2p r, .int x] = .ok (.sh (o2p (val x)))
  nor : F_p_law_normal [.lst (hP l), .int s, o2p r] = .ok (.sh X)
  sam : F_p_law_same [stP L b p u, X] = .ok (.sh (.bl true))
  pac : F_p_law_pace [stP L b p u, o2p r, .int s] = .ok (.sh (.bl true))
  ref : ∀ z : Int, 0 ≤ z → F_p_law_all_refused [.lst (hP l), .int s, o2p r, .int z] = .ok (.sh (.bl true))
  fl : L.all flatP = true
theorem flat_hP {l : Hs} : (hP l).all flatP = true := by
  unfold hP
  rw [List.all_map, List.all_eq_true]
  intro x _
  cases x <;> rfl
theorem flats_of {L : List PV} (h : L.all flatP = true) : PV.flats L = true := by
  induction L with
  | nil => rfl
  | cons p L ih =>
    rw [List.all_cons, Bool.and_eq_true] at h
    rw [PV.flats, ih h.2, Bool.and_true]
    cases p <;> first | rfl | simp [flatP] at h
theorem stO_flat {L : List PV} {b p : Int} {u : Option Int} (h : L.all flatP = true) : (OV.obj 4 (stO L b p u)).flat = true := by
  have : (o2p u).flat = true := by cases u <;> rfl
  simp [stO, OV.flat, OV.flatf, PV.flat, flats_of h, this]
theorem cln_hP {l : Hs} : cln 2 (.lst (hP l)) = true := by
  show (hP l).all (cln 1) = true
  unfold hP
  rw [List.all_map, List.all_eq_true]
  intro x _
  cases x <;> rfl
section
variable {l : Hs} {s : Int} {r : Option Int} {L : List PV} {b p : Int} {u : Option Int} {val : Nat → Option Int} {X : PV} (S : St l s r L b p u val X)
include S
theorem law_turn {x0 x4 x6 : Option OV} {x : Int} (h0 : 0 ≤ x) (h : x ≤ 10 ^ 30) : Turn (.nm 7) [7] b_law_1 (.int x) [x0, some (.sh (.lst (hP l))), some (.sh (.int s)), some (.sh (o2p r)), x4, some (.sh (stP L b p u)), x6, none] [x0, some (.sh (.lst (hP l))), some (.sh (.int s)), some (.sh (o2p r)), x4, some (.sh (stP L b p u)), x6, none] := by
  obtain ⟨x, rfl⟩ : ∃ n : Nat, x = n := ⟨x.toNat, by omega⟩
  have a := S.at_ x (by omega)
  have v := S.va x (by omega)
  have i := is_o2p (x := val x) (y := val x)
  refine .of ?_
  unfold b_law_1
  unfold stP at *
  simp [a, v, i]
theorem law_of (ns : List Int) (ht : F_p_law_told [.scr (ns.map .int), .int 0] = .ok (.sh (.lst [.lst (hP l), .int s, o2p r]))) : F_law [.scr (ns.map .int)] = .ok (.sh (.bl true)) := by
  have c3 := cellL (ns := ns) 3 (K := 3) rfl
  have c4 := cellL (ns := ns) 4 (K := 4) rfl
  have c5 := cellL (ns := ns) 5 (K := 5) rfl
  have c6 := cellL (ns := ns) 6 (K := 6) rfl
  have c7 := cellL (ns := ns) 7 (K := 7) rfl
  have ne := ne_cln 2 (by omega) (cln_hP (l := l)) (cln_hP (l := l))
  have len := S.len
  have s0 := S.s0
  have s1 := S.s1
  have ini := S.ini
  have nor := S.nor
  have sam := S.sam
  have pac := S.pac
  have cap : ∀ m, capR m (.ok (.obj 4 (stO L b p u))) = .ok (.obj 4 (stO L b p u)) := fun m => capR_flat (stO_flat S.fl)
  have lim := limits_ok (z := ab (cell ns 7) % 9) (by omega)
  have ref := S.ref (ab (cell ns 6) % 97) (by omega)
  have bel := below_ok (l := L) (b := b) (p := p) (u := u) (a := -1 - ab (cell ns 5) % 99) (by omega)
  have lp : ∀ x0 x4 x6 (xs : List Int), (∀ x ∈ xs, 0 ≤ x ∧ x ≤ 10 ^ 30) → forGo (.nm 7) [7] b_law_1 (xs.map .int) [x0, some (.sh (.lst (hP l))), some (.sh (.int s)), some (.sh (o2p r)), x4, some (.sh (stP L b p u)), x6, none] = .nx [x0, some (.sh (.lst (hP l))), some (.sh (.int s)), some (.sh (o2p r)), x4, some (.sh (stP L b p u)), x6, none] := fun x0 x4 x6 xs h => forGo_same xs fun x hx => law_turn S (h x hx).1 (h x hx).2
  have xs : ∃ xs : List Int, (rngP 0 ((l.length : Int) + 2 * s + 3).toNat ++ [.int 1000000000000000000000000000000, .int (ab (cell ns 3) % 1000000000000000000000000000000), .int (ab (cell ns 4) % 1000)]) = xs.map .int ∧ ∀ x ∈ xs, 0 ≤ x ∧ x ≤ 10 ^ 30 := by
    refine ⟨(List.range ((l.length : Int) + 2 * s + 3).toNat).map (fun (k : Nat) => (0 : Int) + k) ++ [1000000000000000000000000000000, ab (cell ns 3) % 1000000000000000000000000000000, ab (cell ns 4) % 1000], ?_, ?_⟩
    · rw [rngP_eq, List.map_append, List.map_map]
      rfl
    · intro x hx
      have q0 := Int.emod_nonneg (ab (cell ns 3)) (show (1000000000000000000000000000000 : Int) ≠ 0 by decide)
      have q1 := Int.emod_lt_of_pos (ab (cell ns 3)) (show (0 : Int) < 1000000000000000000000000000000 by decide)
      simp only [List.mem_append, List.mem_map, List.mem_range, List.mem_cons, List.not_mem_nil, or_false] at hx
      rcases hx with ⟨k, hk, rfl⟩ | rfl | rfl | rfl <;> omega
  obtain ⟨xs, ex, hx⟩ := xs
  have lp := fun x0 x4 x6 => lp x0 x4 x6 xs hx
  rw [F_law_at]
  unfold s_law
  unfold stP at *
  simp (disch := walk_at "d") [ht, c3, c4, c5, c6, c7, abs_ab, -abs_int, ne, hP_len, ini, cap, nor, sam, pvf_st, ex, lp, bel, ref, pac, lim]
end
end K01

end
section
/-! every draw -/
namespace K01
open PySem L2 L3
local macro_rules | `(tactic| walk_at "d") => `(tactic| first | assumption | omega | (simp only [szl, hP_len, repP_length, List.length_map, List.length_append, List.length_cons, List.length_nil, List.length_range, List.length_replicate, rngP_length]; omega) | exact Eq.refl _ | (simp; done) | decide)
theorem abs_mul_le {s p : Nat} {u r : Int} (h : (s : Int) * u = r * p) (h1 : p ≤ s) (h0 : 1 ≤ s) : u.natAbs ≤ r.natAbs := by
  have e : s * u.natAbs = r.natAbs * p := by
    have := congrArg Int.natAbs h
    rwa [Int.natAbs_mul, Int.natAbs_mul, Int.natAbs_natCast, Int.natAbs_natCast] at this
  have : r.natAbs * p ≤ r.natAbs * s := Nat.mul_le_mul_left _ h1
  rw [← e, Nat.mul_comm r.natAbs] at this
  exact Nat.le_of_mul_le_mul_left this h0
theorem st_num {hs : List Int} {s : Nat} {r : Int} (g : Good hs s r) (hl : hs.length ≤ 60) (hb : r.natAbs < 2 ^ 900) (h15 : s ≤ 15) : ∃ L b p u val X, St (hs.map some) s (some r) L b p u val X := by
  have F := g.F
  have h1 := F.s1
  have h2 := F.sl
  obtain ⟨p, u, lt⟩ := least_ex F
  have P := lt.per
  have p1 := P.p1
  have ps := lt.le
  have pe := P.e
  have hst : st0 hs s + s = hs.length := by unfold st0; omega
  have sle := stN_le (hs := hs) (s := s) (p := p) (u := u)
  have ua := abs_mul_le pe ps h1
  have ini := stair_num g lt (by omega) hb (by omega)
  have nor := law_normal_ok F (by omega) (by omega) lt
  have r0 : 0 ≤ r := by
    have a := fv_mono' g (show st0 hs s ≤ hs.length - 1 by omega)
    rw [fv_lt (by omega), fv_lt (by omega)] at a
    have b := fv_step F 0
    have c := fv_mono' g (show st0 hs s ≤ st0 hs s + s by omega)
    rw [show st0 hs s + 0 + s = st0 hs s + s by omega, Nat.add_zero] at b
    omega
  have u0 : 0 ≤ u := by
    have : 0 ≤ r * p := Int.mul_nonneg r0 (by omega)
    rw [← pe] at this
    exact Int.nonneg_of_mul_nonneg_right this (by omega)
  have stp := fun y (h : stN hs s p u ≤ y) => stps_at P ps F (y := y) h
  generalize hn : stN hs s p u = n at *
  have tl : ((hs.take (n + p)).map some).length = n + p := by simp; omega
  have tl2 : ((hs.take (n + p)).map PV.int).length = n + p := by simp; omega
  have te : ∀ i, i < n + p → atI ((hs.take (n + p)).map PV.int) (i : Int) = some (.int (el hs i)) := fun i hi => by
    have l1 : (hs.take (n + p)).length = n + p := by simp; omega
    rw [atI_map, el_at (by omega), Option.map_some, el_of (by omega), el_of (by omega)]
    simp
  have sam := same_ok (l := (hs.take (n + p)).map some) (p := p) (u := some u) (by omega)
  rw [hP_some] at sam
  have bn : ((((hs.take (n + p)).map some).length : Nat) : Int) - p = n := by omega
  have bn2 : ((((hs.take (n + p)).map PV.int).length : Nat) : Int) - p = n := by omega
  rw [bn] at sam
  rw [bn2] at ini
  refine ⟨_, n, p, some u, fun x => some (fv hs s r x), _, ⟨by simp; omega, by omega, by omega, ?_, fun x hx => ?_, fun x hx => ?_, ?_, sam, pace_num (by omega) (by omega) (by omega) (by omega) u0 r0 pe, fun z hz => ?_, ?_⟩⟩
  · rw [hP_some]
    exact ini
  · by_cases c : x < n + p
    · have := at_in (l := (hs.take (n + p)).map PV.int) (b := n) (p := p) (u := some u) (a := x) (by omega) (by omega) (te x c)
      rw [this, fv_lt (by omega)]
      rfl
    · have ed : ((x : Int) - n) / p = (((x - n) / p : Nat) : Int) := by
        rw [Int.natCast_ediv, Int.ofNat_sub (by omega)]
      have dm := Nat.div_add_mod (x - n) p
      have ml := Nat.mod_lt (x - n) (show 0 < p by omega)
      have ee : (x : Int) - ((x : Int) - n) / p * p = ((n + (x - n) % p : Nat) : Int) := by
        rw [ed]
        have : (((x - n) / p : Nat) : Int) * p = (((p * ((x - n) / p) : Nat)) : Int) := by rw [Int.natCast_mul, Int.mul_comm]
        rw [this]
        omega
      have dl : (x - n) / p ≤ x := Nat.le_trans (Nat.div_le_self _ _) (by omega)
      have := at_far (l := (hs.take (n + p)).map PV.int) (b := n) (p := p) (v := u) (a := x) (x := el hs (n + (x - n) % p)) (by omega) (by omega) (by omega) (by omega) (by rw [ed, Int.natAbs_natCast]; exact Nat.lt_of_le_of_lt (Nat.le_trans dl hx) (by decide +kernel)) (by omega) (by rw [ee]; exact te _ (by omega))
      rw [this, ed]
      have s := stp (n + (x - n) % p) (by omega) ((x - n) / p)
      rw [fv_lt (x := n + (x - n) % p) (by omega), show n + (x - n) % p + (x - n) / p * p = x by rw [Nat.mul_comm]; omega] at s
      rw [s]
      rfl
  · rw [hP_some]
    exact value_ok F (by omega) (by omega) (by omega)
  · rw [hP_some]
    exact nor
  · have := all_refused_ok (m := 0) (s := s) (r := some r) g.m (by omega) hz
    rwa [List.replicate_zero, List.append_nil] at this
  · rw [← hP_some]
    exact flat_hP
theorem st_none {hs : List Int} {c : Nat} {s : Int} (m : Mono hs) (h1 : 1 ≤ s) (h2 : s ≤ c + 1) (hl : hs.length + c ≤ 60) : ∃ L b p u val X, St (hs.map some ++ none :: List.replicate c none) s none L b p u val X := by
  have ini := stair_none (c := c) m h1 h2 (by omega)
  have nor := law_normal_none (hs := hs) (t := List.replicate c none) (s := s) (by simp; omega)
  have sam := same_ok (l := hs.map some ++ [none]) (p := 1) (u := none) (by simp; omega)
  have tl : (hs.map some ++ [none]).length = hs.length + 1 := by simp
  have ll : (hs.map some ++ none :: List.replicate c none).length = hs.length + (c + 1) := by simp
  rw [hP_len] at ini
  have same : ∀ x, nth (hs.map some ++ none :: List.replicate c none) x = nth (hs.map some ++ [none]) x := fun x => by
    by_cases a : x < hs.length
    · rw [nth_map a, nth_map a]
    · have : ∀ k, nth (hs.map some ++ List.replicate k none) x = none := fun k => by
        unfold nth
        rw [List.getD_eq_getElem?_getD, List.getElem?_append_right (by simpa using Nat.le_of_not_lt a), List.getElem?_replicate]
        split <;> rfl
      have t1 := this (c + 1)
      have t2 := this 1
      rw [List.replicate_succ] at t1 t2
      rw [List.replicate_zero] at t2
      rw [t1, t2]
  have big : ∀ x, hs.length + 1 ≤ x → nth (hs.map some ++ [none]) x = none := fun x hx => by
    unfold nth
    rw [List.getD_eq_getElem?_getD, List.getElem?_eq_none (by omega)]
    rfl
  refine ⟨_, _, 1, none, fun x => nth (hs.map some ++ [none]) x, _, ⟨by omega, h1, by omega, ini, fun x hx => ?_, fun x hx => ?_, nor, sam, pace_none, fun z hz => ?_, flat_hP⟩⟩
  · by_cases a : x < hs.length + 1
    · have := nth_at (l := hs.map some ++ [none]) (i := x) (by omega) (by omega)
      exact at_in (by omega) (by rw [hP_len]; omega) this
    · rw [big x (by omega)]
      exact at_none (by omega) (by rw [hP_len]; omega)
  · by_cases a : x < hs.length + (c + 1)
    · have := value_in (l := hs.map some ++ none :: List.replicate c none) (s := s) (x := x) (r := .non) (by omega) (by omega)
      rw [Int.toNat_natCast, same] at this
      exact this
    · rw [big x (by omega)]
      exact value_none (by omega)
  · have := all_refused_ok (m := c + 1) (s := s) (r := none) m (by omega) hz
    rwa [List.replicate_succ] at this
theorem law_ok (ns : List Int) : F_law [.scr (ns.map .int)] = .ok (.sh (.bl true)) := by
  obtain ⟨l, s, r, ht, cs⟩ := told_ok ns
  cases cs with
  | num hs sN rI e1 e2 e3 g hl hb h15 =>
    subst e1 e2 e3
    obtain ⟨L, b, p, u, val, X, S⟩ := st_num g hl hb h15
    exact law_of S ns ht
  | non hs c e1 h1 h2 e3 m hl =>
    subst e1 e3
    obtain ⟨L, b, p, u, val, X, S⟩ := st_none m h1 h2 hl
    exact law_of S ns ht
end K01

end

set_option maxHeartbeats 0 in
theorem PySem.Challenge.cw_flagfalls_k01_stairs_in_normal_form_holds : PySem.Challenge.rw_flagfalls_k01_stairs_in_normal_form.Holds := by
  exact K01.holds_of fun ns _ _ => K01.law_ok ns
