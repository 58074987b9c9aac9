import PyProof.Rows.All
import Wide.All
import OpenK.AllK
import Wide.FinOn
import KE.KExcSuper
import HandS.ForExc
import HandS.ExcCtx
import KE.KExcIs
import HandS.ExcField
import HandS.ForMost
import HandS.IsInst
import HandS.Wide
import HandS.TupAny
import HandS.SortInts
import HandS.Deep
import HandS.TryOnly
import HandS.CallSlots
import HandS.Defaults
import HandS.HotCalls
import HandS.Style
import HandS.ForList
import KE.KStateDown
import Lean
import HandS.Base
import HandS.Call
import HandS.Ends
import HandS.EndBits
import HandS.More
import HandS.Words
import HandS.WordsExc
import HandS.Head0
import HandS.Head1
import HandS.Head2
import HandS.HeadEnd
import HandS.HeadHook1
import HandS.HeadHook2
import PyProof.InstEq
import HandS.Conv
import HandS.Gcd
import KE.KMathG
import HandS.RaiseMore
import HandS.Head3
import PySem.Challenge.RW_flagfalls_k00_games
set_option Elab.async false
set_option linter.all false
set_option maxRecDepth 100000
set_option maxHeartbeats 4000000
section
/-! An own exception class over ValueError whose __init__ says super().__init__('..') and then keeps its one argument. -/
namespace X3
open PySem PySem.W PySem.Calls PyProof.Rows PySem.HandSPX
/-- __init__'s parameters, body, scope, by its field's and argument's name -/
def supA (p1 p2 : Pos) (a : Str) : Arguments := { posonlyargs := [], args := [{ arg := "self", annotation := none, pos := p1 }, { arg := a, annotation := none, pos := p2 }], vararg := none, kwonlyargs := [], kw_defaults := [], kwarg := none, defaults := [] }
def supB (msg : Str) (a : Str) (k : Nat) (p1 p2 p3 p4 p5 p6 q1 q2 q3 q4 : Pos) : List Stmt :=
  [.Expr (.Call (.Attribute (.Call (.Name "super" p1) [] [] p2) "__init__" p3) [.Constant (.str msg) k p4] [] p5) p6,
   .Assign [.Attribute (.Name "self" q1) a q2] (.Name a q3) q4]
def supS (a : Str) : Scope := { kind := .function, names := [("self", .local), (a, .local), ("__class__", .free), ("super", .globalImplicit)], isGenerator := false, isCoroutine := false, more := [] }
/-- its arguments bind as they stand -/
def BindS (f : Str) : Prop := ∀ (qual : Str) (p1 p2 : Pos) (body : List Stmt) (doc pm : Value) (an : Option Addr) (cdv ct : Value) (cc : Addr) (x v : Value),
  bindArgs (ksFn "__init__" qual (supA p1 p2 f) body (supS f) .none .none doc pm an cdv ct cc) ⟨[x, v], []⟩ = pure [(("self" : Str), x), (f, v)]
/-- the call stands on one line -/
def LineS (msg : Str) (k : Nat) (p1 p2 p3 p4 p5 : Pos) : Prop := ∀ env : Env, ∃ pl : Sem Bool, eval (.Call (.Attribute (.Call (.Name "super" p1) [] [] p2) "__init__" p3) [.Constant (.str msg) k p4] [] p5) env = (do
  let ov ← attributeBase (.Call (.Name "super" p1) [] [] p2) "__init__" env (eval (.Call (.Name "super" p1) [] [] p2) env)
  standAt p3.atName
  let (fn, fst) ← holding [ov] (getMethod ov "__init__" pl)
  callWith p5 fn fst (backTo p5 (starEach [.Constant (.str msg) k p4] env)) [])
/-- what the written part says of such a class, at C: its __init__ at fI keeps its argument as f -/
structure SupC (prog : Program) (K : Frag) (C fI : Addr) (f : Str) : Prop where
  cls : ∃ nm q N bs bm sn sub ab col dd k0 k1 k2 k3 k5, K.lookup C = some (excClassObj nm q C N bs bm true sn sub ab col dd k0 k1 k2 k3 k5 "ValueError.__new__") ∧ refsVE bm = true
  sa : findIn K (.ref C) "__setattr__" = some (some (.builtin "object.__setattr__"))
  noN : findIn K (.ref C) f = some none
  iC : findIn K (.ref C) "__init__" = some (some (.ref fI))
  tC : typeIn K (.ref fI) = some (.type "function")
  ve : subIn K (.ref C) (.type "ValueError") = some true
  sub : mroIn K C (.ref C) = some true
  sup : ks_superIn K C C "__init__" = some (some (.builtin "ValueError.__init__"))
  opq : nsIn K cStatics "thirdparty.any" = some none
  nsu : nsIn K mainGlobals "super" = some none
  top : (prog.main.scope.names.lookup ("super" : Str)).isSome = false
  ne : (f == ("self" : Str)) = false ∧ (f == ("super" : Str)) = false ∧ (f == ("__class__" : Str)) = false ∧ (f == ("__debug__" : Str)) = false
  bnd : BindS f
  fn : ∃ (qual msg : Str) (k : Nat) (oc : Value) (od : Option Addr) (doc pm : Value) (an : Option Addr) (cda cc : Addr) (ct : Value) (osl : Array (Option Value)) (p1 p2 p3 p4 p5 p6 p7 p8 q1 q2 q3 q4 : Pos),
    K.lookup fI = some ⟨oc, od, .func (ksFn "__init__" qual (supA p1 p2 f) (supB msg f k p3 p4 p5 p6 p7 p8 q1 q2 q3 q4) (supS f) .none .none doc pm an (.ref cda) ct cc), osl⟩ ∧ codeIn K (.ref cda) qual = true ∧ LineS msg k p3 p4 p5 p6 p7 ∧
    (∃ ccl cdd ccs vs file tf, K.lookup cda = some ⟨ccl, cdd, .fields vs, ccs⟩ ∧ vs[2]? = some (.str file tf) ∧ ((prog.main.file : Str) == file) = true) ∧
    ∃ cl cld csl, K.lookup cc = some ⟨cl, cld, .cell (some (.ref C)), csl⟩
/-- the exception as it stands when it is made -/
structure Made (h h' : Heap) (e C d : Addr) (f : Str) (v : Value) : Prop where
  keep : ∀ b o, h.get? b = some o → h'.get? b = some o
  new : h.objs.size ≤ e
  obj : ∃ t1, h'.get? e = some ({ cls := .ref C, dict := some d, data := .fields #[.ref t1, .none, .none, .none, .bool false, .none] } : Obj)
  dbig : h.objs.size ≤ d
  dne : d ≠ e
  ns : h'.Ns1 d (fun y => if y = f then some v else none)
section
variable {prog : Program} {w : World} {A : Around} {s : Shared} {K : Frag} {mg mb : Str → Option Value} {C fI : Addr} {f : Str}
/-- the bound built-in __init__, called -/
theorem call_mw {E : Value → Shared → Prop} {h : Heap} {g : Array GenState} {d : Drawn} {t : Nat} {os : OsState} {u x t0 C N : Addr} {nm q : Str} {bs bm : List Value} {hdct : Bool} {sn : List Str} {sub : List Value} {ab : Bool} {col : Option Bool} {dd : Option Addr} {k0 k1 k2 k3 k5 : Option Value} {rest : List Value} {Q : Value → Shared → Prop}
    (hC : h.get? C = some (excClassObj nm q C N bs bm hdct sn sub ab col dd k0 k1 k2 k3 k5 "ValueError.__new__")) (he : h.get? x = some (excO C t0)) (hu : h.get? u = some (kxs_mw "ValueError.__init__" x)) (hz : rest.length ≤ sizeLine)
    (hq : ∀ h' t1, (∀ b o, b ≠ x → h.get? b = some o → h'.get? b = some o) → h'.get? x = some (excO C t1) → Q .none ⟨h', g, d, t, os⟩) :
    wpAny (model prog w) A (call (.ref u) rest) Q E ⟨h, g, d, t, os⟩ := by
  refine wpAny_call (codeAny_of_tree ?_)
  show wpAny _ A.in1 (callAny (.ref u) ⟨rest, []⟩) _ _ _
  simp only [callAny]
  refine wpAny_bind (wpAny_load hu ?_)
  have e1 : (Value.type "method-wrapper" == Value.type "method" || Value.type "method-wrapper" == Value.type "builtin_function_or_method" || Value.type "method-wrapper" == Value.type "method-wrapper") = true := by decide
  simp only [kxs_mw, e1, if_true]
  refine KFB.if_so (by decide) ?_
  refine wpAny_bind (check_bound_init F.excBase_ValueError.toExcCallFacts hC he rfl ?_)
  refine wpAny_bind (wpAny_pure (wpAny_pure ?_))
  refine ⟨plainId_quiet F.excBase_ValueError.init.plain _, codeAny_builtin F.excBase_ValueError.initEntry ?_⟩
  exact exc_init_tree (cls := .ref C) (t0 := t0) (dv := none) (c2 := .none) (c3 := .none) (b4 := .bool false) he hz fun h' k e' _ => hq h' _ k e'

theorem init_run (T : SupC prog K C fI f) {R : Result → Shared → Prop} {x t0 : Addr} {v : Value} (X : K.In s.heap) (G : s.heap.Ns mainGlobals mg) (B : s.heap.Ns builtinsNs mb) (BB : ∀ y : Str, y ≠ "__name__" → mb y = bootBuiltins y) (hlim : s.heap.NoLimit)
    (hx : s.heap.get? x = some (excO C t0)) (hnx : K.lookup x = none) (hroom : A.depth < recursionLimit)
    (hq : ∀ h' tk dx t1, (∀ b o, b ≠ x → s.heap.get? b = some o → h'.get? b = some o) → h'.get? x = some ({ cls := .ref C, dict := some dx, data := .fields #[.ref t1, .none, .none, .none, .bool false, .none] } : Obj) → s.heap.objs.size ≤ dx → dx ≠ x →
      h'.Ns1 dx (fun y => if y = f then some v else none) → R (.ok (.ret .none)) { s with heap := h', toks := tk }) :
    codeAny (model prog w) A (.call (.ref fI) ⟨[.ref x, v], []⟩) R s := by
  obtain ⟨qual, msg, k, oc, od, doc, pm, an, cda, cc, ct, osl, p1, p2, p3, p4, p5, p6, p7, p8, q1, q2, q3, q4, ho, hcd, hline, ⟨ccl, cdd, ccs, vs, file, tf, hcode, hvs, hfile⟩, cl, cld, csl, hcell⟩ := T.fn
  obtain ⟨nm, q, N, bs, bm, sn, sub, ab, col, dd, k0, k1, k2, k3, k5, hC, hbm⟩ := T.cls
  obtain ⟨n1, n2, n3, n4⟩ := T.ne
  have hcl : clsIn K C = some { name := nm, bases := bs, mro := .ref C :: bm, ns := N, qualname := q, hasDict := true, slotNames := sn, subclasses := sub, abstract := ab, collection := col, hasDel := false } := by unfold clsIn; rw [hC] <;> rfl
  have lself : (supS f).names.lookup ("self" : Str) = some .local := by simp [supS, List.lookup]
  have larg : (supS f).names.lookup f = some .local := by simp [supS, List.lookup, n1]
  have lcls : (supS f).names.lookup ("__class__" : Str) = some .free := by
    have e : (("__class__" : Str) == f) = false := by rw [BEq.comm]; exact n3
    simp [supS, List.lookup, e, show (("__class__" : Str) == "self") = false by decide +kernel]
  have lsup : (supS f).names.lookup ("super" : Str) = some .globalImplicit := by
    have e : (("super" : Str) == f) = false := by rw [BEq.comm]; exact n2
    simp [supS, List.lookup, e, show (("super" : Str) == "self") = false by decide +kernel, show (("super" : Str) == "__class__") = false by decide +kernel]
  obtain ⟨hp, g, d, tk, os⟩ := s
  have hx' : hp.get? x = some (excO C t0) := hx
  refine ks_codeAny_call_defAt (fd := ksFn "__init__" qual (supA p1 p2 f) (supB msg f k p3 p4 p5 p6 p7 p8 q1 q2 q3 q4) (supS f) .none .none doc pm an (.ref cda) ct cc) (binds := [(("self" : Str), .ref x), (f, v)]) hroom (X _ _ ho) rfl hlim (codeRec_of X hcd) rfl
    (BindsTo.of_eq (T.bnd _ _ _ _ _ _ _ _ _ _ _ _)) ?c1 ?c2 (fun h1 hns k1' => ?_) rfl rfl rfl
  case c1 =>
    intro y hy
    simp only [supS, List.mem_cons, List.not_mem_nil, or_false] at hy
    rcases hy with rfl | rfl | rfl | rfl <;> exact fun z => nomatch z
  case c2 =>
    intro y hy
    simp only [List.mem_cons, List.not_mem_nil, or_false] at hy
    rcases hy with rfl | rfl
    · exact lself
    · exact larg
  have X1 : K.In h1 := X.keeps k1'
  have hx1 := k1' _ _ hx'
  have nself : (fun y => List.lookup y [(("self" : Str), Value.ref x), (f, v)].reverse) "self" = some (.ref x) := by
    have e : (("self" : Str) == f) = false := by rw [BEq.comm]; exact n1
    simp [List.lookup, e]
  have narg : (fun y => List.lookup y [(("self" : Str), Value.ref x), (f, v)].reverse) f = some v := by simp [List.lookup]
  have IA : InstAt h1 x (excO C t0) C none := ⟨hx1, rfl, rfl, trivial⟩
  have nsu : mg "super" = none := mg_none_of X G T.nsu
  obtain ⟨pl, hev⟩ := hline (ksEnv qual (supS f) hp.objs.size fI (.ref cda) cc)
  refine ks_wpAt_execs_cons (ks_wpAt_Expr_any (ks_wpAt_MethodCall (pl := pl) ?_ hev))
  refine ks_wpAt_super_base (s := ⟨h1, g, d, _, os⟩) lsup lcls (by decide) rfl (X1 _ _ ho) rfl rfl rfl (X1 _ _ hcode) rfl hvs hfile T.top ?_
  refine ks_loadName_global rfl lsup (loadGlobal_builtin (G.keeps k1') nsu (B.keeps k1') ((BB _ (by decide +kernel)).trans (by first | boot_by_name | rfl | kernel_rfl)) ⟨rfl, ?_⟩)
  refine wpAny_loadName_free rfl lcls rfl ⟨_, X1 _ _ hcell, rfl⟩ ?_
  refine wpAny_loadName_local rfl lself hns nself ?_
  refine ks_wpAny_isType_cls (X1 _ _ hC) rfl ⟨rfl, ?_⟩
  refine ks_wpAny_call_super (X1 _ _ hC) rfl hx1 rfl (fun c e => nomatch e) (looks_mroIn X1 T.sub) (fun h2 e2 k2 => ?_)
  have X2 : K.In h2 := X1.keeps k2
  have hx2 := k2 _ _ hx1
  have IA2 : InstAt h2 x (excO C t0) C none := ⟨hx2, rfl, rfl, trivial⟩
  have hsup : alongIn K "__init__" (((Value.ref C :: bm).dropWhile (· != .ref C)).drop 1) = some (some (.builtin "ValueError.__init__")) := by
    have z := T.sup
    unfold ks_superIn at z
    rw [hcl] at z
    exact z
  refine kxs_getMethod kxs_ValueError e2 (looks_opaque X2 T.opq) (l₀ := .ref C :: bm) (fun A' Q' E' s' k' q' => wpAny_bind ((looks_clsIn X2 hcl) A' _ E' s' k' (wpAny_pure q'))) rfl X2 hsup (IA2.type.andThen (looks_subIn X2 T.ve)) (ks_ne X2 IA2 hcl) (by decide +kernel) ?_
  have hu : (h2.push (kxs_mw "ValueError.__init__" x)).get? h2.objs.size = some (kxs_mw "ValueError.__init__" x) := Heap.get?_push_at rfl rfl
  have k3 : ∀ b o, h2.get? b = some o → (h2.push (kxs_mw "ValueError.__init__" x)).get? b = some o := fun b o e => Heap.get?_push_of_some _ e
  have xne : x ≠ h2.objs.size := Nat.ne_of_lt (Heap.lt_size hx2)
  show wpAny _ _ (callWith p7 (.ref h2.objs.size) [] (backTo p7 (starEach [.Constant (.str msg) k p6] (ksEnv qual (supS f) hp.objs.size fI (.ref cda) cc))) []) _ _ _
  refine kxs_callWith (i := "ValueError.__init__") (x := x) rfl (evalArgs_plain ?_)
  show wpAny _ _ (spliced ((false, eval (.Constant (.str msg) k p6) (ksEnv qual (supS f) hp.objs.size fI (.ref cda) cc)) :: backTo p7 (starEach [] (ksEnv qual (supS f) hp.objs.size fI (.ref cda) cc)))) _ _ _
  refine Calls.spliced_cons (Calls.Constant_str (Calls.spliced_nil ?_))
  refine ⟨hu, ?_⟩
  refine call_mw (X2.keeps k3 _ _ hC) (k3 _ _ hx2) hu (by show 1 ≤ sizeLine; rw [sizeLine_eq]; decide) fun h4 t1 k4 hx4 => ?_
  have X4 : K.In h4 := fun a o e => k4 a o (fun z => by rw [z, hnx] at e; cases e) (X2.keeps k3 a o e)
  have b1 : ∀ b o, b ≠ x → h1.get? b = some o → h4.get? b = some o := fun b o hb e => k4 b o hb (k3 _ _ (k2 _ _ e))
  have lne : hp.objs.size ≠ x := Nat.ne_of_gt (Heap.lt_size hx')
  have hns4 : h4.Ns hp.objs.size (fun y => List.lookup y [(("self" : Str), Value.ref x), (f, v)].reverse) := by
    obtain ⟨oL, es, ep, hL, r⟩ := hns
    exact ⟨oL, es, ep, b1 _ _ lne hL, r⟩
  show PySem.wpAt _ _ _ (execs [.Assign [.Attribute (.Name "self" q1) f q2] (.Name f q3) q4] (ksEnv qual (supS f) hp.objs.size fI (.ref cda) cc)) _ _ _
  refine wpAt_of_wpAny (wpAny_execs_cons (plainObj_wpAny_Assign_Attribute ?_))
  refine wpAny_Name (wpAny_loadName_local rfl larg hns4 narg ?_) n4
  refine wpAny_Name (wpAny_loadName_local rfl lself hns4 nself ?_) (by decide)
  refine set_plain X4 (ox := excO C t1) (od := none) ⟨hx4, rfl, rfl, trivial⟩ T.sa ?_
  refine PySem.HandSPX.exc_osa X4 hx4 hcl (show refsVE (.ref C :: bm) = true from hbm) rfl T.noN (fun h5 tk5 dx k5 dn dne hx5 hn5 => ?_)
  exact wpAny_execs_nil (hq h5 tk5 dx t1 (fun b o hb e => k5 b o hb (b1 b o hb (k1' _ _ e))) hx5 (Nat.le_trans (Nat.le_of_lt hns4.lt) dn) dne hn5)
/-- the class, called -/
theorem made_of (T : SupC prog K C fI f) {R : Result → Shared → Prop} {v : Value} (X : K.In s.heap) (G : s.heap.Ns mainGlobals mg) (B : s.heap.Ns builtinsNs mb) (BB : ∀ y : Str, y ≠ "__name__" → mb y = bootBuiltins y) (hlim : s.heap.NoLimit) (hroom : A.depth + 1 < recursionLimit)
    (hq : ∀ h' tk e d, Made s.heap h' e C d f v → R (.ok (.ret (.ref e))) { s with heap := h', toks := tk }) :
    codeAny (model prog w) A (.call (.ref C) ⟨[v], []⟩) R s := by
  obtain ⟨nm, q, N, bs, bm, sn, sub, ab, col, dd, k0, k1, k2, k3, k5, hC, hbm⟩ := T.cls
  obtain ⟨hp, g, d, tk, os⟩ := s
  have k : ∀ b o, hp.get? b = some o → ((hp.push (kdv_tup [v])).push (PySem.HandSPX.excO C hp.objs.size)).get? b = some o := fun b o e => Heap.get?_push_of_some _ (Heap.get?_push_of_some _ e)
  have hget : ((hp.push (kdv_tup [v])).push (PySem.HandSPX.excO C hp.objs.size)).get? (hp.objs.size + 1) = some (PySem.HandSPX.excO C hp.objs.size) := by heap_get
  have hnx : K.lookup (hp.objs.size + 1) = none := by
    cases e : K.lookup (hp.objs.size + 1) with
    | none => rfl
    | some o => exact absurd (Nat.lt_of_succ_lt (Heap.lt_size (show hp.get? _ = some o from X _ _ e))) (Nat.lt_irrefl _)
  refine PySem.HandSPX.call_own F.excBase_ValueError (fun Y => refsVE_contains Y bm hbm) (X _ _ hC) (looks_findIn X T.iC) (fun self => bind_fn X self T.tC) (by show 1 ≤ sizeLine; rw [sizeLine_eq]; decide) ?_
  refine init_run (mg := mg) (mb := mb) (s := ⟨(hp.push (kdv_tup [v])).push (PySem.HandSPX.excO C hp.objs.size), g, d, tk, os⟩) T (X.keeps k) (G.keeps k) (B.keeps k) BB (hlim.keeps k) hget hnx (by show A.depth + 1 < recursionLimit; exact hroom) fun h' tk' dx t1 k' hx dn dne hns => ?_
  have old : ∀ b o, hp.get? b = some o → h'.get? b = some o := fun b o e => k' b o (Nat.ne_of_lt (Nat.lt_succ_of_lt (Heap.lt_size e))) (k b o e)
  have z : hp.objs.size + 1 + 1 ≤ dx := by
    have q' := dn
    first
      | (simpa only [Heap.size_push] using q')
      | (rw [Heap.size_push, Heap.size_push] at q'; exact q')
  exact ⟨rfl, hq h' tk' (hp.objs.size + 1) dx ⟨old, Nat.le_succ _, ⟨t1, hx⟩, Nat.le_trans (Nat.le_trans (Nat.le_succ _) (Nat.le_succ _)) z, dne, hns⟩⟩
end
end X3

end
section
namespace X3
open PySem PySem.W PySem.Calls PyProof.Rows L2
/-! ### C(e) -/
section
variable {X : Cx} {C fI : Addr} {f : Str}
def tMkSup (C : Addr) (f : Str) (te : TE) : L2.St → Hp → XK → Prop := fun σ H Q => te σ H fun v H1 => ∀ d, H1 d = none → Q (.ref C) (some d) (upd H1 d (.xd [(f, v)]))
theorem relO_one {v : V} {u : Value} (r : RelV v u) (f g : Str) : RelO (List.lookup g [(f, v)]) (if g = f then some u else none) := by
  by_cases h : g = f
  · subst h
    have e : List.lookup g [(g, v)] = some v := by simp [List.lookup]
    rw [if_pos rfl, e]
    exact r
  · have e : List.lookup g [(f, v)] = none := by
      have z : (g == f) = false := by simpa using h
      simp [List.lookup, z]
    rw [if_neg h, e]
    trivial
theorem pmk_sup {a : Expr} {te : TE} {x : Str} {p pos : Pos} {k : Nat} (T : SupC X.prog X.K C fI f) (gC : X.mg x = some (.ref C)) (kC : keepIn X.K (.ref C) = true) (rs : Raises X (.ref C)) (hr : X.A.depth + 1 < recursionLimit) (ha : PE X a te) (hg : Gl X x := by rfl)
    (hdb : (x == ("__debug__" : Str)) = false := by decide) (he : starEach (a :: []) X.env = (false, eval a X.env) :: starEach [] X.env := by rfl) (hpl : (backTo pos (starEach [] X.env)).any (·.1) = false := by rfl) :
    L2N.PMk X (.Call (.Name x p) [a] [] pos) (tMkSup C f te) := by
  intro pins s σ H Q I h
  refine wpAny_Call_Name_kw (ld_glob I hg gC ?_ hdb)
  have hpa : PA X [a] (tCons te tNil) := pa_cons ha pa_nil he
  refine callWith_K (h₀ := X.base) I.ok.mod.kin kC (thn (hpa.run pos pins s σ H (fun vs H1 => match vs with
    | [v] => ∀ d, H1 d = none → Q (.ref C) (some d) (upd H1 d (.xd [(f, v)]))
    | _ => False) I h) fun us s1 hh => ?_) he hpl
  obtain ⟨vs, H1, I1, r1, q0⟩ := hh
  obtain ⟨v, ev, q1⟩ : ∃ v, vs = [v] ∧ ∀ d, H1 d = none → Q (.ref C) (some d) (upd H1 d (.xd [(f, v)])) := by
    match vs, q0 with
    | [v], q0 => exact ⟨v, rfl, q0⟩
  subst ev
  refine ⟨I1.kIn, ?_⟩
  cases r1 with
  | cons rv rn =>
    rename_i u us'
    cases rn
    show wpAny _ _ (call (.ref C) [u]) _ _ _
    have hlim := I1.nolimit
    obtain ⟨mb, hmb1, hmb2⟩ := I1.mod.blt
    have G1 : s1.heap.Ns mainGlobals X.mg := I1.mod.glob.keeps I1.bk
    have B1 : s1.heap.Ns builtinsNs mb := hmb1.keeps I1.bk
    obtain ⟨hp, g, dr, tk, os⟩ := s1
    refine wpAny_call (made_of (mg := X.mg) (mb := mb) T I1.kIn G1 B1 hmb2 hlim hr fun h' tk' e d M => ?_)
    show L2N.MkP X pins σ Q (.ref e) ⟨h', g, dr, tk', os⟩
    obtain ⟨t1, hoe⟩ := M.obj
    obtain ⟨G', g1, g2⟩ := restrict h' fun b => decide (b ≠ e)
    have gk : ∀ b, b ≠ e → G'.get? b = h'.get? b := fun b hb => g1 b (decide_eq_true hb)
    have ge : G'.get? e = none := g2 e (by simp)
    have old : ∀ b o, hp.get? b = some o → G'.get? b = some o := fun b o q => (gk b (Nat.ne_of_lt (Nat.lt_of_lt_of_le (Heap.lt_size q) M.new))).trans (M.keep b o q)
    have ob : ObjOk X.prog X.w (upd H1 d (.xd [(f, v)])) G' d (.xd [(f, v)]) := ⟨_, M.ns.at (fun o q => (gk d M.dne).trans q), fun y => relO_one rv f y⟩
    have J : Inv X pins σ (upd H1 d (.xd [(f, v)])) ⟨G', g, dr, tk', os⟩ := I1.laid (t' := tk') old M.dbig ob
    refine ⟨e, _, _, ⟨G', g, dr, tk', os⟩, _, .ref C, some d, rfl, J, fun b o q => ?_, ge, hoe, ⟨rfl, rfl, fun vs e => by cases e; rfl⟩, rfl, rfl, ?_, rfl, I1.bare, rs, q1 d (I1.hok.fresh M.dbig)⟩
    · by_cases hb : b = e
      · have q' : G'.get? b = some o := q
        rw [hb, ge] at q'
        cases q'
      · exact (gk b hb).symm.trans q
    · rw [upd_ne (Ne.symm M.dne)]
      exact I1.hok.fresh M.new
end
/-! ### isinstance(e, D) of the exception that a suite holds, whatever its dict -/
structure ExI (K : Frag) (D : Addr) : Prop where
  c0 : (clsIn K D).isSome = true
  ga : findIn K (.ref D) "__getattribute__" = some (some (.builtin "BaseException.__getattribute__"))
  gg : findIn K (.ref D) "__getattr__" = some none
  be : subIn K (.ref D) (.type "BaseException") = some true
  cl : findIn K (.ref D) "__class__" = some (some (.builtin "object.__class__"))
  sp : specialIn K (.builtin "object.__class__") "__get__" = some (some (.builtin "getset_descriptor.__get__"))
  tk : takesIn K (.builtin "object.__class__") = some true
  mo : mroIn K D (.type "object") = some true
def rIsX (K : Frag) (D a : Addr) : List V → Hp → VK → Prop := fun xs H Q => ∃ (c : V) (cv : Value) (b : Bool), xs = [.ref a, c] ∧ (∀ u, RelV c u → u = cv) ∧ kitOne K (.ref D) cv = some b ∧ Q (.bl b) H
theorem call_isX {X : Cx} {a D : Addr} {oe : Obj} {d : Option Addr} {fs : List (Str × V)} {pn : List (Addr × Obj)} (T : ExI X.K D) (hz : Zc (.ref D) d oe) (hf : ∃ vs, oe.data = .fields vs) :
    CallR (X.suite a ((a, oe) :: pn)) (.builtin "isinstance") (fun xs H Q => (∀ dd, d = some dd → H dd = some (.xd fs)) ∧ rIsX X.K D a xs H Q) := by
  intro pins s σ H xs us Q I r h
  obtain ⟨hd, c, cv, b, rfl, hcv, e, q⟩ := h
  cases r with
  | cons rx rr =>
    cases rr with
    | cons rt rr =>
      cases rr
      cases rx
      have ec := hcv _ rt
      subst ec
      obtain ⟨hget, _⟩ := I.pin (a, oe) (List.mem_append.mpr (.inl List.mem_cons_self))
      obtain ⟨vs, hv⟩ := hf
      have J : ∃ odo, InstAt s.heap a oe D odo := by
        obtain ⟨oc, od, oda, osl⟩ := oe
        obtain ⟨h1, h2⟩ := hz
        dsimp only at h1 h2 hv
        subst h1 h2 hv
        cases od with
        | none => exact ⟨none, hget, rfl, rfl, trivial⟩
        | some dd =>
          have hx : ObjOk X.prog X.w H s.heap dd (.xd fs) := I.hok dd _ (hd dd rfl)
          obtain ⟨mA, hns, hr⟩ := hx
          obtain ⟨o2, ho2, hl⟩ := lookIn_ns hns
          exact ⟨some o2, hget, rfl, rfl, ho2⟩
      obtain ⟨odo, J⟩ := J
      exact kia_one (kitx_exc T.c0 T.ga T.gg T.be T.cl T.sp T.tk T.mo) I.kIn J e (fun z => nomatch z) fun tk => ⟨.bl b, H, I.kept (t' := tk) fun _ _ z => z, rfl, q⟩
end X3

end
section
/-! try with any number of except clauses, each with or without a name, over exceptions whose context is None -/
namespace X3
open PySem PySem.W PySem.Calls PyProof.Rows L2
abbrev Su := Addr → Value → Option Addr → TS
/-- what stands behind a suite whose name (slot i) goes -/
def Ends.gone (D : Ends) (i : Nat) : Ends where
  nx := fun σ H => D.nx (σ.set i none) H
  rt := D.rt
  bk := fun σ H => D.bk (σ.set i none) H
  ct := fun σ H => D.ct (σ.set i none) H
/-- one clause's suite, by whether it has a name -/
def suT (o : Option Nat) (ts : Su) (a : Addr) (cls : Value) (d : Option Addr) (D : Ends) (σ : L2.St) (H : Hp) : Prop :=
  match o with
  | none => ts a cls d D σ H
  | some i => ts a cls d (Ends.gone D i) (σ.set i (some (.ref a))) H
def wH (K : Frag) (Wout : WX) (D : Ends) : List (Value × Option Nat × Su) → WX
  | [] => Wout
  | (c, o, ts) :: r => fun cls d σ H =>
    ∃ b, exmOne K cls c = some b ∧ (b = true → ∀ a, H a = none → suT o ts a cls d D σ H) ∧
      (b = false → wH K Wout D r cls d σ H)
/-- the suite under any pins -/
def SuOk (X : Cx) (l : List Stmt) (ts : Su) : Prop :=
  ∀ (a : Addr) (ob : Obj) (cls : Value) (d : Option Addr) (pl : List (Addr × Obj)), L2N.Zn cls d ob →
    (∃ vs, ob.data = .fields vs) → PSs (X.suite a ((a, ob) :: pl)) l (ts a cls d)
inductive HdOk (X : Cx) : List ExceptHandler → List (Value × Option Nat × Su) → Prop
  | nil : HdOk X [] []
  | bare {x : Str} {c : Value} {ts : Su} {b₀ : Stmt} {su : List Stmt} {p1 p2 : Pos} {hds : List ExceptHandler} {l : List (Value × Option Nat × Su)} (hc : Names X x c) (hsu : SuOk X (b₀ :: su) ts) (r : HdOk X hds l) :
      HdOk X (.ExceptHandler (some (.Name x p1)) none (b₀ :: su) p2 :: hds) ((c, none, ts) :: l)
  | named {x n : Str} {i : Nat} {c : Value} {ts : Su} {b₀ : Stmt} {su : List Stmt} {p1 p2 : Pos} {hds : List ExceptHandler} {l : List (Value × Option Nat × Su)} (hN : X.N.Nodup) (hi : X.N[i]? = some n) (hl : X.env.kindOf n = some .local) (hc : Names X x c)
      (hsu : SuOk X (b₀ :: su) ts) (r : HdOk X hds l) : HdOk X (.ExceptHandler (some (.Name x p1)) (some n) (b₀ :: su) p2 :: hds) ((c, some i, ts) :: l)
section
variable {X : Cx} {body : List Stmt} {h₀ : ExceptHandler} {hds : List ExceptHandler} {l : List (Value × Option Nat × Su)} {pos : Pos} {tb : WX → TS} {Wout : WX}
theorem ps_tryH (hs : X.stack = X.env :: X.outer) (hf : X.env.frame = some X.env.locals) (tk : L2N.Takes X Wout)
    (hb : ∀ (W : WX) (pl : List (Addr × Obj)) (xe : Value → Shared → Prop), L2N.Takes (X.tr pl xe) W → PassesOwn (model X.prog X.w) X.A X.env xe → PSs (X.tr pl xe) body (tb W))
    (hh : HdOk X (h₀ :: hds) l) : PS X (.Try body (h₀ :: hds) [] [] pos) (fun D σ H => tb (wH X.K Wout D l) D σ H) := by
  refine ⟨fun pins st σ H D I hw => ?_⟩
  have ok := I.ok
  have frm : X.A.frames = some (X.env :: X.outer) := ok.frames.trans (congrArg some hs)
  let xe1 : Value → Shared → Prop := fun e s₁ => wpAny (model X.prog X.w) X.A (noteFrame e X.env) (fun _ s₂ =>
    wpAny (model X.prog X.w) X.A (setFlight e none) (fun _ s₃ =>
      wpAny (model X.prog X.w) X.A (handleBy e X.env (h₀ :: hds)) (SP X pins D) X.xe s₃) X.xe s₂) X.xe s₁
  have catch_ : L2N.Takes (X.tr (X.pn ++ pins) xe1) (wH X.K Wout D l) := by
    rintro u s4 ⟨e, B, sI, pl, τ, H4, cls, d, eu, I4, nb, up, sky, na, os, ag, hW⟩
    subst eu
    have J : Inv X pins τ H4 sI := I4.ofTry ok
    have sky2 : Sky B (X.env :: X.outer) e (L2N.Zn cls d) X.env.locals s4.heap := hs ▸ sky
    show wpAny (model X.prog X.w) X.A (noteFrame (.ref e) X.env) _ _ _
    refine L2N.Sky.land L2N.Zn.steady frm hf sky2 fun g3 fl3 up3 => ?_
    have J3 : Inv X pins τ H4 { s4 with heap := g3 } := J.landed nb fl3.1 (up.trans up3) os ag
    obtain ⟨ob3, va3, he3, hz3, hd3⟩ := fl3.there
    have away : e ∉ frs (X.env :: X.outer) := fun hm => by
      obtain ⟨_, o2, e2, hnf⟩ := fl3.2.2.1.mem hm
      rw [he3] at e2
      cases e2
      exact hnf _ hd3
    have nL : e ≠ X.env.locals := fun z => away (List.mem_filterMap.mpr ⟨X.env, List.mem_cons_self, hf.trans (congrArg some z.symm)⟩)
    have nF : e ∉ X.fs := fun hm =>
      let ⟨v, hv, q⟩ := List.mem_filterMap.mp hm
      away (List.mem_filterMap.mpr ⟨v, List.mem_cons_of_mem _ hv, q⟩)
    have S3 := J3.suite he3 hd3 na nL nF
    have tyE : Looks (model X.prog X.w) g3 (typeOf (.ref e)) cls := fun A Q E s k q =>
      wpAny_typeOf_ref (k _ _ he3) (by rw [hz3.1]; exact q)
    have name_ : ∀ {x : Str} {c : Value} {p : Pos} {Q E : Value → Shared → Prop}, Names X x c → Q c { s4 with heap := g3 } →
        wpAny (model X.prog X.w) (X.A.mark (some (.ref e))) (eval (.Name x p) X.env) Q E { s4 with heap := g3 } := by
      intro x c p Q E nm q
      obtain ⟨n1, n2, n3 | ⟨n3, n4, n5⟩⟩ := nm
      · exact ld_glob (X := X.suite e ((e, ob3) :: (X.pn ++ pins))) S3 n1 n3 q n2
      · exact ld_blt (X := X.suite e ((e, ob3) :: (X.pn ++ pins))) S3 n1 n3 n4 q n5 n2
    have all : ∀ {hs2 : List ExceptHandler} {l2 : List (Value × Option Nat × Su)}, HdOk X hs2 l2 → wH X.K Wout D l2 cls d τ H4 →
        wpAny (model X.prog X.w) X.A (handleBy (.ref e) X.env hs2) (SP X pins D) X.xe { s4 with heap := g3 } := by
      intro hs2 l2 hk
      induction hk with
      | nil =>
        intro w
        refine wpAny_handleBy_nil ?_
        obtain ⟨_, _, _, ob, va, T, _, _, he, _, hd, h1, _⟩ := id fl3
        unfold PySem.passOn
        refine wpAny_bind (wpAny_field he hd h1 ?_)
        rw [if_neg (show ¬ ((Value.ref T == Value.none) = true) by simp)]
        have out : wpAny (model X.prog X.w) X.A (setFlight (.ref e) X.env.frame)
            (fun _ s5 => wpAny (model X.prog X.w) X.A (throw (.ref e) : Sem Flow) (SP X pins D) X.xe s5) X.xe { s4 with heap := g3 } := by
          rw [hf]
          refine PySem.HandSPX.setFlight_upZ fl3 fun g4 held up4 => wpAny_throw (tk _ _ ?_)
          exact ⟨e, B, sI, pins, τ, H4, cls, d, rfl, J, nb, (up.trans up3).trans up4,
            .inr (.inr (by rw [hs]; exact held)), na, os, ag, w⟩
        first
          | exact wpAny_bind (wpAny_pure (wpAny_bind out))
          | exact wpAny_bind out
      | @bare x c ts b₀ su p1 p2 hds3 l3 hc hsu r ih =>
        rintro ⟨b, hb1, yes, no⟩
        refine wpAny_handleBy_cons (codeAny_handlers_test ?_) (fun q => nomatch q)
        refine name_ hc ((exm_one J3.kIn tyE hb1).here ?_)
        cases b with
        | false => exact ih (no rfl)
        | true =>
          refine codeAny_handlers_suite (PySem.HandSPX.lands_againZ fl3 fun g4 fl4 up4 => ?_)
          have J4 : Inv X pins τ H4 { s4 with heap := g4 } :=
            J.landed nb fl4.1 ((up.trans up3).trans up4) os ag
          obtain ⟨ob4, va4, he4, hz4, hd4⟩ := fl4.there
          have run := (hsu e ob4 cls d (X.pn ++ pins) hz4 ⟨_, hd4⟩).run [] _ _ H4 _ (J4.suite he4 hd4 na nL nF) (yes rfl e na)
          refine wpAny_mono run (fun fl s6 q => ?_) (fun _ _ z => z.elim)
          cases fl with
          | next =>
            obtain ⟨_, _, S6, q6⟩ := q
            exact ⟨_, _, S6.unsuite ok, q6⟩
          | brk =>
            obtain ⟨_, _, S6, q6⟩ := q
            exact ⟨_, _, S6.unsuite ok, q6⟩
          | cont =>
            obtain ⟨_, _, S6, q6⟩ := q
            exact ⟨_, _, S6.unsuite ok, q6⟩
          | ret u =>
            obtain ⟨_, _, _, S6, r6, q6⟩ := q
            exact ⟨_, _, _, S6.unsuite ok, r6, q6⟩
      | @named x n i c ts b₀ su p1 p2 hds3 l3 hN hi hl hc hsu r ih =>
        rintro ⟨b, hb1, yes, no⟩
        refine wpAny_handleBy_cons (codeAny_handlers_test ?_) (fun q => nomatch q)
        refine name_ hc ((exm_one J3.kIn tyE hb1).here ?_)
        cases b with
        | false => exact ih (no rfl)
        | true =>
          refine codeAny_handlers_suite_as (PySem.HandSPX.lands_againZ fl3 fun g4 fl4 up4 => ?_)
          have J4 : Inv X pins τ H4 { s4 with heap := g4 } :=
            J.landed nb fl4.1 ((up.trans up3).trans up4) os ag
          obtain ⟨ob4, va4, he4, hz4, hd4⟩ := fl4.there
          refine store_ok (X := X.suite e ((e, ob4) :: (X.pn ++ pins))) (v := .ref e) (J4.suite he4 hd4 na nL nF) hN hi (.inl hl) rfl (fun s5 S5 => ?_) (.inr hl)
          have run := (hsu e ob4 cls d (X.pn ++ pins) hz4 ⟨_, hd4⟩).run [] s5 _ H4 _ S5 (yes rfl e na)
          refine wpAny_mono run (fun fl s6 q => ?_) (fun _ _ z => z.elim)
          have leave : ∀ {τ6 : L2.St} {H6 : Hp} {Q : Shared → Prop}, Inv (X.suite e ((e, ob4) :: (X.pn ++ pins))) [] τ6 H6 s6 →
              (∀ s7, Inv X pins (τ6.set i none) H6 s7 → Q s7) →
              wpAny (model X.prog X.w) X.A (do bindName X.env n .none; unbindBehindTheSuite X.env n p2) (fun _ s7 => Q s7) X.xe s6 :=
            fun {τ6 H6 Q} S6 k => gone_ok (S6.unsuite ok) hN hi hl k
          cases fl with
          | next =>
            obtain ⟨_, _, S6, q6⟩ := q
            exact leave S6 fun s7 J7 => ⟨_, _, J7, q6⟩
          | brk =>
            obtain ⟨_, _, S6, q6⟩ := q
            exact leave S6 fun s7 J7 => ⟨_, _, J7, q6⟩
          | cont =>
            obtain ⟨_, _, S6, q6⟩ := q
            exact leave S6 fun s7 J7 => ⟨_, _, J7, q6⟩
          | ret u =>
            obtain ⟨_, _, _, S6, r6, q6⟩ := q
            exact leave S6 fun s7 J7 => ⟨_, _, _, J7, r6, q6⟩
    exact all hh hW
  refine wpAny_Try_except (wpAny_mono ((hb _ _ xe1 catch_ PassesOwn.looking).run [] st σ H D (I.toTry _) hw) (fun fl s1 q => ?_) (fun e s1 he => he))
  cases fl with
  | next =>
    obtain ⟨_, _, I1, q1⟩ := q
    exact wpAny_execs_nil ⟨_, _, I1.ofTry ok, q1⟩
  | brk =>
    obtain ⟨_, _, I1, q1⟩ := q
    exact ⟨_, _, I1.ofTry ok, q1⟩
  | cont =>
    obtain ⟨_, _, I1, q1⟩ := q
    exact ⟨_, _, I1.ofTry ok, q1⟩
  | ret u =>
    obtain ⟨_, _, _, I1, r1, q1⟩ := q
    exact ⟨_, _, _, I1.ofTry ok, r1, q1⟩
end
end X3

end
section
/-! L3: a program's defs as plain functions over plain values. 1: values, what represents them, environments. -/
namespace L3
open PySem PySem.Spec PyProof.Rows L2
/-- a plain value: an instance is its class's number and its fields; scr: a list that is only read (the script) -/
inductive PV where
  | non | bl (b : Bool) | int (i : Int) | str (s : Str) | lst (l : List PV) | scr (l : List PV) | tup (l : List PV) | ins (c : Nat) (fs : List (Str × PV))
  deriving Inhabited
/-- the written part and where the classes stand -/
structure Gc where
  K : PySem.W.Frag
  CA : Nat → Addr
mutual
/-- v stands for the plain value, as the objects of H are -/
def Rep (G : Gc) (H : Hp) : PV → V → Prop
  | .non, v => v = .non
  | .bl b, v => v = .bl b
  | .int i, v => v = .int i
  | .str s, v => v = .str s
  | .lst l, v => ∃ a xs, v = .ref a ∧ H a = some (.lst xs) ∧ Reps G H l xs
  | .scr l, v => ∃ a xs, v = .ref a ∧ SqL G.K H a xs ∧ Reps G H l xs
  | .tup l, v => ∃ a xs, v = .ref a ∧ SqT G.K H a xs ∧ Reps G H l xs
  | .ins c fs, v => ∃ a dx vs, v = .ref a ∧ H a = some (.ins (G.CA c) dx vs) ∧ RepF G H fs vs
def Reps (G : Gc) (H : Hp) : List PV → List V → Prop
  | [], xs => xs = []
  | p :: ps, xs => ∃ x ys, xs = x :: ys ∧ Rep G H p x ∧ Reps G H ps ys
def RepF (G : Gc) (H : Hp) : List (Str × PV) → List (Str × V) → Prop
  | [], xs => xs = []
  | (f, p) :: ps, xs => ∃ x ys, xs = (f, x) :: ys ∧ Rep G H p x ∧ RepF G H ps ys
end
theorem Same.seqT {K : PySem.W.Frag} {H H' : Hp} {a : Addr} {xs : List V} (e : Same H H') (h : SqT K H a xs) : SqT K H' a xs := by
  rcases h with (h | ⟨o, h⟩) | h
  · exact .inl (.inl (e _ _ h))
  · exact .inl (.inr ⟨o, e _ _ h⟩)
  · exact .inr h
section
variable {G : Gc} {H H' : Hp}
mutual
theorem Rep.mono (e : Same H H') : ∀ {p : PV} {v : V}, Rep G H p v → Rep G H' p v
  | .non, _, h => by simpa only [Rep] using h
  | .bl _, _, h => by simpa only [Rep] using h
  | .int _, _, h => by simpa only [Rep] using h
  | .str _, _, h => by simpa only [Rep] using h
  | .lst l, v, h => by
    simp only [Rep] at h ⊢
    obtain ⟨a, xs, h1, h2, h3⟩ := h
    exact ⟨a, xs, h1, e _ _ h2, Reps.mono e h3⟩
  | .scr l, v, h => by
    simp only [Rep] at h ⊢
    obtain ⟨a, xs, h1, h2, h3⟩ := h
    exact ⟨a, xs, h1, e.seq h2, Reps.mono e h3⟩
  | .tup l, v, h => by
    simp only [Rep] at h ⊢
    obtain ⟨a, xs, h1, h2, h3⟩ := h
    exact ⟨a, xs, h1, Same.seqT e h2, Reps.mono e h3⟩
  | .ins c fs, v, h => by
    simp only [Rep] at h ⊢
    obtain ⟨a, dx, vs, h1, h2, h3⟩ := h
    exact ⟨a, dx, vs, h1, e _ _ h2, RepF.mono e h3⟩
theorem Reps.mono (e : Same H H') : ∀ {ps : List PV} {vs : List V}, Reps G H ps vs → Reps G H' ps vs
  | [], _, h => by simpa only [Reps] using h
  | p :: ps, vs, h => by
    simp only [Reps] at h ⊢
    obtain ⟨x, ys, h1, h2, h3⟩ := h
    exact ⟨x, ys, h1, Rep.mono e h2, Reps.mono e h3⟩
theorem RepF.mono (e : Same H H') : ∀ {ps : List (Str × PV)} {vs : List (Str × V)}, RepF G H ps vs → RepF G H' ps vs
  | [], _, h => by simpa only [RepF] using h
  | (f, p) :: ps, vs, h => by
    simp only [RepF] at h ⊢
    obtain ⟨x, ys, h1, h2, h3⟩ := h
    exact ⟨x, ys, h1, Rep.mono e h2, RepF.mono e h3⟩
end
theorem Reps.length : ∀ {ps : List PV} {vs : List V}, Reps G H ps vs → ps.length = vs.length
  | [], _, h => by simp only [Reps] at h; subst h; rfl
  | p :: ps, vs, h => by
    simp only [Reps] at h
    obtain ⟨x, ys, h1, _, h3⟩ := h
    subst h1
    simp only [List.length_cons, Reps.length h3]
theorem Reps.get : ∀ {ps : List PV} {vs : List V} {i : Nat} {p : PV}, Reps G H ps vs → ps[i]? = some p → ∃ v, vs[i]? = some v ∧ Rep G H p v
  | [], _, _, _, _, e => by simp at e
  | p :: ps, vs, 0, q, h, e => by
    simp only [Reps] at h
    obtain ⟨x, ys, h1, h2, _⟩ := h
    subst h1
    simp at e
    subst e
    exact ⟨x, rfl, h2⟩
  | p :: ps, vs, i + 1, q, h, e => by
    simp only [Reps] at h
    obtain ⟨x, ys, h1, _, h3⟩ := h
    subst h1
    obtain ⟨v, e1, e2⟩ := Reps.get (i := i) h3 (by simpa using e)
    exact ⟨v, by simpa using e1, e2⟩
theorem Reps.get_v : ∀ {ps : List PV} {vs : List V} {i : Nat} {v : V}, Reps G H ps vs → vs[i]? = some v → ∃ p, ps[i]? = some p ∧ Rep G H p v
  | [], _, _, _, h, e => by simp only [Reps] at h; subst h; simp at e
  | p :: ps, vs, 0, v, h, e => by
    simp only [Reps] at h
    obtain ⟨x, ys, h1, h2, _⟩ := h
    subst h1
    simp at e
    subst e
    exact ⟨p, rfl, h2⟩
  | p :: ps, vs, i + 1, v, h, e => by
    simp only [Reps] at h
    obtain ⟨x, ys, h1, _, h3⟩ := h
    subst h1
    obtain ⟨v, e1, e2⟩ := Reps.get_v (i := i) h3 (by simpa using e)
    exact ⟨v, by simpa using e1, e2⟩
theorem Reps.append : ∀ {ps qs : List PV} {vs ws : List V}, Reps G H ps vs → Reps G H qs ws → Reps G H (ps ++ qs) (vs ++ ws)
  | [], _, _, _, h, k => by simp only [Reps] at h; subst h; exact k
  | p :: ps, qs, vs, ws, h, k => by
    simp only [Reps] at h
    obtain ⟨x, ys, h1, h2, h3⟩ := h
    subst h1
    show Reps G H (p :: (ps ++ qs)) (x :: (ys ++ ws))
    simp only [Reps]
    exact ⟨x, _, rfl, h2, Reps.append h3 k⟩
theorem Reps.one {p : PV} {v : V} (h : Rep G H p v) : Reps G H [p] [v] := by
  simp only [Reps]
  exact ⟨v, [], rfl, h, rfl⟩
theorem Reps.cons {p : PV} {v : V} {ps : List PV} {vs : List V} (h : Rep G H p v) (k : Reps G H ps vs) : Reps G H (p :: ps) (v :: vs) := by
  simp only [Reps]
  exact ⟨v, vs, rfl, h, k⟩
theorem Reps.nil : Reps G H [] [] := by simp only [Reps]
theorem Reps.take : ∀ (n : Nat) {ps : List PV} {vs : List V}, Reps G H ps vs → Reps G H (ps.take n) (vs.take n)
  | 0, _, _, _ => by simp only [List.take_zero]; exact Reps.nil
  | n + 1, [], _, h => by simp only [Reps] at h; subst h; exact Reps.nil
  | n + 1, p :: ps, vs, h => by
    simp only [Reps] at h
    obtain ⟨x, ys, h1, h2, h3⟩ := h
    subst h1
    simp only [List.take_succ_cons]
    exact Reps.cons h2 (Reps.take n h3)
theorem Reps.drop : ∀ (n : Nat) {ps : List PV} {vs : List V}, Reps G H ps vs → Reps G H (ps.drop n) (vs.drop n)
  | 0, _, _, h => by simpa only [List.drop_zero] using h
  | n + 1, [], _, h => by simp only [Reps] at h; subst h; exact Reps.nil
  | n + 1, p :: ps, vs, h => by
    simp only [Reps] at h
    obtain ⟨x, ys, h1, h2, h3⟩ := h
    subst h1
    simp only [List.drop_succ_cons]
    exact Reps.drop n h3
theorem Reps.set : ∀ {ps : List PV} {vs : List V} (i : Nat) {p : PV} {v : V}, Reps G H ps vs → Rep G H p v → Reps G H (ps.set i p) (vs.set i v)
  | [], _, _, _, _, h, _ => by simp only [Reps] at h; subst h; simp only [List.set_nil]; exact Reps.nil
  | q :: ps, vs, 0, p, v, h, k => by
    simp only [Reps] at h
    obtain ⟨x, ys, h1, _, h3⟩ := h
    subst h1
    exact Reps.cons k h3
  | q :: ps, vs, i + 1, p, v, h, k => by
    simp only [Reps] at h
    obtain ⟨x, ys, h1, h2, h3⟩ := h
    subst h1
    exact Reps.cons h2 (Reps.set i h3 k)
theorem RepF.get : ∀ {ps : List (Str × PV)} {vs : List (Str × V)} {f : Str} {p : PV}, RepF G H ps vs → ps.lookup f = some p → ∃ v, vs.lookup f = some v ∧ Rep G H p v
  | [], _, _, _, _, e => by simp at e
  | (g, p) :: ps, vs, f, q, h, e => by
    simp only [RepF] at h
    obtain ⟨x, ys, h1, h2, h3⟩ := h
    subst h1
    by_cases c : (f == g) = true
    · simp only [List.lookup, c, Option.some.injEq] at e ⊢
      subst e
      exact ⟨x, rfl, h2⟩
    · have c' : (f == g) = false := by simpa using c
      simp only [List.lookup, c'] at e ⊢
      exact RepF.get h3 e
theorem RepF.none_of : ∀ {ps : List (Str × PV)} {vs : List (Str × V)} {f : Str}, RepF G H ps vs → ps.lookup f = none → vs.lookup f = none
  | [], _, _, h, _ => by simp only [RepF] at h; subst h; rfl
  | (g, p) :: ps, vs, f, h, e => by
    simp only [RepF] at h
    obtain ⟨x, ys, h1, h2, h3⟩ := h
    subst h1
    by_cases c : (f == g) = true
    · simp only [List.lookup, c] at e
      cases e
    · have c' : (f == g) = false := by simpa using c
      simp only [List.lookup, c'] at e ⊢
      exact RepF.none_of h3 e
theorem RepF.length : ∀ {ps : List (Str × PV)} {vs : List (Str × V)}, RepF G H ps vs → ps.length = vs.length
  | [], _, h => by simp only [RepF] at h; subst h; rfl
  | (_, p) :: ps, vs, h => by
    simp only [RepF] at h
    obtain ⟨x, ys, h1, _, h3⟩ := h
    subst h1
    simp only [List.length_cons, RepF.length h3]
end
/-! ### owned values: lists and instances that the def alone holds, and may change -/
inductive OV where
  | sh (p : PV) | own (l : List OV) | obj (c : Nat) (fs : List (Str × OV))
  deriving Inhabited
mutual
def OV.pv : OV → PV
  | .sh p => p
  | .own l => .lst (OV.pvs l)
  | .obj c fs => .ins c (OV.pvf fs)
def OV.pvs : List OV → List PV
  | [] => []
  | o :: l => o.pv :: OV.pvs l
def OV.pvf : List (Str × OV) → List (Str × PV)
  | [] => []
  | (f, o) :: l => (f, o.pv) :: OV.pvf l
end
mutual
/-- v stands for o; F: the places of what is owned -/
def OwnR (G : Gc) (H₀ H : Hp) : OV → V → List Addr → Prop
  | .sh p, v, F => Rep G H₀ p v ∧ F = []
  | .own l, v, F => ∃ a xs F', v = .ref a ∧ F = a :: F' ∧ H a = some (.lst xs) ∧ OwnRs G H₀ H l xs F'
  | .obj c fs, v, F => ∃ a dx vs F', v = .ref a ∧ F = a :: F' ∧ H a = some (.ins (G.CA c) dx vs) ∧ OwnRf G H₀ H fs vs F'
def OwnRs (G : Gc) (H₀ H : Hp) : List OV → List V → List Addr → Prop
  | [], xs, F => xs = [] ∧ F = []
  | o :: l, xs, F => ∃ x ys F1 F2, xs = x :: ys ∧ F = F1 ++ F2 ∧ OwnR G H₀ H o x F1 ∧ OwnRs G H₀ H l ys F2
def OwnRf (G : Gc) (H₀ H : Hp) : List (Str × OV) → List (Str × V) → List Addr → Prop
  | [], xs, F => xs = [] ∧ F = []
  | (f, o) :: l, xs, F => ∃ x ys F1 F2, xs = (f, x) :: ys ∧ F = F1 ++ F2 ∧ OwnR G H₀ H o x F1 ∧ OwnRf G H₀ H l ys F2
end
/-- the heap of what a def may read: what is frozen, and what it owns -/
def vw (H₀ H : Hp) (F : List Addr) : Hp := fun a => if a ∈ F then H a else H₀ a
section
variable {G : Gc} {H₀ H H₀' H' : Hp} {F : List Addr}
theorem same_vw (h : ∀ a ∈ F, H₀ a = none) : Same H₀ (vw H₀ H F) := fun a o e => by
  unfold vw
  rw [if_neg fun z => by rw [h a z] at e; cases e]
  exact e
theorem vw_same (z : Same H₀ H) : Same (vw H₀ H F) H := fun a o e => by
  unfold vw at e
  split at e
  · exact e
  · exact z a o e
mutual
/-- what is owned stands where it stood, if its places do -/
theorem OwnR.mono (e0 : Same H₀ H₀') : ∀ {o : OV} {v : V} {F : List Addr}, (∀ a ∈ F, H' a = H a) → OwnR G H₀ H o v F → OwnR G H₀' H' o v F
  | .sh p, v, F, _, h => by
    simp only [OwnR] at h ⊢
    exact ⟨Rep.mono e0 h.1, h.2⟩
  | .own l, v, F, k, h => by
    simp only [OwnR] at h ⊢
    obtain ⟨a, xs, F', h1, h2, h3, h4⟩ := h
    subst h2
    exact ⟨a, xs, F', h1, rfl, by rw [k a List.mem_cons_self]; exact h3, OwnRs.mono e0 (fun b hb => k b (List.mem_cons_of_mem _ hb)) h4⟩
  | .obj c fs, v, F, k, h => by
    simp only [OwnR] at h ⊢
    obtain ⟨a, dx, vs, F', h1, h2, h3, h4⟩ := h
    subst h2
    exact ⟨a, dx, vs, F', h1, rfl, by rw [k a List.mem_cons_self]; exact h3, OwnRf.mono e0 (fun b hb => k b (List.mem_cons_of_mem _ hb)) h4⟩
theorem OwnRs.mono (e0 : Same H₀ H₀') : ∀ {l : List OV} {xs : List V} {F : List Addr}, (∀ a ∈ F, H' a = H a) → OwnRs G H₀ H l xs F → OwnRs G H₀' H' l xs F
  | [], xs, F, _, h => by simpa only [OwnRs] using h
  | o :: l, xs, F, k, h => by
    simp only [OwnRs] at h ⊢
    obtain ⟨x, ys, F1, F2, h1, h2, h3, h4⟩ := h
    subst h2
    exact ⟨x, ys, F1, F2, h1, rfl, OwnR.mono e0 (fun b hb => k b (List.mem_append_left _ hb)) h3, OwnRs.mono e0 (fun b hb => k b (List.mem_append_right _ hb)) h4⟩
theorem OwnRf.mono (e0 : Same H₀ H₀') : ∀ {l : List (Str × OV)} {xs : List (Str × V)} {F : List Addr}, (∀ a ∈ F, H' a = H a) → OwnRf G H₀ H l xs F → OwnRf G H₀' H' l xs F
  | [], xs, F, _, h => by simpa only [OwnRf] using h
  | (f, o) :: l, xs, F, k, h => by
    simp only [OwnRf] at h ⊢
    obtain ⟨x, ys, F1, F2, h1, h2, h3, h4⟩ := h
    subst h2
    exact ⟨x, ys, F1, F2, h1, rfl, OwnR.mono e0 (fun b hb => k b (List.mem_append_left _ hb)) h3, OwnRf.mono e0 (fun b hb => k b (List.mem_append_right _ hb)) h4⟩
end
mutual
/-- an owned value's objects, read -/
theorem OwnR.rep {Hv : Hp} (e0 : Same H₀ Hv) : ∀ {o : OV} {v : V} {F : List Addr}, (∀ a ∈ F, Hv a = H a) → OwnR G H₀ H o v F → Rep G Hv o.pv v
  | .sh p, v, F, _, h => by
    simp only [OwnR] at h
    simp only [OV.pv]
    exact Rep.mono e0 h.1
  | .own l, v, F, k, h => by
    simp only [OwnR] at h
    simp only [OV.pv, Rep]
    obtain ⟨a, xs, F', h1, h2, h3, h4⟩ := h
    subst h2
    exact ⟨a, xs, h1, by rw [k a List.mem_cons_self]; exact h3, OwnRs.rep e0 (fun b hb => k b (List.mem_cons_of_mem _ hb)) h4⟩
  | .obj c fs, v, F, k, h => by
    simp only [OwnR] at h
    simp only [OV.pv, Rep]
    obtain ⟨a, dx, vs, F', h1, h2, h3, h4⟩ := h
    subst h2
    exact ⟨a, dx, vs, h1, by rw [k a List.mem_cons_self]; exact h3, OwnRf.rep e0 (fun b hb => k b (List.mem_cons_of_mem _ hb)) h4⟩
theorem OwnRs.rep {Hv : Hp} (e0 : Same H₀ Hv) : ∀ {l : List OV} {xs : List V} {F : List Addr}, (∀ a ∈ F, Hv a = H a) → OwnRs G H₀ H l xs F → Reps G Hv (OV.pvs l) xs
  | [], xs, F, _, h => by
    simp only [OwnRs] at h
    simp only [OV.pvs, Reps]
    exact h.1
  | o :: l, xs, F, k, h => by
    simp only [OwnRs] at h
    simp only [OV.pvs, Reps]
    obtain ⟨x, ys, F1, F2, h1, h2, h3, h4⟩ := h
    subst h2
    exact ⟨x, ys, h1, OwnR.rep e0 (fun b hb => k b (List.mem_append_left _ hb)) h3, OwnRs.rep e0 (fun b hb => k b (List.mem_append_right _ hb)) h4⟩
theorem OwnRf.rep {Hv : Hp} (e0 : Same H₀ Hv) : ∀ {l : List (Str × OV)} {xs : List (Str × V)} {F : List Addr}, (∀ a ∈ F, Hv a = H a) → OwnRf G H₀ H l xs F → RepF G Hv (OV.pvf l) xs
  | [], xs, F, _, h => by
    simp only [OwnRf] at h
    simp only [OV.pvf, RepF]
    exact h.1
  | (f, o) :: l, xs, F, k, h => by
    simp only [OwnRf] at h
    simp only [OV.pvf, RepF]
    obtain ⟨x, ys, F1, F2, h1, h2, h3, h4⟩ := h
    subst h2
    exact ⟨x, ys, h1, OwnR.rep e0 (fun b hb => k b (List.mem_append_left _ hb)) h3, OwnRf.rep e0 (fun b hb => k b (List.mem_append_right _ hb)) h4⟩
end
mutual
/-- the places stand in the heap -/
theorem OwnR.there : ∀ {o : OV} {v : V} {F : List Addr}, OwnR G H₀ H o v F → ∀ a ∈ F, ∃ u, H a = some u
  | .sh p, v, F, h, a, ha => by
    simp only [OwnR] at h
    rw [h.2] at ha
    cases ha
  | .own l, v, F, h, a, ha => by
    simp only [OwnR] at h
    obtain ⟨b, xs, F', h1, h2, h3, h4⟩ := h
    subst h2
    rcases List.mem_cons.mp ha with e | ha
    · rw [e]
      exact ⟨_, h3⟩
    · exact OwnRs.there h4 a ha
  | .obj c fs, v, F, h, a, ha => by
    simp only [OwnR] at h
    obtain ⟨b, dx, vs, F', h1, h2, h3, h4⟩ := h
    subst h2
    rcases List.mem_cons.mp ha with e | ha
    · rw [e]
      exact ⟨_, h3⟩
    · exact OwnRf.there h4 a ha
theorem OwnRs.there : ∀ {l : List OV} {xs : List V} {F : List Addr}, OwnRs G H₀ H l xs F → ∀ a ∈ F, ∃ u, H a = some u
  | [], xs, F, h, a, ha => by
    simp only [OwnRs] at h
    rw [h.2] at ha
    cases ha
  | o :: l, xs, F, h, a, ha => by
    simp only [OwnRs] at h
    obtain ⟨x, ys, F1, F2, h1, h2, h3, h4⟩ := h
    subst h2
    rcases List.mem_append.mp ha with ha | ha
    · exact OwnR.there h3 a ha
    · exact OwnRs.there h4 a ha
theorem OwnRf.there : ∀ {l : List (Str × OV)} {xs : List (Str × V)} {F : List Addr}, OwnRf G H₀ H l xs F → ∀ a ∈ F, ∃ u, H a = some u
  | [], xs, F, h, a, ha => by
    simp only [OwnRf] at h
    rw [h.2] at ha
    cases ha
  | (f, o) :: l, xs, F, h, a, ha => by
    simp only [OwnRf] at h
    obtain ⟨x, ys, F1, F2, h1, h2, h3, h4⟩ := h
    subst h2
    rcases List.mem_append.mp ha with ha | ha
    · exact OwnR.there h3 a ha
    · exact OwnRf.there h4 a ha
end
end
/-! ### environments -/
abbrev Env := List (Option OV)
def EnvR (G : Gc) (H₀ H : Hp) : Env → L2.St → List Addr → Prop
  | [], σ, F => σ = [] ∧ F = []
  | none :: ρ, σ, F => ∃ x τ, σ = x :: τ ∧ EnvR G H₀ H ρ τ F
  | some o :: ρ, σ, F => ∃ v τ F1 F2, σ = some v :: τ ∧ F = F1 ++ F2 ∧ OwnR G H₀ H o v F1 ∧ EnvR G H₀ H ρ τ F2
/-- a def's run: He what of the heap at its entry is to stay, Hz what was frozen there; fx: a slot that is to hold its value all along (self of an __init__, the exception of a suite); Hx: where that exception is seen -/
structure Fc where
  G : Gc
  He : Hp
  Hz : Hp
  fx : Option (Nat × V)
  Hx : Hp
/-- the state of a def's run: H₀ what is frozen now, F what it owns -/
structure SR (C : Fc) (H₀ : Hp) (F : List Addr) (ρ : Env) (σ : L2.St) (H : Hp) : Prop where
  e : Same C.He H
  z : Same H₀ H
  n : ∀ a, C.He a ≠ none → H₀ a = C.Hz a
  hz : Same C.Hz H₀
  env : EnvR C.G H₀ H ρ σ F
  nd : F.Nodup
  fr : ∀ a ∈ F, C.He a = none ∧ H₀ a = none
  fx : ∀ i v, C.fx = some (i, v) → σ[i]? = some (some v)
  hx : Same C.Hx H₀
/-- from one heap to a later one: nothing that stood is changed, what is frozen besides is new -/
structure Ext (H₀ H H₀' H' : Hp) : Prop where
  s : Same H H'
  s0 : Same H₀ H₀'
  z : Same H₀' H'
  n : ∀ a, H a ≠ none → H₀' a = H₀ a
theorem Ext.refl {H₀ H : Hp} (z : Same H₀ H) : Ext H₀ H H₀ H := ⟨Same.refl _, Same.refl _, z, fun _ _ => rfl⟩
theorem ne_none_of {H : Hp} {a : Addr} {o : HO} (h : H a = some o) : H a ≠ none := by rw [h]; exact fun z => nomatch z
theorem same_nn {H H' : Hp} (s : Same H H') {a : Addr} (h : H a ≠ none) : H' a ≠ none := by
  cases e : H a with
  | none => exact absurd e h
  | some o => rw [s a o e]; exact fun z => nomatch z
theorem Ext.trans {H₀ H H₁ H' H₂ H'' : Hp} (a : Ext H₀ H H₁ H') (b : Ext H₁ H' H₂ H'') : Ext H₀ H H₂ H'' :=
  ⟨a.s.trans b.s, a.s0.trans b.s0, b.z, fun c h => (b.n c (same_nn a.s h)).trans (a.n c h)⟩
section
variable {C : Fc} {G : Gc} {H₀ H₀' H H' : Hp} {F : List Addr} {ρ : Env} {σ : L2.St}
theorem EnvR.mono (e0 : Same H₀ H₀') : ∀ {ρ : Env} {σ : L2.St} {F : List Addr}, (∀ a ∈ F, H' a = H a) → EnvR G H₀ H ρ σ F → EnvR G H₀' H' ρ σ F
  | [], σ, F, _, h => h
  | none :: ρ, σ, F, k, h => by
    obtain ⟨x, τ, h1, h2⟩ := h
    exact ⟨x, τ, h1, EnvR.mono e0 k h2⟩
  | some o :: ρ, σ, F, k, h => by
    obtain ⟨v, τ, F1, F2, h1, h2, h3, h4⟩ := h
    subst h2
    exact ⟨v, τ, F1, F2, h1, rfl, OwnR.mono e0 (fun b hb => k b (List.mem_append_left _ hb)) h3, EnvR.mono e0 (fun b hb => k b (List.mem_append_right _ hb)) h4⟩
theorem EnvR.there : ∀ {ρ : Env} {σ : L2.St} {F : List Addr}, EnvR G H₀ H ρ σ F → ∀ a ∈ F, ∃ u, H a = some u
  | [], σ, F, h, a, ha => by rw [h.2] at ha; cases ha
  | none :: ρ, σ, F, h, a, ha => by
    obtain ⟨x, τ, h1, h2⟩ := h
    exact EnvR.there h2 a ha
  | some o :: ρ, σ, F, h, a, ha => by
    obtain ⟨v, τ, F1, F2, h1, h2, h3, h4⟩ := h
    subst h2
    rcases List.mem_append.mp ha with ha | ha
    · exact OwnR.there h3 a ha
    · exact EnvR.there h4 a ha
theorem SR.ext (S : SR C H₀ F ρ σ H) (E : Ext H₀ H H₀' H') : SR C H₀' F ρ σ H' := by
  have th := S.env.there
  refine ⟨S.e.trans E.s, E.z, fun a h => (E.n a (same_nn S.e h)).trans (S.n a h), S.hz.trans E.s0, EnvR.mono E.s0 (fun a ha => ?_) S.env, S.nd, fun a ha => ⟨(S.fr a ha).1, ?_⟩, S.fx, S.hx.trans E.s0⟩
  · obtain ⟨u, e⟩ := th a ha
    rw [e, E.s a u e]
  · obtain ⟨u, e⟩ := th a ha
    rw [E.n a (ne_none_of e)]
    exact (S.fr a ha).2
theorem SR.vz (S : SR C H₀ F ρ σ H) : Same H₀ (vw H₀ H F) := same_vw fun a ha => (S.fr a ha).2
theorem SR.vext (S : SR C H₀ F ρ σ H) (E : Ext H₀ H H₀' H') : Same (vw H₀ H F) (vw H₀' H' F) := fun a o e => by
  unfold vw at e ⊢
  by_cases ha : a ∈ F
  · rw [if_pos ha] at e ⊢
    exact E.s a o e
  · rw [if_neg ha] at e ⊢
    exact E.s0 a o e
/-- a slot's value -/
theorem EnvR.get : ∀ {ρ : Env} {σ : L2.St} {F : List Addr} {i : Nat} {o : OV}, EnvR G H₀ H ρ σ F → ρ[i]? = some (some o) → ∃ v F1, σ[i]? = some (some v) ∧ OwnR G H₀ H o v F1 ∧ ∀ a ∈ F1, a ∈ F
  | [], σ, F, i, o, h, e => by simp at e
  | none :: ρ, σ, F, 0, o, h, e => by simp at e
  | none :: ρ, σ, F, i + 1, o, h, e => by
    obtain ⟨x, τ, h1, h2⟩ := h
    obtain ⟨v, F1, e1, e2, e3⟩ := EnvR.get (i := i) h2 (by simpa using e)
    subst h1
    exact ⟨v, F1, by simpa using e1, e2, e3⟩
  | some o' :: ρ, σ, F, 0, o, h, e => by
    obtain ⟨v, τ, F1, F2, h1, h2, h3, h4⟩ := h
    subst h1 h2
    simp at e
    subst e
    exact ⟨v, F1, rfl, h3, fun a ha => List.mem_append_left _ ha⟩
  | some o' :: ρ, σ, F, i + 1, o, h, e => by
    obtain ⟨v, τ, F1, F2, h1, h2, h3, h4⟩ := h
    subst h1 h2
    obtain ⟨w, F3, e1, e2, e3⟩ := EnvR.get (i := i) h4 (by simpa using e)
    exact ⟨w, F3, by simpa using e1, e2, fun a ha => List.mem_append_right _ (e3 a ha)⟩
theorem EnvR.length : ∀ {ρ : Env} {σ : L2.St} {F : List Addr}, EnvR G H₀ H ρ σ F → ρ.length = σ.length
  | [], σ, F, h => by rw [h.1]; rfl
  | none :: ρ, σ, F, h => by
    obtain ⟨x, τ, h1, h2⟩ := h
    subst h1
    simp only [List.length_cons, EnvR.length h2]
  | some o :: ρ, σ, F, h => by
    obtain ⟨v, τ, F1, F2, h1, h2, h3, h4⟩ := h
    subst h1
    simp only [List.length_cons, EnvR.length h4]
/-- a slot gets a new value: its old places are given up -/
theorem EnvR.put : ∀ {ρ : Env} {σ : L2.St} {F : List Addr} (i : Nat) {o : OV} {v : V} {Fv : List Addr}, EnvR G H₀ H ρ σ F → OwnR G H₀ H o v Fv → F.Nodup → Fv.Nodup → (∀ a ∈ Fv, a ∉ F) →
    ∃ F', EnvR G H₀ H (ρ.set i (some o)) (σ.set i (some v)) F' ∧ F'.Nodup ∧ ∀ a ∈ F', a ∈ F ∨ a ∈ Fv
  | [], σ, F, i, o, v, Fv, h, r, nd, ndv, ap => by
    obtain ⟨h1, h2⟩ := h
    subst h1 h2
    exact ⟨[], ⟨by simp, rfl⟩, List.nodup_nil, fun a ha => by cases ha⟩
  | none :: ρ, σ, F, 0, o, v, Fv, h, r, nd, ndv, ap => by
    obtain ⟨x, τ, h1, h2⟩ := h
    subst h1
    exact ⟨Fv ++ F, ⟨v, τ, Fv, F, rfl, rfl, r, h2⟩, List.nodup_append.mpr ⟨ndv, nd, fun a ha b hb e => ap a ha (e ▸ hb)⟩, fun a ha => (List.mem_append.mp ha).symm⟩
  | some o' :: ρ, σ, F, 0, o, v, Fv, h, r, nd, ndv, ap => by
    obtain ⟨w, τ, F1, F2, h1, h2, h3, h4⟩ := h
    subst h1 h2
    have n2 := (List.nodup_append.mp nd).2.1
    exact ⟨Fv ++ F2, ⟨v, τ, Fv, F2, rfl, rfl, r, h4⟩, List.nodup_append.mpr ⟨ndv, n2, fun a ha b hb e => ap a ha (List.mem_append_right _ (e ▸ hb))⟩,
      fun a ha => (List.mem_append.mp ha).elim .inr fun z => .inl (List.mem_append_right _ z)⟩
  | none :: ρ, σ, F, i + 1, o, v, Fv, h, r, nd, ndv, ap => by
    obtain ⟨x, τ, h1, h2⟩ := h
    subst h1
    obtain ⟨F', e1, e2, e3⟩ := EnvR.put i h2 r nd ndv ap
    exact ⟨F', ⟨x, _, rfl, e1⟩, e2, e3⟩
  | some o' :: ρ, σ, F, i + 1, o, v, Fv, h, r, nd, ndv, ap => by
    obtain ⟨w, τ, F1, F2, h1, h2, h3, h4⟩ := h
    subst h1 h2
    obtain ⟨m1, m2, m3⟩ := List.nodup_append.mp nd
    obtain ⟨F', e1, e2, e3⟩ := EnvR.put i h4 r m2 ndv fun a ha z => ap a ha (List.mem_append_right _ z)
    refine ⟨F1 ++ F', ⟨w, _, F1, F', rfl, rfl, h3, e1⟩, List.nodup_append.mpr ⟨m1, e2, fun a ha b hb e => ?_⟩, fun a ha => ?_⟩
    · subst e
      rcases e3 a hb with z | z
      · exact m3 a ha a z rfl
      · exact ap a z (List.mem_append_left _ ha)
    · rcases List.mem_append.mp ha with z | z
      · exact .inl (List.mem_append_left _ z)
      · exact (e3 a z).imp (List.mem_append_right _) id
/-- a slot is forgotten -/
theorem EnvR.drop : ∀ {ρ : Env} {σ : L2.St} {F : List Addr} (i : Nat), EnvR G H₀ H ρ σ F → F.Nodup → ∃ F', EnvR G H₀ H (ρ.set i none) σ F' ∧ F'.Nodup ∧ ∀ a ∈ F', a ∈ F
  | [], σ, F, i, h, nd => ⟨F, by simpa using h, nd, fun _ ha => ha⟩
  | none :: ρ, σ, F, 0, h, nd => ⟨F, h, nd, fun _ ha => ha⟩
  | some o' :: ρ, σ, F, 0, h, nd => by
    obtain ⟨w, τ, F1, F2, h1, h2, h3, h4⟩ := h
    subst h2
    exact ⟨F2, ⟨_, τ, h1, h4⟩, (List.nodup_append.mp nd).2.1, fun a ha => List.mem_append_right _ ha⟩
  | none :: ρ, σ, F, i + 1, h, nd => by
    obtain ⟨x, τ, h1, h2⟩ := h
    obtain ⟨F', e1, e2, e3⟩ := EnvR.drop i h2 nd
    exact ⟨F', ⟨x, τ, h1, e1⟩, e2, e3⟩
  | some o' :: ρ, σ, F, i + 1, h, nd => by
    obtain ⟨w, τ, F1, F2, h1, h2, h3, h4⟩ := h
    subst h2
    obtain ⟨m1, m2, m3⟩ := List.nodup_append.mp nd
    obtain ⟨F', e1, e2, e3⟩ := EnvR.drop i h4 m2
    refine ⟨F1 ++ F', ⟨w, τ, F1, F', h1, rfl, h3, e1⟩, List.nodup_append.mpr ⟨m1, e2, fun a ha b hb e => m3 a ha b (e3 b hb) e⟩, fun a ha => ?_⟩
    rcases List.mem_append.mp ha with z | z
    · exact List.mem_append_left _ z
    · exact List.mem_append_right _ (e3 a z)
/-- a slot that is not known may hold anything -/
theorem EnvR.any : ∀ {ρ : Env} {σ : L2.St} {F : List Addr} (i : Nat) (x : Option V), EnvR G H₀ H ρ σ F → ρ[i]? = some none → EnvR G H₀ H ρ (σ.set i x) F
  | [], σ, F, i, x, h, e => by simp at e
  | none :: ρ, σ, F, 0, x, h, e => by
    obtain ⟨y, τ, h1, h2⟩ := h
    subst h1
    exact ⟨x, τ, rfl, h2⟩
  | some o' :: ρ, σ, F, 0, x, h, e => by simp at e
  | none :: ρ, σ, F, i + 1, x, h, e => by
    obtain ⟨y, τ, h1, h2⟩ := h
    subst h1
    exact ⟨y, _, rfl, EnvR.any i x h2 (by simpa using e)⟩
  | some o' :: ρ, σ, F, i + 1, x, h, e => by
    obtain ⟨w, τ, F1, F2, h1, h2, h3, h4⟩ := h
    subst h1 h2
    exact ⟨w, _, F1, F2, rfl, rfl, h3, EnvR.any i x h4 (by simpa using e)⟩
end
end L3

end
section
/-! L3. 2: outcomes, judgements, expressions -/
namespace L3
open PySem PySem.Spec PyProof.Rows L2
/-- an exception: its class's number, its fields -/
structure PX where
  c : Nat
  fs : List (Str × PV)
  deriving Inhabited
/-- a value, an exception, or: nothing is said -/
inductive R (α : Type) where
  | ok (a : α) | er (x : PX) | no
  deriving Inhabited
def R.bind {α β : Type} : R α → (α → R β) → R β
  | .ok a, f => f a
  | .er x, _ => .er x
  | .no, _ => .no
@[simp] theorem R.bind_ok {α β : Type} (a : α) (f : α → R β) : (R.ok a).bind f = f a := rfl
@[simp] theorem R.bind_er {α β : Type} (x : PX) (f : α → R β) : (R.er x).bind f = .er x := rfl
@[simp] theorem R.bind_no {α β : Type} (f : α → R β) : (R.no).bind f = .no := rfl
/-- of an option: nothing is said where there is none -/
def R.of {α : Type} : Option α → R α
  | some a => .ok a
  | none => .no
@[simp] theorem R.of_some {α : Type} (a : α) : R.of (some a) = .ok a := rfl
@[simp] theorem R.of_none {α : Type} : R.of (none : Option α) = .no := rfl
def RepX (G : Gc) (H : Hp) (x : PX) (cls : Value) (d : Option Addr) : Prop :=
  cls = .ref (G.CA x.c) ∧ ((x.fs = [] ∧ d = none) ∨ ∃ dd vs, d = some dd ∧ H dd = some (.xd vs) ∧ RepF G H x.fs vs)
/-- what an expression's value is seen in: what is frozen, or all that the def may read -/
def md (m : Bool) (H₀ H : Hp) (F : List Addr) : Hp := if m then H₀ else vw H₀ H F
section
variable {G : Gc} {m : Bool} {H₀ H H₀' H' : Hp} {F : List Addr} {p : Addr} {o : HO}
theorem md_H (z : Same H₀ H) : Same (md m H₀ H F) H := by
  unfold md
  cases m with
  | true => exact z
  | false => exact vw_same z
theorem z_md (fr : ∀ a ∈ F, H₀ a = none) : Same H₀ (md m H₀ H F) := by
  unfold md
  cases m with
  | true => exact Same.refl _
  | false => exact same_vw fr
theorem md_ext (E : Ext H₀ H H₀' H') : Same (md m H₀ H F) (md m H₀' H' F) := by
  unfold md
  cases m with
  | true => exact E.s0
  | false =>
    intro a o e
    change vw H₀ H F a = some o at e
    change vw H₀' H' F a = some o
    unfold vw at e ⊢
    by_cases ha : a ∈ F
    · rw [if_pos ha] at e ⊢
      exact E.s a o e
    · rw [if_neg ha] at e ⊢
      exact E.s0 a o e
theorem ext_new (z : Same H₀ H) (h : H p = none) : Ext H₀ H (upd H₀ p o) (upd H p o) := by
  have ne : ∀ b u, H b = some u → b ≠ p := fun b u e q => by rw [q, h] at e; cases e
  have ne0 : ∀ b u, H₀ b = some u → b ≠ p := fun b u e => ne b u (z b u e)
  refine ⟨fun b u e => by rw [upd_ne (ne b u e)]; exact e, fun b u e => by rw [upd_ne (ne0 b u e)]; exact e, fun b u e => ?_, fun b hb => ?_⟩
  · by_cases q : b = p
    · subst q
      rw [upd_same] at e ⊢
      exact e
    · rw [upd_ne q] at e ⊢
      exact z b u e
  · rw [upd_ne fun q => hb (by rw [q]; exact h)]
theorem md_new : md m (upd H₀ p o) (upd H p o) F p = some o := by
  unfold md
  cases m with
  | true => exact upd_same
  | false =>
    change vw _ _ F p = some o
    unfold vw
    by_cases hp : p ∈ F
    · rw [if_pos hp]; exact upd_same
    · rw [if_neg hp]; exact upd_same
end
/-! ### judgements -/
section
variable (C : Fc) (W : WX) (m : Bool)
/-- the transformer of an expression by its plain function -/
def tE (f : Env → R PV) : TE := fun σ H Q => ∃ H₀ F ρ, SR C H₀ F ρ σ H ∧ (match f ρ with
  | .ok p => ∀ v H' H₀', Ext H₀ H H₀' H' → Rep C.G (md m H₀' H' F) p v → Q v H'
  | .er x => ∀ cls d H' H₀', Ext H₀ H H₀' H' → RepX C.G H₀' x cls d → W cls d σ H'
  | .no => False)
def tTt (f : Env → R Bool) : TT := fun σ H Q => ∃ H₀ F ρ, SR C H₀ F ρ σ H ∧ (match f ρ with
  | .ok b => ∀ H' H₀', Ext H₀ H H₀' H' → Q b H'
  | .er x => ∀ cls d H' H₀', Ext H₀ H H₀' H' → RepX C.G H₀' x cls d → W cls d σ H'
  | .no => False)
def tAs (f : Env → R (List PV)) : TA := fun σ H Q => ∃ H₀ F ρ, SR C H₀ F ρ σ H ∧ (match f ρ with
  | .ok ps => ∀ vs H' H₀', Ext H₀ H H₀' H' → Reps C.G (md m H₀' H' F) ps vs → Q vs H'
  | .er x => ∀ cls d H' H₀', Ext H₀ H H₀' H' → RepX C.G H₀' x cls d → W cls d σ H'
  | .no => False)
/-- a new value that nothing else holds -/
def tF (f : Env → R OV) : TE := fun σ H Q => ∃ H₀ F ρ, SR C H₀ F ρ σ H ∧ (match f ρ with
  | .ok o => ∀ v H' H₀' Fv, Ext H₀ H H₀' H' → OwnR C.G H₀' H' o v Fv → Fv.Nodup → (∀ a ∈ Fv, H a = none ∧ H₀' a = none) → Q v H'
  | .er x => ∀ cls d H' H₀', Ext H₀ H H₀' H' → RepX C.G H₀' x cls d → W cls d σ H'
  | .no => False)
abbrev QE (X : Cx) (e : Expr) (f : Env → R PV) : Prop := PE X e (tE C W m f)
abbrev QT (X : Cx) (e : Expr) (f : Env → R Bool) : Prop := PT X e (tTt C W f)
abbrev QA (X : Cx) (es : List Expr) (f : Env → R (List PV)) : Prop := PA X es (tAs C W m f)
abbrev QF (X : Cx) (e : Expr) (f : Env → R OV) : Prop := PE X e (tF C W f)
end
theorem PE.imp {X : Cx} {e : Expr} {t t' : TE} (h : PE X e t) (k : ∀ σ H Q, t' σ H Q → t σ H Q) : PE X e t' := ⟨fun pins s σ H Q I q => h.run pins s σ H Q I (k _ _ _ q)⟩
theorem PT.imp {X : Cx} {e : Expr} {t t' : TT} (h : PT X e t) (k : ∀ σ H Q, t' σ H Q → t σ H Q) : PT X e t' := ⟨fun pins s σ H Q I q => h.run pins s σ H Q I (k _ _ _ q)⟩
theorem PW.imp {X : Cx} {e : Expr} {t t' : TT} (h : PW X e t) (k : ∀ σ H Q, t' σ H Q → t σ H Q) : PW X e t' := ⟨fun w pins s σ H Q I q => h.run w pins s σ H Q I (k _ _ _ q)⟩
theorem PA.imp {X : Cx} {es : List Expr} {t t' : TA} (h : PA X es t) (k : ∀ σ H Q, t' σ H Q → t σ H Q) : PA X es t' := ⟨fun pos pins s σ H Q I q => h.run pos pins s σ H Q I (k _ _ _ q)⟩
theorem PS.imp {X : Cx} {st : Stmt} {t t' : TS} (h : PS X st t) (k : ∀ D σ H, t' D σ H → t D σ H) : PS X st t' := ⟨fun pins s σ H D I q => h.run pins s σ H D I (k _ _ _ q)⟩
theorem PSs.imp {X : Cx} {st : List Stmt} {t t' : TS} (h : PSs X st t) (k : ∀ D σ H, t' D σ H → t D σ H) : PSs X st t' := ⟨fun pins s σ H D I q => h.run pins s σ H D I (k _ _ _ q)⟩
section
variable {C : Fc} {W : WX} {m : Bool} {X : Cx} {a b c : Expr} {pos : Pos} {σ : L2.St} {H : Hp}
/-! binding: one expression after another -/
theorem tE_bind {f : Env → R PV} {Q : VK} {g : Env → PV → R PV} {β : Prop} (h : ∃ H₀ F ρ, SR C H₀ F ρ σ H ∧
    (match f ρ with
    | .ok p => ∀ v H' H₀', Ext H₀ H H₀' H' → SR C H₀' F ρ σ H' → Rep C.G (md m H₀' H' F) p v → Q v H'
    | .er x => ∀ cls d H' H₀', Ext H₀ H H₀' H' → RepX C.G H₀' x cls d → W cls d σ H'
    | .no => False)) : tE C W m f σ H Q := by
  obtain ⟨H₀, F, ρ, S, h⟩ := h
  refine ⟨H₀, F, ρ, S, ?_⟩
  cases e : f ρ with
  | ok p =>
    rw [e] at h
    exact fun v H' H₀' E r => h v H' H₀' E (S.ext E) r
  | er x =>
    rw [e] at h
    exact h
  | no =>
    rw [e] at h
    exact h
/-- the outcome of f, gone on with by k -/
def Goes (Γ : Gc) (W : WX) {α : Type} (r : R α) (σ : L2.St) (H H₀ : Hp) (k : α → Prop) : Prop := match r with
  | .ok p => k p
  | .er x => ∀ cls d H' H₀', Ext H₀ H H₀' H' → RepX Γ H₀' x cls d → W cls d σ H'
  | .no => False
theorem Goes.bind {α β : Type} {r : R α} {g : α → R β} {H₀ : Hp} {k : β → Prop} : Goes C.G W (r.bind g) σ H H₀ k = Goes C.G W r σ H H₀ fun p => Goes C.G W (g p) σ H H₀ k := by
  cases r <;> rfl
theorem Goes.imp {α : Type} {r : R α} {H₀ : Hp} {k k' : α → Prop} (h : Goes C.G W r σ H H₀ k) (i : ∀ p, r = .ok p → k p → k' p) : Goes C.G W r σ H H₀ k' := by
  cases r with
  | ok p => exact i p rfl h
  | er x => exact h
  | no => exact h
theorem Goes.later {α : Type} {r : R α} {H₀ H' H₀' : Hp} {k : α → Prop} (E : Ext H₀ H H₀' H') (h : Goes C.G W r σ H H₀ k) : Goes C.G W r σ H' H₀' k := by
  cases r with
  | ok p => exact h
  | er x => exact fun cls d H2 H3 E2 => h cls d H2 H3 (E.trans E2)
  | no => exact h
theorem tE_iff {f : Env → R PV} {Q : VK} : tE C W m f σ H Q ↔ ∃ H₀ F ρ, SR C H₀ F ρ σ H ∧ Goes C.G W (f ρ) σ H H₀ fun p => ∀ v H' H₀', Ext H₀ H H₀' H' → Rep C.G (md m H₀' H' F) p v → Q v H' := by
  constructor <;>
  · rintro ⟨H₀, F, ρ, S, h⟩
    refine ⟨H₀, F, ρ, S, ?_⟩
    cases e : f ρ <;> (rw [e] at h; exact h)
theorem tT_iff {f : Env → R Bool} {Q : Bool → Hp → Prop} : tTt C W f σ H Q ↔ ∃ H₀ F ρ, SR C H₀ F ρ σ H ∧ Goes C.G W (f ρ) σ H H₀ fun b => ∀ H' H₀', Ext H₀ H H₀' H' → Q b H' := by
  constructor <;>
  · rintro ⟨H₀, F, ρ, S, h⟩
    refine ⟨H₀, F, ρ, S, ?_⟩
    cases e : f ρ <;> (rw [e] at h; exact h)
theorem tA_iff {f : Env → R (List PV)} {Q : List V → Hp → Prop} : tAs C W m f σ H Q ↔ ∃ H₀ F ρ, SR C H₀ F ρ σ H ∧ Goes C.G W (f ρ) σ H H₀ fun ps => ∀ vs H' H₀', Ext H₀ H H₀' H' → Reps C.G (md m H₀' H' F) ps vs → Q vs H' := by
  constructor <;>
  · rintro ⟨H₀, F, ρ, S, h⟩
    refine ⟨H₀, F, ρ, S, ?_⟩
    cases e : f ρ <;> (rw [e] at h; exact h)
theorem tF_iff {f : Env → R OV} {Q : VK} : tF C W f σ H Q ↔ ∃ H₀ F ρ, SR C H₀ F ρ σ H ∧ Goes C.G W (f ρ) σ H H₀ fun o => ∀ v H' H₀' Fv, Ext H₀ H H₀' H' → OwnR C.G H₀' H' o v Fv → Fv.Nodup → (∀ a ∈ Fv, H a = none ∧ H₀' a = none) → Q v H' := by
  constructor <;>
  · rintro ⟨H₀, F, ρ, S, h⟩
    refine ⟨H₀, F, ρ, S, ?_⟩
    cases e : f ρ <;> (rw [e] at h; exact h)
/-! ### leaves -/
/-- a name: what is frozen -/
def eVar (i : Nat) : Env → R PV := fun ρ => match ρ[i]? with
  | some (some (.sh p)) => .ok p
  | _ => .no
/-- a name: what is owned, looked at -/
def eOwn (i : Nat) : Env → R PV := fun ρ => match ρ[i]? with
  | some (some o) => .ok o.pv
  | _ => .no
def eCst (p : PV) : Env → R PV := fun _ => .ok p
theorem qVar (i : Nat) {x : Str} (hN : X.N[i]? = some x := by rfl) (hv : Vis X.env.scope x := by first | exact Or.inl rfl | exact Or.inr (Or.inl rfl) | exact Or.inr (Or.inr rfl)) (hd : (x == ("__debug__" : Str)) = false := by decide)
    (hcd : (x == ("__classdict__" : Str)) = false := by decide) : QE C W m X (.Name x pos) (eVar i) := by
  refine PE.imp (pe_var hN hv hd hcd) fun σ H Q h => ?_
  obtain ⟨H₀, F, ρ, S, h⟩ := h
  unfold eVar at h
  cases e : ρ[i]? with
  | none => rw [e] at h; exact h.elim
  | some o =>
    rw [e] at h
    match o, e, h with
    | none, _, h => exact h.elim
    | some (.own l), _, h => exact h.elim
    | some (.obj c fs), _, h => exact h.elim
    | some (.sh p), e, h =>
      obtain ⟨v, F1, e1, e2, _⟩ := S.env.get e
      simp only [OwnR] at e2
      exact ⟨v, e1, h v H H₀ (Ext.refl S.z) (Rep.mono (z_md fun a ha => (S.fr a ha).2) e2.1)⟩
theorem qOwn (i : Nat) {x : Str} (hN : X.N[i]? = some x := by rfl) (hv : Vis X.env.scope x := by first | exact Or.inl rfl | exact Or.inr (Or.inl rfl) | exact Or.inr (Or.inr rfl)) (hd : (x == ("__debug__" : Str)) = false := by decide)
    (hcd : (x == ("__classdict__" : Str)) = false := by decide) : QE C W false X (.Name x pos) (eOwn i) := by
  refine PE.imp (pe_var hN hv hd hcd) fun σ H Q h => ?_
  obtain ⟨H₀, F, ρ, S, h⟩ := h
  unfold eOwn at h
  cases e : ρ[i]? with
  | none => rw [e] at h; exact h.elim
  | some o =>
    rw [e] at h
    cases o with
    | none => exact h.elim
    | some o =>
      obtain ⟨v, F1, e1, e2, e3⟩ := S.env.get e
      refine ⟨v, e1, h v H H₀ (Ext.refl S.z) ?_⟩
      exact OwnR.rep (z_md (m := false) fun a ha => (S.fr a ha).2) (fun a ha => by change vw H₀ H F a = H a; unfold vw; rw [if_pos (e3 a ha)]) e2
theorem qInt {i : Int} {j} : QE C W m X (.Constant (.int i) j pos) (eCst (.int i)) := PE.imp pe_int fun σ H Q ⟨H₀, F, ρ, S, h⟩ => h _ H H₀ (Ext.refl S.z) (by simp only [Rep])
theorem qStr {x : Str} {j} : QE C W m X (.Constant (.str x) j pos) (eCst (.str x)) := PE.imp pe_str fun σ H Q ⟨H₀, F, ρ, S, h⟩ => h _ H H₀ (Ext.refl S.z) (by simp only [Rep])
theorem qBl {x : Bool} {j} : QE C W m X (.Constant (.bool x) j pos) (eCst (.bl x)) := PE.imp pe_bl fun σ H Q ⟨H₀, F, ρ, S, h⟩ => h _ H H₀ (Ext.refl S.z) (by simp only [Rep])
theorem qNon {j} : QE C W m X (.Constant .none j pos) (eCst .non) := PE.imp pe_non fun σ H Q ⟨H₀, F, ρ, S, h⟩ => h _ H H₀ (Ext.refl S.z) (by simp only [Rep])
/-- a constant of the module -/
theorem qGlob {x : Str} {v : V} {u : Value} {p : PV} (hm : X.mg x = some u) (r : RelV v u) (hp : ∀ H, Rep C.G H p v) (hg : Gl X x := by rfl) (hd : (x == ("__debug__" : Str)) = false := by decide) : QE C W m X (.Name x pos) (eCst p) :=
  PE.imp (pe_glob hg hm r hd) fun σ H Q ⟨H₀, F, ρ, S, h⟩ => h _ H H₀ (Ext.refl S.z) (hp _)
/-! ### operators -/
/-- what an operator by values must do -/
def Op2 (Γ : Gc) (r : R2) (g : PV → PV → R PV) : Prop := ∀ (m : Bool) (H₀ H : Hp) (F : List Addr) (p q z : PV) (x y : V) (Q : VK), Same H₀ H → Rep Γ (md m H₀ H F) p x → Rep Γ (md m H₀ H F) q y → g p q = .ok z →
  (∀ v H' H₀', Ext H₀ H H₀' H' → Rep Γ (md m H₀' H' F) z v → Q v H') → r x y H Q
/-- an operator that raises nothing -/
def Calm2 (g : PV → PV → R PV) : Prop := ∀ p q x, g p q ≠ .er x
def eBin (g : PV → PV → R PV) (fa fb : Env → R PV) : Env → R PV := fun ρ => (fa ρ).bind fun p => (fb ρ).bind fun q => g p q
theorem op2_go {r : R2} {g : PV → PV → R PV} {fa fb : Env → R PV} (hg : Calm2 g) (ho : Op2 C.G r g) {Q : VK} (h : tE C W m (eBin g fa fb) σ H Q) :
    tE C W m fa σ H fun x H1 => tE C W m fb σ H1 fun y H2 => r x y H2 Q := by
  rw [tE_iff] at h ⊢
  obtain ⟨H₀, F, ρ, S, h⟩ := h
  unfold eBin at h
  rw [Goes.bind] at h
  refine ⟨H₀, F, ρ, S, h.imp fun p _ h v H1 H₁ E1 r1 => ?_⟩
  rw [Goes.bind] at h
  rw [tE_iff]
  refine ⟨H₁, F, ρ, S.ext E1, (h.later E1).imp fun q _ h w H2 H₂ E2 r2 => ?_⟩
  cases e : g p q with
  | ok z =>
    rw [e] at h
    exact ho m H₂ H2 F p q z v w Q E2.z (Rep.mono (md_ext E2) r1) r2 e fun u H' H₀' E r => h u H' H₀' ((E1.trans E2).trans E) r
  | er x => exact absurd e (hg p q x)
  | no =>
    rw [e] at h
    exact h.elim
theorem qBin {op : Operator} {r : R2} {g : PV → PV → R PV} {fa fb : Env → R PV} (ho : OpR X (binaryOp op) r) (hg : Calm2 g) (hr : Op2 C.G r g) (ha : QE C W m X a fa) (hb : QE C W m X b fb) : QE C W m X (.BinOp a op b pos) (eBin g fa fb) :=
  PE.imp (pe_op ho ha hb) fun σ H Q h => op2_go hg hr h
theorem qCmp {op : CmpOp} {r : R2} {g : PV → PV → R PV} {fa fb : Env → R PV} (ho : OpR X (compareOp op) r) (hg : Calm2 g) (hr : Op2 C.G r g) (ha : QE C W m X a fa) (hb : QE C W m X b fb) (hm : behindInMarks op b = false := by first | exact nomark _ | rfl) : QE C W m X (.Compare a [op] [b] pos) (eBin g fa fb) :=
  PE.imp (pe_cmpR ho ha hb hm) fun σ H Q h => op2_go hg hr h
/-- a value as a test's answer -/
def eTst (f : Env → R PV) : Env → R Bool := fun ρ => (f ρ).bind fun p => match p with
  | .bl b => .ok b
  | _ => .no
theorem tst_go {f : Env → R PV} {Q : Bool → Hp → Prop} (h : tTt C W (eTst f) σ H Q) : tE C W m f σ H fun x H' => ∃ k, x = .bl k ∧ Q k H' := by
  rw [tT_iff] at h
  rw [tE_iff]
  obtain ⟨H₀, F, ρ, S, h⟩ := h
  unfold eTst at h
  rw [Goes.bind] at h
  refine ⟨H₀, F, ρ, S, h.imp fun p _ h v H1 H₁ E1 r1 => ?_⟩
  cases p with
  | bl b =>
    simp only [Rep] at r1
    exact ⟨b, r1, h H1 H₁ E1⟩
  | _ => exact (show False from h).elim
theorem qtCmp {op : CmpOp} {r : R2} {g : PV → PV → R PV} {fa fb : Env → R PV} (ho : OpR X (compareOp op) r) (hg : Calm2 g) (hr : Op2 C.G r g) (ha : QE C W m X a fa) (hb : QE C W m X b fb) (hm : behindInMarks op b = false := by first | exact nomark _ | rfl) : QT C W X (.Compare a [op] [b] pos) (eTst (eBin g fa fb)) :=
  PT.imp (pt_cmpR ho ha hb hm) fun σ H Q h => op2_go hg hr (tst_go h)
/-- any expression whose value is a bool, as a test -/
theorem qtVal {e : Expr} {f : Env → R PV} (h : QE C W m X e f) (he : ∀ whole, isTrue e X.env whole = (do let v ← whole; standAt e.pos; holding [v] (truthy v)) := by intro _; rfl) : QT C W X e (eTst f) :=
  PT.imp (pt_val h he) fun σ H Q h => tst_go h
/-- truth of any value -/
def truthR : PV → R Bool
  | .non => .ok false
  | .bl b => .ok b
  | .int i => .ok (i != 0)
  | .str s => if s.length ≤ sizeLine then .ok ((s.length : Int) != 0) else .no
  | .lst l => .ok (!l.isEmpty)
  | .scr l => .ok (!l.isEmpty)
  | .tup l => .ok (!l.isEmpty)
  | .ins _ _ => .no
def eTru (f : Env → R PV) : Env → R Bool := fun ρ => (f ρ).bind truthR
theorem qtTru {e : Expr} {f : Env → R PV} (hK : X.K = C.G.K) (h : QE C W m X e f) (he : ∀ whole, isTrue e X.env whole = (do let v ← whole; standAt e.pos; holding [v] (truthy v)) := by intro _; rfl) : QT C W X e (eTru f) := by
  refine PT.imp (pt_truth h he) fun σ H Q h => ?_
  rw [tT_iff] at h
  rw [tE_iff]
  obtain ⟨H₀, F, ρ, S, h⟩ := h
  unfold eTru at h
  rw [Goes.bind] at h
  refine ⟨H₀, F, ρ, S, h.imp fun p _ h v H1 H₁ E1 r1 => ?_⟩
  have r2 : Rep C.G H1 p v := Rep.mono (md_H E1.z) r1
  have emp : ∀ {ps : List PV} {vs : List V}, Reps C.G H1 ps vs → (!ps.isEmpty) = !vs.isEmpty := fun {ps vs} r => by
    cases ps with
    | nil => simp only [Reps] at r; subst r; rfl
    | cons p ps => simp only [Reps] at r; obtain ⟨x, ys, h1, _⟩ := r; subst h1; rfl
  rw [hK]
  cases p with
  | non => simp only [Rep] at r2; subst r2; exact ⟨false, rfl, h H1 H₁ E1⟩
  | bl b => simp only [Rep] at r2; subst r2; exact ⟨b, rfl, h H1 H₁ E1⟩
  | int i => simp only [Rep] at r2; subst r2; exact ⟨_, rfl, h H1 H₁ E1⟩
  | str s =>
    simp only [Rep] at r2
    subst r2
    simp only [truthR] at h
    split at h
    · rename_i hs
      exact ⟨_, ⟨hs, rfl⟩, h H1 H₁ E1⟩
    · exact h.elim
  | lst l =>
    simp only [Rep] at r2
    obtain ⟨a, xs, h1, h2, h3⟩ := r2
    subst h1
    exact ⟨_, .inl ⟨xs, SqL.of h2, rfl⟩, by rw [← emp h3]; exact h H1 H₁ E1⟩
  | scr l =>
    simp only [Rep] at r2
    obtain ⟨a, xs, h1, h2, h3⟩ := r2
    subst h1
    exact ⟨_, .inl ⟨xs, h2, rfl⟩, by rw [← emp h3]; exact h H1 H₁ E1⟩
  | tup l =>
    simp only [Rep] at r2
    obtain ⟨a, xs, h1, h2, h3⟩ := r2
    subst h1
    exact ⟨_, .inr (.inl ⟨xs, h2, rfl⟩), by rw [← emp h3]; exact h H1 H₁ E1⟩
  | ins c fs => exact h.elim
/-! and, or, not -/
def bAnd (fa fb : Env → R Bool) : Env → R Bool := fun ρ => (fa ρ).bind fun c => if c = true then fb ρ else .ok false
def bOr (fa fb : Env → R Bool) : Env → R Bool := fun ρ => (fa ρ).bind fun c => if c = true then .ok true else fb ρ
def bNot (fa : Env → R Bool) : Env → R Bool := fun ρ => (fa ρ).bind fun c => .ok (!c)
abbrev QW (C : Fc) (W : WX) (X : Cx) (e : Expr) (f : Env → R Bool) : Prop := PW X e (tTt C W f)
theorem qw_and1 {fa : Env → R Bool} (ha : QT C W X a fa) : QW C W X (.BoolOp .And [a] pos) fa := pw_and1 ha
theorem qw_or1 {fa : Env → R Bool} (ha : QT C W X a fa) : QW C W X (.BoolOp .Or [a] pos) fa := pw_or1 ha
theorem qw_and {rest : List Expr} {fa fb : Env → R Bool} (ha : QT C W X a fa) (hb : QW C W X (.BoolOp .And (b :: rest) pos) fb) : QW C W X (.BoolOp .And (a :: b :: rest) pos) (bAnd fa fb) := by
  refine PW.imp (pw_and ha hb) fun σ H Q h => ?_
  show tTt C W fa σ H fun c H1 => if c = true then tTt C W fb σ H1 Q else Q false H1
  rw [tT_iff] at h ⊢
  obtain ⟨H₀, F, ρ, S, h⟩ := h
  unfold bAnd at h
  rw [Goes.bind] at h
  refine ⟨H₀, F, ρ, S, h.imp fun c _ h H1 H₁ E1 => ?_⟩
  cases c with
  | true =>
    rw [if_pos rfl] at h ⊢
    rw [tT_iff]
    exact ⟨H₁, F, ρ, S.ext E1, (h.later E1).imp fun d _ h H2 H₂ E2 => h H2 H₂ (E1.trans E2)⟩
  | false =>
    rw [if_neg Bool.false_ne_true] at h ⊢
    exact h H1 H₁ E1
theorem qw_or {rest : List Expr} {fa fb : Env → R Bool} (ha : QT C W X a fa) (hb : QW C W X (.BoolOp .Or (b :: rest) pos) fb) : QW C W X (.BoolOp .Or (a :: b :: rest) pos) (bOr fa fb) := by
  refine PW.imp (pw_or ha hb) fun σ H Q h => ?_
  show tTt C W fa σ H fun c H1 => if c = true then Q true H1 else tTt C W fb σ H1 Q
  rw [tT_iff] at h ⊢
  obtain ⟨H₀, F, ρ, S, h⟩ := h
  unfold bOr at h
  rw [Goes.bind] at h
  refine ⟨H₀, F, ρ, S, h.imp fun c _ h H1 H₁ E1 => ?_⟩
  cases c with
  | true =>
    rw [if_pos rfl] at h ⊢
    exact h H1 H₁ E1
  | false =>
    rw [if_neg Bool.false_ne_true] at h ⊢
    rw [tT_iff]
    exact ⟨H₁, F, ρ, S.ext E1, (h.later E1).imp fun d _ h H2 H₂ E2 => h H2 H₂ (E1.trans E2)⟩
theorem qt_w {e : Expr} {f : Env → R Bool} (h : QW C W X e f) : QT C W X e f := h.pt
theorem qt_not {fa : Env → R Bool} (ha : QT C W X a fa) : QT C W X (.UnaryOp .Not a pos) (bNot fa) := by
  refine PT.imp (pt_not ha) fun σ H Q h => ?_
  show tTt C W fa σ H fun c H1 => Q (!c) H1
  rw [tT_iff] at h ⊢
  obtain ⟨H₀, F, ρ, S, h⟩ := h
  unfold bNot at h
  rw [Goes.bind] at h
  exact ⟨H₀, F, ρ, S, h.imp fun c _ h H1 H₁ E1 => h H1 H₁ E1⟩
/-! as values -/
def eAnd (fa fb : Env → R PV) : Env → R PV := fun ρ => (fa ρ).bind fun p => match p with
  | .bl true => fb ρ
  | .bl false => .ok (.bl false)
  | _ => .no
def eOr (fa fb : Env → R PV) : Env → R PV := fun ρ => (fa ρ).bind fun p => match p with
  | .bl true => .ok (.bl true)
  | .bl false => fb ρ
  | _ => .no
def eNot (fa : Env → R PV) : Env → R PV := fun ρ => (fa ρ).bind fun p => match p with
  | .bl b => .ok (.bl (!b))
  | _ => .no
theorem qOne {op} {f : Env → R PV} (h : QE C W m X a f) : QE C W m X (.BoolOp op [a] pos) f := pe_one h
theorem qAnd {rest : List Expr} {fa fb : Env → R PV} (ha : QE C W m X a fa) (hb : QE C W m X (.BoolOp .And (b :: rest) pos) fb) : QE C W m X (.BoolOp .And (a :: b :: rest) pos) (eAnd fa fb) := by
  refine PE.imp (pe_and ha hb) fun σ H Q h => ?_
  show tE C W m fa σ H fun x H1 => ∃ c, x = .bl c ∧ if c = true then tE C W m fb σ H1 Q else Q (.bl false) H1
  rw [tE_iff] at h ⊢
  obtain ⟨H₀, F, ρ, S, h⟩ := h
  unfold eAnd at h
  rw [Goes.bind] at h
  refine ⟨H₀, F, ρ, S, h.imp fun p _ h v H1 H₁ E1 r1 => ?_⟩
  match p, h, r1 with
  | .bl true, h, r1 =>
    simp only [Rep] at r1
    refine ⟨true, r1, ?_⟩
    rw [if_pos rfl, tE_iff]
    exact ⟨H₁, F, ρ, S.ext E1, (h.later E1).imp fun d _ h w H2 H₂ E2 => h w H2 H₂ (E1.trans E2)⟩
  | .bl false, h, r1 =>
    simp only [Rep] at r1
    refine ⟨false, r1, ?_⟩
    rw [if_neg Bool.false_ne_true]
    exact h _ H1 H₁ E1 (by simp only [Rep])
theorem qOr {rest : List Expr} {fa fb : Env → R PV} (ha : QE C W m X a fa) (hb : QE C W m X (.BoolOp .Or (b :: rest) pos) fb) : QE C W m X (.BoolOp .Or (a :: b :: rest) pos) (eOr fa fb) := by
  refine PE.imp (pe_or ha hb) fun σ H Q h => ?_
  show tE C W m fa σ H fun x H1 => ∃ c, x = .bl c ∧ if c = true then Q (.bl true) H1 else tE C W m fb σ H1 Q
  rw [tE_iff] at h ⊢
  obtain ⟨H₀, F, ρ, S, h⟩ := h
  unfold eOr at h
  rw [Goes.bind] at h
  refine ⟨H₀, F, ρ, S, h.imp fun p _ h v H1 H₁ E1 r1 => ?_⟩
  match p, h, r1 with
  | .bl false, h, r1 =>
    simp only [Rep] at r1
    refine ⟨false, r1, ?_⟩
    rw [if_neg Bool.false_ne_true, tE_iff]
    exact ⟨H₁, F, ρ, S.ext E1, (h.later E1).imp fun d _ h w H2 H₂ E2 => h w H2 H₂ (E1.trans E2)⟩
  | .bl true, h, r1 =>
    simp only [Rep] at r1
    refine ⟨true, r1, ?_⟩
    rw [if_pos rfl]
    exact h _ H1 H₁ E1 (by simp only [Rep])
theorem qNot {fa : Env → R PV} (ha : QE C W m X a fa) : QE C W m X (.UnaryOp .Not a pos) (eNot fa) := by
  refine PE.imp (pe_not ha) fun σ H Q h => ?_
  show tE C W m fa σ H fun x H1 => ∃ c, x = .bl c ∧ Q (.bl (!c)) H1
  rw [tE_iff] at h ⊢
  obtain ⟨H₀, F, ρ, S, h⟩ := h
  unfold eNot at h
  rw [Goes.bind] at h
  refine ⟨H₀, F, ρ, S, h.imp fun p _ h v H1 H₁ E1 r1 => ?_⟩
  cases p with
  | bl b =>
    simp only [Rep] at r1
    exact ⟨b, r1, h _ H1 H₁ E1 (by simp only [Rep])⟩
  | _ => exact (show False from h).elim
def eIf (fc : Env → R Bool) (fa fb : Env → R PV) : Env → R PV := fun ρ => (fc ρ).bind fun c => if c = true then fa ρ else fb ρ
theorem qIf {fc : Env → R Bool} {fa fb : Env → R PV} (hc : QT C W X c fc) (ha : QE C W m X a fa) (hb : QE C W m X b fb) : QE C W m X (.IfExp c a b pos) (eIf fc fa fb) := by
  refine PE.imp (pe_ifExp hc ha hb) fun σ H Q h => ?_
  show tTt C W fc σ H fun c H1 => if c = true then tE C W m fa σ H1 Q else tE C W m fb σ H1 Q
  rw [tE_iff] at h
  rw [tT_iff]
  obtain ⟨H₀, F, ρ, S, h⟩ := h
  unfold eIf at h
  rw [Goes.bind] at h
  refine ⟨H₀, F, ρ, S, h.imp fun d _ h H1 H₁ E1 => ?_⟩
  cases d with
  | true =>
    rw [if_pos rfl] at h ⊢
    rw [tE_iff]
    exact ⟨H₁, F, ρ, S.ext E1, (h.later E1).imp fun d _ h w H2 H₂ E2 => h w H2 H₂ (E1.trans E2)⟩
  | false =>
    rw [if_neg Bool.false_ne_true] at h ⊢
    rw [tE_iff]
    exact ⟨H₁, F, ρ, S.ext E1, (h.later E1).imp fun d _ h w H2 H₂ E2 => h w H2 H₂ (E1.trans E2)⟩
/-- a scalar may leave what is only looked at -/
def scalarR : PV → R PV
  | .lst _ => .no
  | .scr _ => .no
  | .tup _ => .no
  | .ins _ _ => .no
  | p => .ok p
def eSca (f : Env → R PV) : Env → R PV := fun ρ => (f ρ).bind scalarR
theorem qSca {f : Env → R PV} (h : QE C W false X a f) : QE C W m X a (eSca f) := by
  refine PE.imp h fun σ H Q h => ?_
  rw [tE_iff] at h ⊢
  obtain ⟨H₀, F, ρ, S, h⟩ := h
  unfold eSca at h
  rw [Goes.bind] at h
  refine ⟨H₀, F, ρ, S, h.imp fun p _ h v H1 H₁ E1 r1 => ?_⟩
  cases p with
  | lst l => exact h.elim
  | scr l => exact h.elim
  | tup l => exact h.elim
  | ins c fs => exact h.elim
  | non => exact h v H1 H₁ E1 (by simpa only [Rep] using r1)
  | bl b => exact h v H1 H₁ E1 (by simpa only [Rep] using r1)
  | int b => exact h v H1 H₁ E1 (by simpa only [Rep] using r1)
  | str b => exact h v H1 H₁ E1 (by simpa only [Rep] using r1)
/-- what is frozen may be looked at -/
theorem qBor {f : Env → R PV} (h : QE C W true X a f) : QE C W false X a f := by
  refine PE.imp h fun σ H Q h => ?_
  rw [tE_iff] at h ⊢
  obtain ⟨H₀, F, ρ, S, h⟩ := h
  exact ⟨H₀, F, ρ, S, h.imp fun p _ h v H1 H₁ E1 r1 => h v H1 H₁ E1 (Rep.mono (z_md (m := false) fun a ha => ((S.ext E1).fr a ha).2) r1)⟩
/-! ### argument lists, displays -/
def aNil : Env → R (List PV) := fun _ => .ok []
def aCons (f : Env → R PV) (r : Env → R (List PV)) : Env → R (List PV) := fun ρ => (f ρ).bind fun p => (r ρ).bind fun ps => .ok (p :: ps)
theorem qaNil : QA C W m X [] aNil := PA.imp pa_nil fun σ H Q ⟨H₀, F, ρ, S, h⟩ => h _ H H₀ (Ext.refl S.z) Reps.nil
theorem qaCons {es : List Expr} {f : Env → R PV} {r : Env → R (List PV)} (ha : QE C W m X a f) (hr : QA C W m X es r) (hs : starEach (a :: es) X.env = (false, eval a X.env) :: starEach es X.env := by rfl) : QA C W m X (a :: es) (aCons f r) := by
  refine PA.imp (pa_cons ha hr hs) fun σ H Q h => ?_
  show tE C W m f σ H fun x H1 => tAs C W m r σ H1 fun xs H2 => Q (x :: xs) H2
  rw [tA_iff] at h
  rw [tE_iff]
  obtain ⟨H₀, F, ρ, S, h⟩ := h
  unfold aCons at h
  rw [Goes.bind] at h
  refine ⟨H₀, F, ρ, S, h.imp fun p _ h v H1 H₁ E1 r1 => ?_⟩
  rw [Goes.bind] at h
  rw [tA_iff]
  exact ⟨H₁, F, ρ, S.ext E1, (h.later E1).imp fun ps _ h ws H2 H₂ E2 r2 => h (v :: ws) H2 H₂ (E1.trans E2) (Reps.cons (Rep.mono (md_ext E2) r1) r2)⟩
def mkTup (ps : List PV) : R PV := if ps.length ≤ sizeLine then .ok (.tup ps) else .no
def mkLst (ps : List PV) : R OV := if ps.length ≤ sizeLine then .ok (.own (ps.map .sh)) else .no
def eTup (r : Env → R (List PV)) : Env → R PV := fun ρ => (r ρ).bind mkTup
def fLst (r : Env → R (List PV)) : Env → R OV := fun ρ => (r ρ).bind mkLst
theorem qTup {es : List Expr} {x1} {r : Env → R (List PV)} (h : QA C W m X es r) : QE C W m X (.Tuple es x1 pos) (eTup r) := by
  refine PE.imp (pe_tup h) fun σ H Q h => ?_
  show tAs C W m r σ H fun xs H1 => xs.length ≤ sizeLine ∧ ∀ p, H1 p = none → Q (.ref p) (upd H1 p (.tup xs))
  rw [tE_iff] at h
  rw [tA_iff]
  obtain ⟨H₀, F, ρ, S, h⟩ := h
  unfold eTup at h
  rw [Goes.bind] at h
  refine ⟨H₀, F, ρ, S, h.imp fun ps _ h vs H1 H₁ E1 r1 => ?_⟩
  unfold mkTup at h
  split at h
  · rename_i hs
    refine ⟨by rw [← r1.length]; exact hs, fun p hp => ?_⟩
    have E2 : Ext H₁ H1 (upd H₁ p (.tup vs)) (upd H1 p (.tup vs)) := ext_new E1.z hp
    exact h _ _ _ (E1.trans E2) (by simp only [Rep]; exact ⟨p, vs, rfl, SqT.of md_new, Reps.mono (md_ext E2) r1⟩)
  · exact h.elim
theorem ownRs_sh : ∀ {ps : List PV} {vs : List V} {H₀ H : Hp}, Reps C.G H₀ ps vs → OwnRs C.G H₀ H (ps.map .sh) vs []
  | [], vs, H₀, H, h => by simp only [Reps] at h; subst h; simp [OwnRs]
  | p :: ps, vs, H₀, H, h => by
    simp only [Reps] at h
    obtain ⟨x, ys, h1, h2, h3⟩ := h
    subst h1
    simp only [List.map_cons, OwnRs]
    exact ⟨x, ys, [], [], rfl, rfl, by simp only [OwnR]; exact ⟨h2, trivial⟩, ownRs_sh h3⟩
/-- a new list of frozen things -/
theorem own_new {ps : List PV} {vs : List V} {H₀ H : Hp} {p : Addr} (z : Same H₀ H) (hp : H p = none) (r : Reps C.G H₀ ps vs) :
    Ext H₀ H H₀ (upd H p (.lst vs)) ∧ OwnR C.G H₀ (upd H p (.lst vs)) (.own (ps.map .sh)) (.ref p) [p] ∧ ([p] : List Addr).Nodup ∧ ∀ a ∈ [p], H a = none ∧ H₀ a = none := by
  have h0 : H₀ p = none := Same.free z hp
  refine ⟨⟨fun b u e => ?_, Same.refl _, fun b u e => ?_, fun _ _ => rfl⟩, ?_, by simp, fun a ha => ?_⟩
  · rw [upd_ne fun q => by rw [q, hp] at e; cases e]; exact e
  · rw [upd_ne fun q => by rw [q, h0] at e; cases e]; exact z b u e
  · simp only [OwnR]
    exact ⟨p, vs, [], rfl, rfl, upd_same, ownRs_sh r⟩
  · rw [List.mem_singleton.mp ha]; exact ⟨hp, h0⟩
theorem qLst {es : List Expr} {r : Env → R (List PV)} (h : QA C W true X es r) : QF C W X (.List es pos) (fLst r) := by
  refine PE.imp (pe_lst h) fun σ H Q h => ?_
  show tAs C W true r σ H fun xs H1 => xs.length ≤ sizeLine ∧ ∀ p, H1 p = none → Q (.ref p) (upd H1 p (.lst xs))
  rw [tF_iff] at h
  rw [tA_iff]
  obtain ⟨H₀, F, ρ, S, h⟩ := h
  unfold fLst at h
  rw [Goes.bind] at h
  refine ⟨H₀, F, ρ, S, h.imp fun ps _ h vs H1 H₁ E1 r1 => ?_⟩
  unfold mkLst at h
  split at h
  · rename_i hs
    refine ⟨by rw [← r1.length]; exact hs, fun p hp => ?_⟩
    obtain ⟨E2, o2, n2, f2⟩ := own_new (C := C) E1.z hp r1
    exact h _ _ _ _ (E1.trans E2) o2 n2 fun a ha => ⟨Same.free E1.s (f2 a ha).1, (f2 a ha).2⟩
  · exact h.elim
/-- what is new may be frozen -/
def eFz (f : Env → R OV) : Env → R PV := fun ρ => (f ρ).bind fun o => .ok o.pv
theorem frz_ext {o : OV} {v : V} {H H' H₀ H₀' : Hp} {Fv : List Addr} (E : Ext H₀ H H₀' H') (r : OwnR C.G H₀' H' o v Fv) (fr : ∀ a ∈ Fv, H a = none ∧ H₀' a = none) :
    Ext H₀ H (vw H₀' H' Fv) H' ∧ Rep C.G (vw H₀' H' Fv) o.pv v := by
  have z0 : Same H₀' (vw H₀' H' Fv) := same_vw fun a ha => (fr a ha).2
  refine ⟨⟨E.s, E.s0.trans z0, vw_same E.z, fun a ha => ?_⟩, OwnR.rep z0 (fun a ha => by unfold vw; rw [if_pos ha]) r⟩
  unfold vw
  rw [if_neg fun q => ha (fr a q).1]
  exact E.n a ha
theorem qFz {f : Env → R OV} (h : QF C W X a f) : QE C W m X a (eFz f) := by
  refine PE.imp h fun σ H Q h => ?_
  rw [tE_iff] at h
  rw [tF_iff]
  obtain ⟨H₀, F, ρ, S, h⟩ := h
  unfold eFz at h
  rw [Goes.bind] at h
  refine ⟨H₀, F, ρ, S, h.imp fun o _ h v H1 H₁ Fv E1 r1 n1 f1 => ?_⟩
  obtain ⟨E2, r2⟩ := frz_ext E1 r1 f1
  exact h v H1 _ E2 (Rep.mono (z_md fun a ha => ((S.ext E2).fr a ha).2) r2)
/-- what is frozen, as a new value -/
def fSh (f : Env → R PV) : Env → R OV := fun ρ => (f ρ).bind fun p => .ok (.sh p)
theorem qSh {f : Env → R PV} (h : QE C W true X a f) : QF C W X a (fSh f) := by
  refine PE.imp h fun σ H Q h => ?_
  rw [tF_iff] at h
  rw [tE_iff]
  obtain ⟨H₀, F, ρ, S, h⟩ := h
  unfold fSh at h
  rw [Goes.bind] at h
  exact ⟨H₀, F, ρ, S, h.imp fun p _ h v H1 H₁ E1 r1 => h v H1 H₁ [] E1 (by simp only [OwnR]; exact ⟨r1, trivial⟩) List.nodup_nil fun a ha => by cases ha⟩
end
end L3

end
section
/-! L3. 3: operators, subscripts, built-ins by values -/
namespace L3
open PySem PySem.Spec PyProof.Rows L2
section
variable {G : Gc} {K : PySem.W.Frag}
theorem rep_up {m : Bool} {H₀ H : Hp} {F : List Addr} {p : PV} {v : V} (z : Same H₀ H) (r : Rep G (md m H₀ H F) p v) : Rep G H p v := Rep.mono (md_H z) r
/-! ### ints -/
def intOp (c : Int → Int → Bool) (f : Int → Int → Int) : PV → PV → R PV
  | .int i, .int j => if c i j then .ok (.int (f i j)) else .no
  | _, _ => .no
theorem intOp_calm {c : Int → Int → Bool} {f : Int → Int → Int} : Calm2 (intOp c f) := by
  intro p q x
  unfold intOp
  split
  · split <;> exact fun z => nomatch z
  · exact fun z => nomatch z
theorem intOp_ok {Cn : Int → Int → Prop} {c : Int → Int → Bool} {f : Int → Int → Int} (h : ∀ i j, c i j = true → Cn i j) : Op2 G (rI Cn fun i j => .int (f i j)) (intOp c f) := by
  intro m H₀ H F p q z x y Q zz rp rq e k
  unfold intOp at e
  split at e
  · rename_i i j
    simp only [Rep] at rp rq
    split at e
    · rename_i hc
      cases e
      exact ⟨i, j, rp, rq, h i j hc, k _ H H₀ (Ext.refl zz) (by simp only [Rep])⟩
    · cases e
  · cases e
def mulOk (i j : Int) : Bool := decide (-(2 ^ 64) < i ∧ i < 2 ^ 64) || decide (-(2 ^ 64) < j ∧ j < 2 ^ 64) || decide (i.natAbs.log2 + j.natAbs.log2 < 1000000)
def pySub : PV → PV → R PV := intOp (fun _ _ => true) fun i j => i - j
def pyFdiv : PV → PV → R PV := intOp (fun _ j => decide (0 < j) && decide (j.natAbs.log2 < 9000)) fun i j => i / j
def pyMod : PV → PV → R PV := intOp (fun _ j => decide (0 < j)) fun i j => i % j
def pyPow : PV → PV → R PV := intOp (fun i j => decide (0 ≤ j) && decide (j ≤ 1000000) && decide (i.natAbs < 2 ^ 64)) fun i j => i ^ j.toNat
theorem sub_ok : Op2 G (rI (fun _ _ => True) fun i j => .int (i - j)) pySub := intOp_ok fun _ _ _ => trivial
theorem op_sub' {X : Cx} : OpR X (binaryOp .Sub) (rI (fun _ _ => True) fun i j => .int (i - j)) := by
  intro pins s σ H x y v u Q I rx ry h
  obtain ⟨i, j, h1, h2, _, q⟩ := h
  exact op_sub pins s σ H x y v u Q I rx ry ⟨i, j, h1, h2, q⟩
theorem fdiv_ok : Op2 G (rI CDivW fun i j => .int (i / j)) pyFdiv := intOp_ok fun i j h => by
  simp only [Bool.and_eq_true, decide_eq_true_eq] at h
  exact h
theorem mod_ok : Op2 G (rI (fun _ j => 0 < j) fun i j => .int (i % j)) pyMod := intOp_ok fun i j h => by simpa using h
theorem pow_ok : Op2 G (rI CPow fun i j => .int (i ^ j.toNat)) pyPow := intOp_ok fun i j h => by
  simp only [Bool.and_eq_true, decide_eq_true_eq] at h
  exact ⟨h.1.1, h.1.2, h.2⟩
theorem calm_fdiv : Calm2 pyFdiv := intOp_calm
theorem calm_mod : Calm2 pyMod := intOp_calm
theorem calm_pow : Calm2 pyPow := intOp_calm
theorem calm_sub : Calm2 pySub := intOp_calm
def intCmp (f : Int → Int → Bool) : PV → PV → R PV
  | .int i, .int j => .ok (.bl (f i j))
  | _, _ => .no
theorem intCmp_calm {f : Int → Int → Bool} : Calm2 (intCmp f) := by
  intro p q x
  unfold intCmp
  split <;> exact fun z => nomatch z
theorem intCmp_ok {f : Int → Int → Bool} : Op2 G (rI0 fun i j => .bl (f i j)) (intCmp f) := by
  intro m H₀ H F p q z x y Q zz rp rq e k
  unfold intCmp at e
  split at e
  · rename_i i j
    simp only [Rep] at rp rq
    cases e
    exact ⟨i, j, rp, rq, k _ H H₀ (Ext.refl zz) (by simp only [Rep])⟩
  · cases e
def pyLt : PV → PV → R PV := intCmp fun i j => decide (i < j)
def pyLe : PV → PV → R PV := intCmp fun i j => decide (i ≤ j)
def pyGt : PV → PV → R PV := intCmp fun i j => decide (j < i)
def pyGe : PV → PV → R PV := intCmp fun i j => decide (j ≤ i)
/-! ### + and * of ints, texts, lists, tuples -/
def pyAdd : PV → PV → R PV
  | .int i, .int j => .ok (.int (i + j))
  | .str a, .str b => if a.length + b.length ≤ sizeLine then .ok (.str (a ++ b)) else .no
  | .lst a, .lst b => if a.length + b.length ≤ sizeLine then .ok (.lst (a ++ b)) else .no
  | .tup a, .tup b => if a.length + b.length ≤ sizeLine then .ok (.tup (a ++ b)) else .no
  | _, _ => .no
def rAddAll (K : PySem.W.Frag) : R2 := fun x y H Q => (∃ i j, x = .int i ∧ y = .int j ∧ Q (.int (i + j)) H) ∨ (∃ i j, x = .str i ∧ y = .str j ∧ i.length + j.length ≤ sizeLine ∧ Q (.str (i ++ j)) H) ∨ rCat x y H Q ∨ rCatA K x y H Q
theorem op_addAll {X : Cx} : OpR X (binaryOp .Add) (rAddAll X.K) := by
  intro pins s σ H x y v u Q I rx ry h
  rcases h with h | h | h | h
  · exact op_add pins s σ H x y v u Q I rx ry h
  · exact op_add_str pins s σ H x y v u Q I rx ry h
  · exact op_cat pins s σ H x y v u Q I rx ry h
  · exact op_catA pins s σ H x y v u Q I rx ry h
theorem calm_add : Calm2 pyAdd := by
  intro p q x
  unfold pyAdd
  split <;> first | (intro z; cases z; done) | (split <;> (intro z; cases z))
theorem rep_lst_new {m : Bool} {H₀ H : Hp} {F : List Addr} {p : Addr} {l : List PV} {xs : List V} (z : Same H₀ H) (hp : H p = none) (r : Reps G (md m H₀ H F) l xs) :
    Ext H₀ H (upd H₀ p (.lst xs)) (upd H p (.lst xs)) ∧ Rep G (md m (upd H₀ p (.lst xs)) (upd H p (.lst xs)) F) (.lst l) (.ref p) := by
  have E := ext_new (o := .lst xs) z hp
  refine ⟨E, ?_⟩
  simp only [Rep]
  exact ⟨p, xs, rfl, md_new, Reps.mono (md_ext E) r⟩
theorem rep_tup_new {m : Bool} {H₀ H : Hp} {F : List Addr} {p : Addr} {l : List PV} {xs : List V} (z : Same H₀ H) (hp : H p = none) (r : Reps G (md m H₀ H F) l xs) :
    Ext H₀ H (upd H₀ p (.tup xs)) (upd H p (.tup xs)) ∧ Rep G (md m (upd H₀ p (.tup xs)) (upd H p (.tup xs)) F) (.tup l) (.ref p) := by
  have E := ext_new (o := .tup xs) z hp
  refine ⟨E, ?_⟩
  simp only [Rep]
  exact ⟨p, xs, rfl, SqT.of md_new, Reps.mono (md_ext E) r⟩
theorem Reps.nil_iff {H : Hp} {l : List PV} {xs : List V} (r : Reps G H l xs) : l = [] ↔ xs = [] := by
  cases l with
  | nil => simp only [Reps] at r; simp [r]
  | cons p ps => simp only [Reps] at r; obtain ⟨x, ys, h1, _⟩ := r; subst h1; simp
theorem add_ok : Op2 G (rAddAll G.K) pyAdd := by
  intro m H₀ H F p q z x y Q zz rp rq e k
  unfold pyAdd at e
  split at e
  · simp only [Rep] at rp rq
    cases e
    exact .inl ⟨_, _, rp, rq, k _ H H₀ (Ext.refl zz) (by simp only [Rep])⟩
  · simp only [Rep] at rp rq
    split at e
    · rename_i hs
      cases e
      exact .inr (.inl ⟨_, _, rp, rq, hs, k _ H H₀ (Ext.refl zz) (by simp only [Rep])⟩)
    · cases e
  · simp only [Rep] at rp rq
    obtain ⟨a, xs, h1, h2, h3⟩ := rp
    obtain ⟨b, ys, g1, g2, g3⟩ := rq
    split at e
    · rename_i hs
      cases e
      refine .inr (.inr (.inl ⟨a, b, xs, ys, h1, g1, md_H zz _ _ h2, md_H zz _ _ g2, by rw [← h3.length, ← g3.length]; exact hs, fun r hr => ?_⟩))
      obtain ⟨E, rr⟩ := rep_lst_new (m := m) (F := F) zz hr (h3.append g3)
      exact k _ _ _ E rr
    · cases e
  · rename_i l1 l2
    simp only [Rep] at rp rq
    obtain ⟨a, xs, h1, h2, h3⟩ := rp
    obtain ⟨b, ys, g1, g2, g3⟩ := rq
    split at e
    · rename_i hs
      cases e
      refine .inr (.inr (.inr ⟨a, b, xs, ys, h1, g1, Same.seqT (md_H zz) h2, Same.seqT (md_H zz) g2, by rw [← h3.length, ← g3.length]; exact hs, fun hx => ?_, fun hx hy => ?_, fun _ _ r hr => ?_⟩))
      · have e1 : l1 = [] := h3.nil_iff.mpr hx
        subst e1
        refine k _ H H₀ (Ext.refl zz) ?_
        simp only [Rep, List.nil_append]
        exact ⟨b, ys, rfl, g2, g3⟩
      · have e1 : l2 = [] := g3.nil_iff.mpr hy
        subst e1
        refine k _ H H₀ (Ext.refl zz) ?_
        simp only [Rep, List.append_nil]
        exact ⟨a, xs, rfl, h2, h3⟩
      · obtain ⟨E, rr⟩ := rep_tup_new (m := m) (F := F) zz hr (h3.append g3)
        exact k _ _ _ E rr
    · cases e
  · cases e
def strRep (x : Str) (n : Int) : Str := if n < 1 then Str.empty else if (n == 1 || x.length == 0) = true then x else ⟨(List.replicate n.toNat x.cps).foldl (· ++ ·) #[]⟩
def rRepS : R2 := fun x y H Q => ∃ i n, x = .str i ∧ y = .int n ∧ -1000 ≤ n ∧ n ≤ 1000 ∧ i.length ≤ 1000 ∧ (strRep i n).length ≤ sizeLine ∧ Q (.str (strRep i n)) H
theorem op_repS {X : Cx} : OpR X (binaryOp .Mult) rRepS := by
  intro pins s σ H x y v u Q I rx ry h
  obtain ⟨i, n, rfl, rfl, h1, h2, h3, h4, q⟩ := h
  obtain ⟨t, rfl⟩ := rx
  obtain ⟨t', rfl⟩ := ry
  refine PySem.P.mul_str ?_ (fun k1 k2 => ?_) (fun k1 k2 => ?_) ?_
  · have e1 : ¬ n < -(2 ^ 63 : Int) := by omega
    have e2 : ¬ n ≥ 2 ^ 63 := by omega
    rw [decide_eq_false e1, decide_eq_false e2]; rfl
  · have : (1000 : Int) < (2 ^ 63 - 1) / n := by
      refine Int.lt_of_lt_of_le (show (1000 : Int) < (2 ^ 63 - 1) / 1000 by decide) ?_
      have hn : 0 < n := by omega
      rw [Int.le_ediv_iff_mul_le hn]
      have : (2 ^ 63 - 1) / 1000 * n ≤ (2 ^ 63 - 1) / 1000 * 1000 := Int.mul_le_mul_of_nonneg_left h2 (by decide)
      refine Int.le_trans this (by decide)
    omega
  · have hm : i.length * n.toNat ≤ 1000 * 1000 := Nat.mul_le_mul h3 (by omega)
    unfold Builtin.Str.tooLong
    refine decide_eq_false ?_
    have := sizeLine_eq
    omega
  · unfold strRep at q h4
    split
    · rename_i hn
      rw [if_pos hn] at q h4
      exact ⟨by decide, ⟨.str Str.empty, H, I.tok _, ⟨_, rfl⟩, q⟩⟩
    · rename_i hn
      rw [if_neg hn] at q h4
      split
      · rename_i hc
        rw [if_pos hc] at q
        exact ⟨.str i, H, I, ⟨_, rfl⟩, q⟩
      · rename_i hc
        rw [if_neg hc] at q h4
        exact ⟨h4, ⟨.str _, H, I.tok _, ⟨_, rfl⟩, q⟩⟩
def pyMul : PV → PV → R PV
  | .str x, .int n => if -1000 ≤ n ∧ n ≤ 1000 ∧ x.length ≤ 1000 ∧ (strRep x n).length ≤ sizeLine then .ok (.str (strRep x n)) else .no
  | .int i, .int j => if mulOk i j then .ok (.int (i * j)) else .no
  | .lst l, .int k => if -(2 ^ 63) ≤ k ∧ k < 2 ^ 63 ∧ l.length * k.toNat ≤ sizeLine then .ok (.lst (List.replicate k.toNat l).flatten) else .no
  | _, _ => .no
def rMulAll : R2 := fun x y H Q => rI CMul (fun i j => .int (i * j)) x y H Q ∨ rI CMulW (fun i j => .int (i * j)) x y H Q ∨ rRep x y H Q ∨ rRepS x y H Q
theorem op_mulAll {X : Cx} : OpR X (binaryOp .Mult) rMulAll := by
  intro pins s σ H x y v u Q I rx ry h
  rcases h with h | h | h | h
  · exact op_mul pins s σ H x y v u Q I rx ry h
  · exact op_mulW pins s σ H x y v u Q I rx ry h
  · exact op_rep pins s σ H x y v u Q I rx ry h
  · exact op_repS pins s σ H x y v u Q I rx ry h
theorem calm_mul : Calm2 pyMul := by
  intro p q x
  unfold pyMul
  split <;> first | (intro z; cases z; done) | (split <;> (intro z; cases z))
theorem Reps.rep {H : Hp} {l : List PV} {xs : List V} (r : Reps G H l xs) : ∀ n : Nat, Reps G H (List.replicate n l).flatten (List.replicate n xs).flatten
  | 0 => by simp only [List.replicate_zero, List.flatten_nil]; exact Reps.nil
  | n + 1 => by simp only [List.replicate_succ, List.flatten_cons]; exact r.append (Reps.rep r n)
theorem mul_ok : Op2 G rMulAll pyMul := by
  intro m H₀ H F p q z x y Q zz rp rq e k
  unfold pyMul at e
  split at e
  · simp only [Rep] at rp rq
    split at e
    · rename_i hc
      cases e
      exact .inr (.inr (.inr ⟨_, _, rp, rq, hc.1, hc.2.1, hc.2.2.1, hc.2.2.2, k _ H H₀ (Ext.refl zz) (by simp only [Rep])⟩))
    · cases e
  · rename_i i j
    simp only [Rep] at rp rq
    split at e
    · rename_i hc
      cases e
      have kk := k (.int (i * j)) H H₀ (Ext.refl zz) (by simp only [Rep])
      unfold mulOk at hc
      simp only [Bool.or_eq_true, decide_eq_true_eq] at hc
      rcases hc with hc | hc
      · exact .inl ⟨i, j, rp, rq, hc, kk⟩
      · exact .inr (.inl ⟨i, j, rp, rq, hc, kk⟩)
    · cases e
  · rename_i l j
    simp only [Rep] at rp rq
    obtain ⟨a, xs, h1, h2, h3⟩ := rp
    split at e
    · rename_i hc
      cases e
      refine .inr (.inr (.inl ⟨a, j, xs, h1, rq, md_H zz _ _ h2, hc.1, hc.2.1, by rw [← h3.length]; exact hc.2.2, fun r hr => ?_⟩))
      obtain ⟨E, rr⟩ := rep_lst_new (m := m) (F := F) zz hr (h3.rep j.toNat)
      exact k _ _ _ E rr
    · cases e
  · cases e
/-! ### equality -/
mutual
def toPD : PV → Option PyData
  | .non => some .none
  | .bl b => some (.bool b)
  | .int i => some (.int i)
  | .str s => some (.str s)
  | .lst l => (toPDs l).map .list
  | .scr l => (toPDs l).map .list
  | .tup l => (toPDs l).map .tuple
  | .ins _ _ => none
def toPDs : List PV → Option (List PyData)
  | [] => some []
  | p :: ps => (toPD p).bind fun d => (toPDs ps).map fun ds => d :: ds
end
mutual
theorem dp_of {H : Hp} : ∀ {p : PV} {v : V} {d : PyData}, Rep G H p v → toPD p = some d → Dp G.K H v d
  | .non, v, d, r, e => by simp only [Rep] at r; simp only [toPD] at e; subst r; cases e; exact .non
  | .bl b, v, d, r, e => by simp only [Rep] at r; simp only [toPD] at e; subst r; cases e; exact .bl b
  | .int b, v, d, r, e => by simp only [Rep] at r; simp only [toPD] at e; subst r; cases e; exact .int b
  | .str b, v, d, r, e => by simp only [Rep] at r; simp only [toPD] at e; subst r; cases e; exact .str b
  | .lst l, v, d, r, e => by
    simp only [Rep] at r
    simp only [toPD] at e
    obtain ⟨a, xs, h1, h2, h3⟩ := r
    subst h1
    cases q : toPDs l with
    | none => rw [q] at e; cases e
    | some ds => rw [q] at e; cases e; exact .lst (SqL.of h2) (dps_of h3 q)
  | .scr l, v, d, r, e => by
    simp only [Rep] at r
    simp only [toPD] at e
    obtain ⟨a, xs, h1, h2, h3⟩ := r
    subst h1
    cases q : toPDs l with
    | none => rw [q] at e; cases e
    | some ds => rw [q] at e; cases e; exact .lst h2 (dps_of h3 q)
  | .tup l, v, d, r, e => by
    simp only [Rep] at r
    simp only [toPD] at e
    obtain ⟨a, xs, h1, h2, h3⟩ := r
    subst h1
    cases q : toPDs l with
    | none => rw [q] at e; cases e
    | some ds => rw [q] at e; cases e; exact .tup h2 (dps_of h3 q)
  | .ins c fs, v, d, r, e => by simp only [toPD] at e; cases e
theorem dps_of {H : Hp} : ∀ {l : List PV} {vs : List V} {ds : List PyData}, Reps G H l vs → toPDs l = some ds → DpAll G.K H vs ds
  | [], vs, ds, r, e => by simp only [Reps] at r; simp only [toPDs] at e; subst r; cases e; exact .nil
  | p :: ps, vs, ds, r, e => by
    simp only [Reps] at r
    simp only [toPDs] at e
    obtain ⟨x, ys, h1, h2, h3⟩ := r
    subst h1
    cases q : toPD p with
    | none => rw [q] at e; cases e
    | some d =>
      cases q2 : toPDs ps with
      | none => rw [q, q2] at e; cases e
      | some es => rw [q, q2] at e; cases e; exact .cons (dp_of h2 q) (dps_of h3 q2)
end
/-- the scalars that == tells apart by what they are -/
def scalP : PV → PV → Option Bool
  | .non, .non => some true
  | .non, .int _ => some false | .int _, .non => some false | .non, .bl _ => some false | .bl _, .non => some false | .non, .str _ => some false | .str _, .non => some false
  | .int i, .int j => some (decide (i = j)) | .bl i, .bl j => some (decide (i = j)) | .str i, .str j => some (decide (i = j))
  | .int _, .str _ => some false | .str _, .int _ => some false | .bl _, .str _ => some false | .str _, .bl _ => some false
  | _, _ => none
theorem scalP_ok {H : Hp} {p q : PV} {x y : V} {b : Bool} (rp : Rep G H p x) (rq : Rep G H q y) (e : scalP p q = some b) : scal x y = true ∧ decide (x = y) = b := by
  unfold scalP at e
  split at e <;> first
    | (cases e; simp only [Rep] at rp rq; subst rp; subst rq; exact ⟨rfl, by simp⟩)
    | cases e
def eqR (p q : PV) : R Bool := match scalP p q with
  | some b => .ok b
  | none => match toPD p, toPD q with
    | some d, some e => if SeqAt.shaped d = true ∧ SeqAt.shaped e = true then .ok (PyData.eqv d e) else .no
    | _, _ => .no
def pyEq (p q : PV) : R PV := (eqR p q).bind fun b => .ok (.bl b)
def pyNe (p q : PV) : R PV := (eqR p q).bind fun b => .ok (.bl (!b))
theorem eqR_calm {p q : PV} {x : PX} : eqR p q ≠ .er x := by
  unfold eqR
  split
  · exact fun z => nomatch z
  · split
    · split <;> exact fun z => nomatch z
    · exact fun z => nomatch z
theorem calm_eq : Calm2 pyEq := fun p q x => by
  unfold pyEq
  cases e : eqR p q with
  | ok b => exact fun z => nomatch z
  | er x => exact absurd e eqR_calm
  | no => exact fun z => nomatch z
theorem calm_ne : Calm2 pyNe := fun p q x => by
  unfold pyNe
  cases e : eqR p q with
  | ok b => exact fun z => nomatch z
  | er x => exact absurd e eqR_calm
  | no => exact fun z => nomatch z
def rEqAll (K : PySem.W.Frag) : R2 := fun x y H Q => rEq x y H Q ∨ rEqD K x y H Q
def rNeAll (K : PySem.W.Frag) : R2 := fun x y H Q => rNe x y H Q ∨ rNeD K x y H Q
theorem op_eqAll {X : Cx} (hu : X.A.units + 64 < cLine) : OpR X (compareOp .Eq) (rEqAll X.K) := OpR.or op_eq (op_eqD hu)
theorem op_neAll {X : Cx} (hu : X.A.units + 64 < cLine) : OpR X (compareOp .NotEq) (rNeAll X.K) := OpR.or op_ne (op_neD hu)
theorem eqR_ok {H : Hp} {p q : PV} {x y : V} {b : Bool} (rp : Rep G H p x) (rq : Rep G H q y) (e : eqR p q = .ok b) : (scal x y = true ∧ decide (x = y) = b) ∨ ∃ d f, Dp G.K H x d ∧ Dp G.K H y f ∧ SeqAt.shaped d = true ∧ SeqAt.shaped f = true ∧ PyData.eqv d f = b := by
  unfold eqR at e
  split at e
  · rename_i b' hb
    cases e
    exact .inl (scalP_ok rp rq hb)
  · split at e
    · rename_i d f h1 h2
      split at e
      · rename_i hs
        cases e
        exact .inr ⟨d, f, dp_of rp h1, dp_of rq h2, hs.1, hs.2, rfl⟩
      · cases e
    · cases e
theorem eq_ok : Op2 G (rEqAll G.K) pyEq := by
  intro m H₀ H F p q z x y Q zz rp rq e k
  unfold pyEq at e
  cases h : eqR p q with
  | er x => exact absurd h eqR_calm
  | no => rw [h] at e; cases e
  | ok b =>
    rw [h] at e
    cases e
    have kk := k (.bl b) H H₀ (Ext.refl zz) (by simp only [Rep])
    rcases eqR_ok (rep_up zz rp) (rep_up zz rq) h with ⟨h1, h2⟩ | ⟨d, f, h1, h2, h3, h4, h5⟩
    · exact .inl ⟨h1, by rw [h2]; exact kk⟩
    · exact .inr ⟨d, f, h1, h2, h3, h4, by rw [h5]; exact kk⟩
theorem ne_ok : Op2 G (rNeAll G.K) pyNe := by
  intro m H₀ H F p q z x y Q zz rp rq e k
  unfold pyNe at e
  cases h : eqR p q with
  | er x => exact absurd h eqR_calm
  | no => rw [h] at e; cases e
  | ok b =>
    rw [h] at e
    cases e
    have kk := k (.bl (!b)) H H₀ (Ext.refl zz) (by simp only [Rep])
    rcases eqR_ok (rep_up zz rp) (rep_up zz rq) h with ⟨h1, h2⟩ | ⟨d, f, h1, h2, h3, h4, h5⟩
    · exact .inl ⟨h1, by rw [h2]; exact kk⟩
    · exact .inr ⟨d, f, h1, h2, h3, h4, by rw [h5]; exact kk⟩
/-! ### in -/
def flatP : PV → Bool
  | .non | .bl _ | .int _ | .str _ => true
  | _ => false
def toV : PV → V
  | .non => .non
  | .bl b => .bl b
  | .int i => .int i
  | .str s => .str s
  | _ => .non
theorem flat_ok {H : Hp} {p : PV} {v : V} (r : Rep G H p v) (f : flatP p = true) : v = toV p ∧ flatV v = true := by
  unfold flatP at f
  split at f <;> first | (simp only [Rep] at r; subst r; exact ⟨rfl, rfl⟩) | cases f
theorem flats_ok {H : Hp} : ∀ {l : List PV} {vs : List V}, Reps G H l vs → l.all flatP = true → vs = l.map toV ∧ vs.all flatV = true
  | [], vs, r, _ => by simp only [Reps] at r; subst r; exact ⟨rfl, rfl⟩
  | p :: ps, vs, r, f => by
    simp only [Reps] at r
    obtain ⟨x, ys, h1, h2, h3⟩ := r
    subst h1
    simp only [List.all_cons, Bool.and_eq_true] at f
    obtain ⟨e1, e2⟩ := flat_ok h2 f.1
    obtain ⟨e3, e4⟩ := flats_ok h3 f.2
    refine ⟨by rw [List.map_cons, ← e1, ← e3], by rw [List.all_cons, e2, e4]; rfl⟩
/-- x in y -/
def inR : PV → PV → R Bool
  | .str a, .str b => .ok (!(Builtin.Str.occurrences b a 0 b.length 1).isEmpty)
  | p, .tup l => if flatP p = true ∧ l.all flatP = true then .ok (inV (toV p) (l.map toV)) else .no
  | p, .lst l => if flatP p = true ∧ l.all flatP = true then .ok (inV (toV p) (l.map toV)) else match toPD p, toPDs l with
    | some d, some ds => if SeqAt.shaped d = true ∧ SeqAt.shaped (.list ds) = true then .ok (ds.any fun z => PyData.eqv z d) else .no
    | _, _ => .no
  | _, _ => .no
def rInAll (K : PySem.W.Frag) (neg : Bool) : R2 := fun x y H Q => (∃ i j, x = .str i ∧ y = .str j ∧ Q (.bl (if neg then !(!(Builtin.Str.occurrences j i 0 j.length 1).isEmpty) else !(Builtin.Str.occurrences j i 0 j.length 1).isEmpty)) H) ∨ rIn K neg x y H Q ∨
  ∃ d ds, Dp K H x d ∧ Dp K H y (.list ds) ∧ SeqAt.shaped d = true ∧ SeqAt.shaped (.list ds) = true ∧ Q (.bl (if neg then !(ds.any fun z => PyData.eqv z d) else ds.any fun z => PyData.eqv z d)) H
theorem op_inAll {X : Cx} (hu : X.A.units + 65 < cLine) : OpR X (compareOp .In) (rInAll X.K false) := by
  intro pins s σ H x y v u Q I rx ry h
  rcases h with h | h | h
  · exact op_in_str pins s σ H x y v u Q I rx ry h
  · exact op_in_seq pins s σ H x y v u Q I rx ry h
  · exact op_inD hu pins s σ H x y v u Q I rx ry h
theorem op_notInAll {X : Cx} (hu : X.A.units + 65 < cLine) : OpR X (compareOp .NotIn) (rInAll X.K true) := by
  intro pins s σ H x y v u Q I rx ry h
  rcases h with h | h | h
  · exact op_notin_str pins s σ H x y v u Q I rx ry h
  · exact op_notIn_seq pins s σ H x y v u Q I rx ry h
  · exact op_notInD hu pins s σ H x y v u Q I rx ry h
def pyIn (neg : Bool) (p q : PV) : R PV := (inR p q).bind fun b => .ok (.bl (if neg then !b else b))
theorem inR_calm {p q : PV} {x : PX} : inR p q ≠ .er x := by
  unfold inR
  split
  · exact fun z => nomatch z
  · split <;> exact fun z => nomatch z
  · split
    · exact fun z => nomatch z
    · split
      · split <;> exact fun z => nomatch z
      · exact fun z => nomatch z
  · exact fun z => nomatch z
theorem calm_in {neg : Bool} : Calm2 (pyIn neg) := fun p q x => by
  unfold pyIn
  cases e : inR p q with
  | ok b => exact fun z => nomatch z
  | er x => exact absurd e inR_calm
  | no => exact fun z => nomatch z
theorem in_ok {neg : Bool} : Op2 G (rInAll G.K neg) (pyIn neg) := by
  intro m H₀ H F p q z x y Q zz rp0 rq0 e k
  have rp := rep_up zz rp0
  have rq := rep_up zz rq0
  unfold pyIn at e
  cases h : inR p q with
  | er x => exact absurd h inR_calm
  | no => rw [h] at e; cases e
  | ok b =>
    rw [h] at e
    cases e
    have kk := k (.bl (if neg then !b else b)) H H₀ (Ext.refl zz) (by simp only [Rep])
    unfold inR at h
    split at h
    · simp only [Rep] at rp rq
      cases h
      exact .inl ⟨_, _, rp, rq, kk⟩
    · simp only [Rep] at rq
      obtain ⟨a, xs, h1, h2, h3⟩ := rq
      split at h
      · rename_i hf
        cases h
        obtain ⟨e1, e2⟩ := flat_ok rp hf.1
        obtain ⟨e3, e4⟩ := flats_ok h3 hf.2
        refine .inr (.inl ⟨a, xs, h1, .inr h2, e2, e4, ?_⟩)
        rw [e1, e3]
        exact kk
      · cases h
    · simp only [Rep] at rq
      have rq' := rq
      obtain ⟨a, xs, h1, h2, h3⟩ := rq
      split at h
      · rename_i hf
        cases h
        obtain ⟨e1, e2⟩ := flat_ok rp hf.1
        obtain ⟨e3, e4⟩ := flats_ok h3 hf.2
        refine .inr (.inl ⟨a, xs, h1, .inl (SqL.of h2), e2, e4, ?_⟩)
        rw [e1, e3]
        exact kk
      · split at h
        · rename_i d ds q1 q2
          split at h
          · rename_i hs
            cases h
            subst h1
            exact .inr (.inr ⟨d, ds, dp_of rp q1, .lst (SqL.of h2) (dps_of h3 q2), hs.1, hs.2, kk⟩)
          · cases h
        · cases h
    · cases h
/-! ### subscripts -/
def idxR : PV → PV → R PV
  | .lst l, .int i => R.of (atI l i)
  | .scr l, .int i => R.of (atI l i)
  | .tup l, .int i => R.of (atI l i)
  | .str z, .int i => if z.length ≤ sizeLine then R.of ((atI z.cps.toList i).map fun c => .str ⟨#[c]⟩) else .no
  | _, _ => .no
theorem R.of_calm {α : Type} {o : Option α} {x : PX} : R.of o ≠ .er x := by cases o <;> exact fun z => nomatch z
theorem calm_idx : Calm2 idxR := by
  intro p q x
  unfold idxR
  split <;> first | exact R.of_calm | (intro z; cases z; done) | (split <;> first | exact R.of_calm | (intro z; cases z; done))
def rIxAll (K : PySem.W.Frag) : R2 := fun x y H Q => rIxL K x y H Q ∨ rIxT K x y H Q ∨ rIxS x y H Q
theorem ix_all {X : Cx} : IxR X (rIxAll X.K) := IxR.or ix_list (IxR.or ix_tup ix_str)
theorem Reps.atI {H : Hp} {l : List PV} {xs : List V} {i : Int} {p : PV} (r : Reps G H l xs) (e : L2.atI l i = some p) : ∃ v, L2.atI xs i = some v ∧ Rep G H p v := by
  unfold L2.atI at e ⊢
  rw [← r.length]
  cases q : ixN l.length i with
  | none => rw [q] at e; cases e
  | some j =>
    rw [q] at e
    exact r.get e
theorem idx_ok : Op2 G (rIxAll G.K) idxR := by
  intro m H₀ H F p q z x y Q zz rp rq e k
  unfold idxR at e
  split at e
  · rename_i l i
    simp only [Rep] at rp rq
    obtain ⟨a, xs, h1, h2, h3⟩ := rp
    cases q : L2.atI l i with
    | none => rw [q] at e; cases e
    | some w =>
      rw [q] at e
      cases e
      obtain ⟨v, e1, e2⟩ := h3.atI q
      exact .inl ⟨a, xs, i, v, h1, rq, SqL.of (md_H zz _ _ h2), e1, k v H H₀ (Ext.refl zz) e2⟩
  · rename_i l i
    simp only [Rep] at rp rq
    obtain ⟨a, xs, h1, h2, h3⟩ := rp
    cases q : L2.atI l i with
    | none => rw [q] at e; cases e
    | some w =>
      rw [q] at e
      cases e
      obtain ⟨v, e1, e2⟩ := h3.atI q
      exact .inl ⟨a, xs, i, v, h1, rq, (md_H zz).seq h2, e1, k v H H₀ (Ext.refl zz) e2⟩
  · rename_i l i
    simp only [Rep] at rp rq
    obtain ⟨a, xs, h1, h2, h3⟩ := rp
    cases q : L2.atI l i with
    | none => rw [q] at e; cases e
    | some w =>
      rw [q] at e
      cases e
      obtain ⟨v, e1, e2⟩ := h3.atI q
      exact .inr (.inl ⟨a, xs, i, v, h1, rq, Same.seqT (md_H zz) h2, e1, k v H H₀ (Ext.refl zz) e2⟩)
  · rename_i s i
    simp only [Rep] at rp rq
    split at e
    · rename_i hs
      cases q : L2.atI s.cps.toList i with
      | none => rw [q] at e; cases e
      | some w =>
        rw [q] at e
        cases e
        exact .inr (.inr ⟨s, i, w, rp, rq, hs, q, k _ H H₀ (Ext.refl zz) (by simp only [Rep])⟩)
    · cases e
  · cases e
end
section
variable {C : Fc} {W : WX} {m : Bool} {X : Cx} {a b c : Expr} {pos : Pos} {fa fb : Env → R PV}
def eIdx (fa fb : Env → R PV) : Env → R PV := eBin idxR fa fb
theorem qIdx (hK : X.K = C.G.K) (ha : QE C W m X a fa) (hb : QE C W m X b fb) (hs : PlainIx b := by exact fun _ _ => rfl) : QE C W m X (.Subscript a b pos) (eIdx fa fb) :=
  PE.imp (pe_ix ix_all ha hb hs) fun σ H Q h => op2_go calm_idx (by rw [hK]; exact idx_ok) h
theorem qAdd (hK : X.K = C.G.K) (ha : QE C W m X a fa) (hb : QE C W m X b fb) : QE C W m X (.BinOp a .Add b pos) (eBin pyAdd fa fb) := qBin op_addAll calm_add (by rw [hK]; exact add_ok) ha hb
theorem qSub (ha : QE C W m X a fa) (hb : QE C W m X b fb) : QE C W m X (.BinOp a .Sub b pos) (eBin pySub fa fb) := qBin op_sub' calm_sub sub_ok ha hb
theorem qMul (ha : QE C W m X a fa) (hb : QE C W m X b fb) : QE C W m X (.BinOp a .Mult b pos) (eBin pyMul fa fb) := qBin op_mulAll calm_mul mul_ok ha hb
theorem qFdiv (ha : QE C W m X a fa) (hb : QE C W m X b fb) : QE C W m X (.BinOp a .FloorDiv b pos) (eBin pyFdiv fa fb) := qBin op_fdivW calm_fdiv fdiv_ok ha hb
theorem qMod (ha : QE C W m X a fa) (hb : QE C W m X b fb) : QE C W m X (.BinOp a .Mod b pos) (eBin pyMod fa fb) := qBin op_mod calm_mod mod_ok ha hb
theorem qPow (ha : QE C W m X a fa) (hb : QE C W m X b fb) : QE C W m X (.BinOp a .Pow b pos) (eBin pyPow fa fb) := qBin op_pow calm_pow pow_ok ha hb
theorem qLt (ha : QE C W m X a fa) (hb : QE C W m X b fb) : QE C W m X (.Compare a [.Lt] [b] pos) (eBin pyLt fa fb) := qCmp op_lt intCmp_calm intCmp_ok ha hb
theorem qLe (ha : QE C W m X a fa) (hb : QE C W m X b fb) : QE C W m X (.Compare a [.LtE] [b] pos) (eBin pyLe fa fb) := qCmp op_le intCmp_calm intCmp_ok ha hb
theorem qGt (ha : QE C W m X a fa) (hb : QE C W m X b fb) : QE C W m X (.Compare a [.Gt] [b] pos) (eBin pyGt fa fb) := qCmp op_gt intCmp_calm intCmp_ok ha hb
theorem qGe (ha : QE C W m X a fa) (hb : QE C W m X b fb) : QE C W m X (.Compare a [.GtE] [b] pos) (eBin pyGe fa fb) := qCmp op_ge intCmp_calm intCmp_ok ha hb
theorem tLt (ha : QE C W m X a fa) (hb : QE C W m X b fb) : QT C W X (.Compare a [.Lt] [b] pos) (eTst (eBin pyLt fa fb)) := qtCmp op_lt intCmp_calm intCmp_ok ha hb
theorem tLe (ha : QE C W m X a fa) (hb : QE C W m X b fb) : QT C W X (.Compare a [.LtE] [b] pos) (eTst (eBin pyLe fa fb)) := qtCmp op_le intCmp_calm intCmp_ok ha hb
theorem tGt (ha : QE C W m X a fa) (hb : QE C W m X b fb) : QT C W X (.Compare a [.Gt] [b] pos) (eTst (eBin pyGt fa fb)) := qtCmp op_gt intCmp_calm intCmp_ok ha hb
theorem tGe (ha : QE C W m X a fa) (hb : QE C W m X b fb) : QT C W X (.Compare a [.GtE] [b] pos) (eTst (eBin pyGe fa fb)) := qtCmp op_ge intCmp_calm intCmp_ok ha hb
theorem qEq (hK : X.K = C.G.K) (hu : X.A.units + 65 < cLine) (ha : QE C W m X a fa) (hb : QE C W m X b fb) : QE C W m X (.Compare a [.Eq] [b] pos) (eBin pyEq fa fb) := qCmp (op_eqAll (by omega)) calm_eq (by rw [hK]; exact eq_ok) ha hb
theorem qNe (hK : X.K = C.G.K) (hu : X.A.units + 65 < cLine) (ha : QE C W m X a fa) (hb : QE C W m X b fb) : QE C W m X (.Compare a [.NotEq] [b] pos) (eBin pyNe fa fb) := qCmp (op_neAll (by omega)) calm_ne (by rw [hK]; exact ne_ok) ha hb
theorem tEq (hK : X.K = C.G.K) (hu : X.A.units + 65 < cLine) (ha : QE C W m X a fa) (hb : QE C W m X b fb) : QT C W X (.Compare a [.Eq] [b] pos) (eTst (eBin pyEq fa fb)) := qtCmp (op_eqAll (by omega)) calm_eq (by rw [hK]; exact eq_ok) ha hb
theorem tNe (hK : X.K = C.G.K) (hu : X.A.units + 65 < cLine) (ha : QE C W m X a fa) (hb : QE C W m X b fb) : QT C W X (.Compare a [.NotEq] [b] pos) (eTst (eBin pyNe fa fb)) := qtCmp (op_neAll (by omega)) calm_ne (by rw [hK]; exact ne_ok) ha hb
theorem qIn (hK : X.K = C.G.K) (hu : X.A.units + 65 < cLine) (ha : QE C W m X a fa) (hb : QE C W m X b fb) (hm : behindInMarks .In b = false := by rfl) : QE C W m X (.Compare a [.In] [b] pos) (eBin (pyIn false) fa fb) := qCmp (op_inAll hu) calm_in (by rw [hK]; exact in_ok) ha hb hm
theorem qNotIn (hK : X.K = C.G.K) (hu : X.A.units + 65 < cLine) (ha : QE C W m X a fa) (hb : QE C W m X b fb) (hm : behindInMarks .NotIn b = false := by rfl) : QE C W m X (.Compare a [.NotIn] [b] pos) (eBin (pyIn true) fa fb) := qCmp (op_notInAll hu) calm_in (by rw [hK]; exact in_ok) ha hb hm
theorem tIn (hK : X.K = C.G.K) (hu : X.A.units + 65 < cLine) (ha : QE C W m X a fa) (hb : QE C W m X b fb) (hm : behindInMarks .In b = false := by rfl) : QT C W X (.Compare a [.In] [b] pos) (eTst (eBin (pyIn false) fa fb)) := qtCmp (op_inAll hu) calm_in (by rw [hK]; exact in_ok) ha hb hm
theorem tNotIn (hK : X.K = C.G.K) (hu : X.A.units + 65 < cLine) (ha : QE C W m X a fa) (hb : QE C W m X b fb) (hm : behindInMarks .NotIn b = false := by rfl) : QT C W X (.Compare a [.NotIn] [b] pos) (eTst (eBin (pyIn true) fa fb)) := qtCmp (op_notInAll hu) calm_in (by rw [hK]; exact in_ok) ha hb hm
/-! is None -/
def isN : PV → Bool
  | .non => true
  | _ => false
theorem isN_ok {G : Gc} {H : Hp} {p : PV} {v : V} (r : Rep G H p v) : decide (v = .non) = isN p := by
  cases p with
  | non => simp only [Rep] at r; subst r; rfl
  | bl b => simp only [Rep] at r; subst r; rfl
  | int b => simp only [Rep] at r; subst r; rfl
  | str b => simp only [Rep] at r; subst r; rfl
  | lst l => simp only [Rep] at r; obtain ⟨a, xs, h1, _⟩ := r; subst h1; rfl
  | scr l => simp only [Rep] at r; obtain ⟨a, xs, h1, _⟩ := r; subst h1; rfl
  | tup l => simp only [Rep] at r; obtain ⟨a, xs, h1, _⟩ := r; subst h1; rfl
  | ins c fs => simp only [Rep] at r; obtain ⟨a, dx, xs, h1, _⟩ := r; subst h1; rfl
def eIsN (f : Env → R PV) : Env → R PV := fun ρ => (f ρ).bind fun p => .ok (.bl (isN p))
def eNotN (f : Env → R PV) : Env → R PV := fun ρ => (f ρ).bind fun p => .ok (.bl (!isN p))
theorem isN_go {σ : L2.St} {H : Hp} {Q : VK} (g : Bool → Bool) (h : tE C W m (fun ρ => (fa ρ).bind fun p => .ok (.bl (g (isN p)))) σ H Q) : tE C W m fa σ H fun x H1 => Q (.bl (g (decide (x = .non)))) H1 := by
  rw [tE_iff] at h ⊢
  obtain ⟨H₀, F, ρ, S, h⟩ := h
  rw [Goes.bind] at h
  refine ⟨H₀, F, ρ, S, h.imp fun p _ h v H1 H₁ E1 r1 => ?_⟩
  rw [isN_ok r1]
  exact h _ H1 H₁ E1 (by simp only [Rep])
theorem qIsN {j pos'} (ha : QE C W m X a fa) : QE C W m X (.Compare a [.Is] [.Constant .none j pos'] pos) (eIsN fa) := PE.imp (pe_cmp (pc_isN ha)) fun σ H Q h => isN_go (fun b => b) h
theorem qNotN {j pos'} (ha : QE C W m X a fa) : QE C W m X (.Compare a [.IsNot] [.Constant .none j pos'] pos) (eNotN fa) := PE.imp (pe_cmp (pc_notN ha)) fun σ H Q h => isN_go (fun b => !b) h
theorem tst_isN {σ : L2.St} {H : Hp} {Q : Bool → Hp → Prop} (g : Bool → Bool) (h : tTt C W (eTst (fun ρ => (fa ρ).bind fun p => .ok (.bl (g (isN p))))) σ H Q) : tE C W m fa σ H fun x H1 => ∃ c, V.bl (g (decide (x = .non))) = .bl c ∧ Q c H1 :=
  isN_go (m := m) (Q := fun x H1 => ∃ c, x = .bl c ∧ Q c H1) g (tst_go h)
theorem tIsN {j pos'} (ha : QE C W m X a fa) : QT C W X (.Compare a [.Is] [.Constant .none j pos'] pos) (eTst (eIsN fa)) := PT.imp (pt_cmp (pc_isN ha)) fun σ H Q h => tst_isN (fun b => b) h
theorem tNotN {j pos'} (ha : QE C W m X a fa) : QT C W X (.Compare a [.IsNot] [.Constant .none j pos'] pos) (eTst (eNotN fa)) := PT.imp (pt_cmp (pc_notN ha)) fun σ H Q h => tst_isN (fun b => !b) h
/-! -x -/
def pyNeg : PV → R PV
  | .int i => .ok (.int (-i))
  | _ => .no
def eUn (g : PV → R PV) (f : Env → R PV) : Env → R PV := fun ρ => (f ρ).bind g
theorem qNeg (ha : QE C W m X a fa) : QE C W m X (.UnaryOp .USub a pos) (eUn pyNeg fa) := by
  refine PE.imp (pe_un un_neg ha) fun σ H Q h => ?_
  show tE C W m fa σ H fun x H1 => ∃ i, x = .int i ∧ Q (.int (-i)) H1
  rw [tE_iff] at h ⊢
  obtain ⟨H₀, F, ρ, S, h⟩ := h
  unfold eUn at h
  rw [Goes.bind] at h
  refine ⟨H₀, F, ρ, S, h.imp fun p _ h v H1 H₁ E1 r1 => ?_⟩
  cases p with
  | int i =>
    simp only [Rep] at r1
    exact ⟨i, r1, h _ H1 H₁ E1 (by simp only [Rep])⟩
  | _ => exact (show False from h).elim
end
end L3

end
section
/-! L3. 4: built-ins, slices, fields, isinstance -/
namespace L3
open PySem PySem.Spec PyProof.Rows L2
/-! ### built-ins by values -/
def OpC (Γ : Gc) (r : List V → Hp → VK → Prop) (g : List PV → R PV) : Prop := ∀ (m : Bool) (H₀ H : Hp) (F : List Addr) (ps : List PV) (z : PV) (vs : List V) (Q : VK), Same H₀ H → Reps Γ (md m H₀ H F) ps vs → g ps = .ok z →
  (∀ v H' H₀', Ext H₀ H H₀' H' → Rep Γ (md m H₀' H' F) z v → Q v H') → r vs H Q
def OpF (Γ : Gc) (r : List V → Hp → VK → Prop) (g : List PV → R OV) : Prop := ∀ (H₀ H : Hp) (ps : List PV) (o : OV) (vs : List V) (Q : VK), Same H₀ H → Reps Γ H₀ ps vs → g ps = .ok o →
  (∀ v H' H₀' Fv, Ext H₀ H H₀' H' → OwnR Γ H₀' H' o v Fv → Fv.Nodup → (∀ a ∈ Fv, H a = none ∧ H₀' a = none) → Q v H') → r vs H Q
def CalmC {α : Type} (g : List PV → R α) : Prop := ∀ ps x, g ps ≠ .er x
def eB (g : List PV → R PV) (fas : Env → R (List PV)) : Env → R PV := fun ρ => (fas ρ).bind g
def fB (g : List PV → R OV) (fas : Env → R (List PV)) : Env → R OV := fun ρ => (fas ρ).bind g
section
variable {C : Fc} {W : WX} {m : Bool} {X : Cx} {a b c e : Expr} {es : List Expr} {pos p : Pos} {x : Str} {fas : Env → R (List PV)} {fa : Env → R PV} {σ : L2.St} {H : Hp}
theorem opC_go {r : List V → Hp → VK → Prop} {g : List PV → R PV} (hg : CalmC g) (ho : OpC C.G r g) {Q : VK} (h : tE C W m (eB g fas) σ H Q) : tAs C W m fas σ H fun vs H1 => r vs H1 Q := by
  rw [tE_iff] at h
  rw [tA_iff]
  obtain ⟨H₀, F, ρ, S, h⟩ := h
  unfold eB at h
  rw [Goes.bind] at h
  refine ⟨H₀, F, ρ, S, h.imp fun ps _ h vs H1 H₁ E1 r1 => ?_⟩
  cases q : g ps with
  | ok z =>
    rw [q] at h
    exact ho m H₁ H1 F ps z vs Q E1.z r1 q fun v H2 H₂ E2 r2 => h v H2 H₂ (E1.trans E2) r2
  | er x => exact absurd q (hg ps x)
  | no =>
    rw [q] at h
    exact h.elim
theorem opF_go {r : List V → Hp → VK → Prop} {g : List PV → R OV} (hg : CalmC g) (ho : OpF C.G r g) {Q : VK} (h : tF C W (fB g fas) σ H Q) : tAs C W true fas σ H fun vs H1 => r vs H1 Q := by
  rw [tF_iff] at h
  rw [tA_iff]
  obtain ⟨H₀, F, ρ, S, h⟩ := h
  unfold fB at h
  rw [Goes.bind] at h
  refine ⟨H₀, F, ρ, S, h.imp fun ps _ h vs H1 H₁ E1 r1 => ?_⟩
  cases q : g ps with
  | ok z =>
    rw [q] at h
    exact ho H₁ H1 ps z vs Q E1.z r1 q fun v H2 H₂ Fv E2 r2 n2 f2 => h v H2 H₂ Fv (E1.trans E2) r2 n2 fun a ha => ⟨Same.free E1.s (f2 a ha).1, (f2 a ha).2⟩
  | er x => exact absurd q (hg ps x)
  | no =>
    rw [q] at h
    exact h.elim
theorem qB {id : String} {r : List V → Hp → VK → Prop} {g : List PV → R PV} (hc : CallR X (.builtin id) r) (hg : CalmC g) (ho : OpC C.G r g) (hm : X.mg x = none) (hv : bootBuiltins x = some (.builtin id)) (ha : QA C W m X (e :: es) fas)
    (hgl : Gl X x := by rfl) (hn : x ≠ "__name__" := by decide) (hdb : (x == ("__debug__" : Str)) = false := by decide) (he : starEach (e :: es) X.env = (false, eval e X.env) :: starEach es X.env := by rfl) (hpl : (backTo pos (starEach es X.env)).any (·.1) = false := by rfl) :
    QE C W m X (.Call (.Name x p) (e :: es) [] pos) (eB g fas) := PE.imp (pe_callB hc hgl hm hv ha hn hdb he hpl) fun σ H Q h => opC_go hg ho h
theorem qBty {id : String} {r : List V → Hp → VK → Prop} {g : List PV → R PV} (hc : CallR X (.type id) r) (hg : CalmC g) (ho : OpC C.G r g) (hm : X.mg x = none) (hv : bootBuiltins x = some (.type id)) (ha : QA C W m X (e :: es) fas)
    (hgl : Gl X x := by rfl) (hn : x ≠ "__name__" := by decide) (hdb : (x == ("__debug__" : Str)) = false := by decide) (he : starEach (e :: es) X.env = (false, eval e X.env) :: starEach es X.env := by rfl) (hpl : (backTo pos (starEach es X.env)).any (·.1) = false := by rfl) :
    QE C W m X (.Call (.Name x p) (e :: es) [] pos) (eB g fas) := PE.imp (pe_callTy hc hgl hm hv ha hn hdb he hpl) fun σ H Q h => opC_go hg ho h
theorem qFB {id : String} {r : List V → Hp → VK → Prop} {g : List PV → R OV} (hc : CallR X (.builtin id) r) (hg : CalmC g) (ho : OpF C.G r g) (hm : X.mg x = none) (hv : bootBuiltins x = some (.builtin id)) (ha : QA C W true X (e :: es) fas)
    (hgl : Gl X x := by rfl) (hn : x ≠ "__name__" := by decide) (hdb : (x == ("__debug__" : Str)) = false := by decide) (he : starEach (e :: es) X.env = (false, eval e X.env) :: starEach es X.env := by rfl) (hpl : (backTo pos (starEach es X.env)).any (·.1) = false := by rfl) :
    QF C W X (.Call (.Name x p) (e :: es) [] pos) (fB g fas) := PE.imp (pe_callB hc hgl hm hv ha hn hdb he hpl) fun σ H Q h => opF_go hg ho h
theorem qFBty {id : String} {r : List V → Hp → VK → Prop} {g : List PV → R OV} (hc : CallR X (.type id) r) (hg : CalmC g) (ho : OpF C.G r g) (hm : X.mg x = none) (hv : bootBuiltins x = some (.type id)) (ha : QA C W true X (e :: es) fas)
    (hgl : Gl X x := by rfl) (hn : x ≠ "__name__" := by decide) (hdb : (x == ("__debug__" : Str)) = false := by decide) (he : starEach (e :: es) X.env = (false, eval e X.env) :: starEach es X.env := by rfl) (hpl : (backTo pos (starEach es X.env)).any (·.1) = false := by rfl) :
    QF C W X (.Call (.Name x p) (e :: es) [] pos) (fB g fas) := PE.imp (pe_callTy hc hgl hm hv ha hn hdb he hpl) fun σ H Q h => opF_go hg ho h
end
/-! the functions -/
def bLen : List PV → R PV
  | [.lst l] => .ok (.int l.length)
  | [.scr l] => .ok (.int l.length)
  | [.tup l] => .ok (.int l.length)
  | [.str z] => if z.length ≤ sizeLine then .ok (.int z.length) else .no
  | _ => .no
def bAbs : List PV → R PV
  | [.int i] => .ok (.int (if i < 0 then -i else i))
  | _ => .no
def bInt : List PV → R PV
  | [.int i] => .ok (.int i)
  | [.bl b] => .ok (.int (if b then 1 else 0))
  | _ => .no
def bStr : List PV → R PV
  | [.int i] => if i.natAbs.log2 < 1920 then .ok (.str (toString i)) else .no
  | [.str s] => .ok (.str s)
  | _ => .no
def toInts : List PV → Option (List Int)
  | [] => some []
  | .int i :: r => (toInts r).map (i :: ·)
  | _ => none
def toBls : List PV → Option (List Bool)
  | [] => some []
  | .bl i :: r => (toBls r).map (i :: ·)
  | _ => none
def maxL : List Int → Int
  | [] => 0
  | [a] => a
  | a :: r => max a (maxL r)
def minL : List Int → Int
  | [] => 0
  | [a] => a
  | a :: r => min a (minL r)
def bMax : List PV → R PV
  | [.int i, .int j] => .ok (.int (if j > i then j else i))
  | [.lst l] => match toInts l with
    | some (n :: ns) => .ok (.int (maxL (n :: ns)))
    | _ => .no
  | _ => .no
def bMin : List PV → R PV
  | [.int i, .int j] => .ok (.int (if j < i then j else i))
  | [.lst l] => match toInts l with
    | some (n :: ns) => .ok (.int (minL (n :: ns)))
    | _ => .no
  | _ => .no
def bSum : List PV → R PV
  | [.lst l] => match toInts l with
    | some ns => .ok (.int ns.sum)
    | _ => .no
  | _ => .no
def bAll : List PV → R PV
  | [.lst l] => match toBls l with
    | some bs => .ok (.bl (bs.all id))
    | _ => .no
  | _ => .no
def bAny : List PV → R PV
  | [.lst l] => match toBls l with
    | some bs => .ok (.bl (bs.any id))
    | _ => .no
  | _ => .no
def bTuple : List PV → R PV
  | [.lst l] => .ok (.tup l)
  | [.tup l] => .ok (.tup l)
  | _ => .no
/-- a new list -/
def bList : List PV → R OV
  | [.lst l] => .ok (.own (l.map .sh))
  | [.tup l] => .ok (.own (l.map .sh))
  | _ => .no
section
variable {G : Gc} {X : Cx}
theorem R.not_er {α : Type} {P : Prop} [Decidable P] {a : α} {x : PX} : (if P then R.ok a else R.no) ≠ .er x := by
  split <;> (intro z; cases z)
theorem calm_len : CalmC bLen := fun ps x => by unfold bLen; split <;> first | exact R.not_er | (intro z; cases z)
theorem calm_abs : CalmC bAbs := fun ps x => by unfold bAbs; split <;> (intro z; cases z)
theorem calm_int : CalmC bInt := fun ps x => by unfold bInt; split <;> (intro z; cases z)
theorem calm_str : CalmC bStr := fun ps x => by unfold bStr; split <;> first | exact R.not_er | (intro z; cases z)
theorem calm_max : CalmC bMax := fun ps x => by unfold bMax; split <;> first | (intro z; cases z; done) | (split <;> (intro z; cases z))
theorem calm_min : CalmC bMin := fun ps x => by unfold bMin; split <;> first | (intro z; cases z; done) | (split <;> (intro z; cases z))
theorem calm_sum : CalmC bSum := fun ps x => by unfold bSum; split <;> first | (intro z; cases z; done) | (split <;> (intro z; cases z))
theorem calm_all : CalmC bAll := fun ps x => by unfold bAll; split <;> first | (intro z; cases z; done) | (split <;> (intro z; cases z))
theorem calm_any : CalmC bAny := fun ps x => by unfold bAny; split <;> first | (intro z; cases z; done) | (split <;> (intro z; cases z))
theorem calm_tuple : CalmC bTuple := fun ps x => by unfold bTuple; split <;> (intro z; cases z)
theorem calm_list : CalmC bList := fun ps x => by unfold bList; split <;> (intro z; cases z)
theorem reps1 {H : Hp} {p : PV} {vs : List V} (r : Reps G H [p] vs) : ∃ v, vs = [v] ∧ Rep G H p v := by
  simp only [Reps] at r
  obtain ⟨x, ys, h1, h2, h3⟩ := r
  subst h3
  exact ⟨x, h1, h2⟩
theorem reps2 {H : Hp} {p q : PV} {vs : List V} (r : Reps G H [p, q] vs) : ∃ v w, vs = [v, w] ∧ Rep G H p v ∧ Rep G H q w := by
  simp only [Reps] at r
  obtain ⟨x, ys, h1, h2, y, zs, h3, h4, h5⟩ := r
  subst h5 h3
  exact ⟨x, y, h1, h2, h4⟩
theorem ints_ok {H : Hp} : ∀ {l : List PV} {ns : List Int} {xs : List V}, Reps G H l xs → toInts l = some ns → xs = ns.map V.int
  | [], ns, xs, r, e => by simp only [Reps] at r; subst r; cases e; rfl
  | p :: ps, ns, xs, r, e => by
    simp only [Reps] at r
    obtain ⟨x, ys, h1, h2, h3⟩ := r
    subst h1
    cases p <;> try (cases e; done)
    rename_i i
    simp only [toInts] at e
    cases q : toInts ps with
    | none => rw [q] at e; cases e
    | some ms =>
      rw [q] at e
      cases e
      simp only [Rep] at h2
      rw [h2, ints_ok h3 q]
      rfl
theorem bls_ok {H : Hp} : ∀ {l : List PV} {ns : List Bool} {xs : List V}, Reps G H l xs → toBls l = some ns → xs = ns.map V.bl
  | [], ns, xs, r, e => by simp only [Reps] at r; subst r; cases e; rfl
  | p :: ps, ns, xs, r, e => by
    simp only [Reps] at r
    obtain ⟨x, ys, h1, h2, h3⟩ := r
    subst h1
    cases p <;> try (cases e; done)
    rename_i i
    simp only [toBls] at e
    cases q : toBls ps with
    | none => rw [q] at e; cases e
    | some ms =>
      rw [q] at e
      cases e
      simp only [Rep] at h2
      rw [h2, bls_ok h3 q]
      rfl
theorem maxL_is : ∀ (n : Int) (ns : List Int) (k : Int), k ∈ n :: ns → (∀ y, y ∈ n :: ns → y ≤ k) → k = maxL (n :: ns)
  | n, [], k, h, _ => by simpa [maxL] using h
  | n, a :: r, k, h, u => by
    show k = max n (maxL (a :: r))
    have mem : ∀ (a : Int) (r : List Int), maxL (a :: r) ∈ a :: r := by
      intro a r
      induction r generalizing a with
      | nil => simp [maxL]
      | cons b t ih =>
        show max a (maxL (b :: t)) ∈ _
        rcases Int.le_total a (maxL (b :: t)) with z | z
        · rw [Int.max_eq_right z]; exact List.mem_cons_of_mem _ (ih b)
        · rw [Int.max_eq_left z]; exact List.mem_cons_self
    have up : ∀ (a : Int) (r : List Int) (y : Int), y ∈ a :: r → y ≤ maxL (a :: r) := by
      intro a r
      induction r generalizing a with
      | nil => intro y hy; simp at hy; simp [maxL, hy]
      | cons b t ih =>
        intro y hy
        show y ≤ max a (maxL (b :: t))
        rcases List.mem_cons.mp hy with e | hy
        · omega
        · have := ih b y hy; omega
    have h1 := u n List.mem_cons_self
    have h2 := u _ (List.mem_cons_of_mem _ (mem a r))
    rcases List.mem_cons.mp h with e | hk
    · omega
    · have := up a r k hk; omega
theorem minL_is : ∀ (n : Int) (ns : List Int) (k : Int), k ∈ n :: ns → (∀ y, y ∈ n :: ns → k ≤ y) → k = minL (n :: ns)
  | n, [], k, h, _ => by simpa [minL] using h
  | n, a :: r, k, h, u => by
    show k = min n (minL (a :: r))
    have mem : ∀ (a : Int) (r : List Int), minL (a :: r) ∈ a :: r := by
      intro a r
      induction r generalizing a with
      | nil => simp [minL]
      | cons b t ih =>
        show min a (minL (b :: t)) ∈ _
        rcases Int.le_total a (minL (b :: t)) with z | z
        · rw [Int.min_eq_left z]; exact List.mem_cons_self
        · rw [Int.min_eq_right z]; exact List.mem_cons_of_mem _ (ih b)
    have up : ∀ (a : Int) (r : List Int) (y : Int), y ∈ a :: r → minL (a :: r) ≤ y := by
      intro a r
      induction r generalizing a with
      | nil => intro y hy; simp at hy; simp [minL, hy]
      | cons b t ih =>
        intro y hy
        show min a (minL (b :: t)) ≤ y
        rcases List.mem_cons.mp hy with e | hy
        · omega
        · have := ih b y hy; omega
    have h1 := u n List.mem_cons_self
    have h2 := u _ (List.mem_cons_of_mem _ (mem a r))
    rcases List.mem_cons.mp h with e | hk
    · omega
    · have := up a r k hk; omega
def rLenAll (K : PySem.W.Frag) : List V → Hp → VK → Prop := fun xs H Q => (∃ p ys, xs = [.ref p] ∧ (SqL K H p ys ∨ SqT K H p ys) ∧ Q (.int ys.length) H) ∨ ∃ z, xs = [.str z] ∧ z.length ≤ sizeLine ∧ Q (.int z.length) H
theorem cr_lenAll : CallR X (.builtin "len") (rLenAll X.K) := CallR.or call_len_seq call_len_str
theorem len_ok : OpC G (rLenAll G.K) bLen := by
  intro m H₀ H F ps z vs Q zz rs e k
  unfold bLen at e
  split at e
  · obtain ⟨v, e1, r⟩ := reps1 rs
    simp only [Rep] at r
    obtain ⟨a, xs, h1, h2, h3⟩ := r
    cases e
    subst h1
    refine .inl ⟨a, xs, e1, .inl (SqL.of (md_H zz _ _ h2)), ?_⟩
    rw [← h3.length]
    exact k _ H H₀ (Ext.refl zz) (by simp only [Rep])
  · obtain ⟨v, e1, r⟩ := reps1 rs
    simp only [Rep] at r
    obtain ⟨a, xs, h1, h2, h3⟩ := r
    cases e
    subst h1
    refine .inl ⟨a, xs, e1, .inl ((md_H zz).seq h2), ?_⟩
    rw [← h3.length]
    exact k _ H H₀ (Ext.refl zz) (by simp only [Rep])
  · obtain ⟨v, e1, r⟩ := reps1 rs
    simp only [Rep] at r
    obtain ⟨a, xs, h1, h2, h3⟩ := r
    cases e
    subst h1
    refine .inl ⟨a, xs, e1, .inr (Same.seqT (md_H zz) h2), ?_⟩
    rw [← h3.length]
    exact k _ H H₀ (Ext.refl zz) (by simp only [Rep])
  · obtain ⟨v, e1, r⟩ := reps1 rs
    simp only [Rep] at r
    split at e
    · rename_i hs
      cases e
      subst r
      exact .inr ⟨_, e1, hs, k _ H H₀ (Ext.refl zz) (by simp only [Rep])⟩
    · cases e
  · cases e
theorem abs_ok : OpC G (fun xs H Q => ∃ i, xs = [.int i] ∧ Q (.int (if i < 0 then -i else i)) H) bAbs := by
  intro m H₀ H F ps z vs Q zz rs e k
  unfold bAbs at e
  split at e
  · obtain ⟨v, e1, r⟩ := reps1 rs
    simp only [Rep] at r
    subst r
    cases e
    exact ⟨_, e1, k _ H H₀ (Ext.refl zz) (by simp only [Rep])⟩
  · cases e
theorem int_ok : OpC G (fun xs H Q => (∃ i, xs = [.int i] ∧ Q (.int i) H) ∨ ∃ k, xs = [.bl k] ∧ Q (.int (if k then 1 else 0)) H) bInt := by
  intro m H₀ H F ps z vs Q zz rs e k
  unfold bInt at e
  split at e
  · obtain ⟨v, e1, r⟩ := reps1 rs
    simp only [Rep] at r
    subst r
    cases e
    exact .inl ⟨_, e1, k _ H H₀ (Ext.refl zz) (by simp only [Rep])⟩
  · obtain ⟨v, e1, r⟩ := reps1 rs
    simp only [Rep] at r
    subst r
    cases e
    exact .inr ⟨_, e1, k _ H H₀ (Ext.refl zz) (by simp only [Rep])⟩
  · cases e
def rMaxAll (K : PySem.W.Frag) : List V → Hp → VK → Prop := fun xs H Q => (∃ i j, xs = [.int i, .int j] ∧ Q (.int (if j > i then j else i)) H) ∨ rMax K xs H Q
def rMinAll (K : PySem.W.Frag) : List V → Hp → VK → Prop := fun xs H Q => (∃ i j, xs = [.int i, .int j] ∧ Q (.int (if j < i then j else i)) H) ∨ rMin K xs H Q
theorem cr_maxAll (hc : X.calm = true) : CallR X (.builtin "max") (rMaxAll X.K) := CallR.or (call_max2 hc) (cr_max hc)
theorem cr_minAll (hc : X.calm = true) : CallR X (.builtin "min") (rMinAll X.K) := CallR.or (call_min2 hc) (cr_min hc)
theorem max_ok : OpC G (rMaxAll G.K) bMax := by
  intro m H₀ H F ps z vs Q zz rs e k
  unfold bMax at e
  split at e
  · obtain ⟨v, w, e1, r, r'⟩ := reps2 rs
    simp only [Rep] at r r'
    subst r r'
    cases e
    exact .inl ⟨_, _, e1, k _ H H₀ (Ext.refl zz) (by simp only [Rep])⟩
  · obtain ⟨v, e1, r⟩ := reps1 rs
    simp only [Rep] at r
    obtain ⟨a, xs, h1, h2, h3⟩ := r
    subst h1
    split at e
    · rename_i n ns hi
      cases e
      have ex := ints_ok h3 hi
      subst ex
      refine .inr ⟨a, n :: ns, e1, SqL.of (md_H zz _ _ h2), by simp, fun j hj hu => ?_⟩
      rw [maxL_is n ns j hj hu]
      exact k _ H H₀ (Ext.refl zz) (by simp only [Rep])
    · cases e
  · cases e
theorem min_ok : OpC G (rMinAll G.K) bMin := by
  intro m H₀ H F ps z vs Q zz rs e k
  unfold bMin at e
  split at e
  · obtain ⟨v, w, e1, r, r'⟩ := reps2 rs
    simp only [Rep] at r r'
    subst r r'
    cases e
    exact .inl ⟨_, _, e1, k _ H H₀ (Ext.refl zz) (by simp only [Rep])⟩
  · obtain ⟨v, e1, r⟩ := reps1 rs
    simp only [Rep] at r
    obtain ⟨a, xs, h1, h2, h3⟩ := r
    subst h1
    split at e
    · rename_i n ns hi
      cases e
      have ex := ints_ok h3 hi
      subst ex
      refine .inr ⟨a, n :: ns, e1, SqL.of (md_H zz _ _ h2), by simp, fun j hj hu => ?_⟩
      rw [minL_is n ns j hj hu]
      exact k _ H H₀ (Ext.refl zz) (by simp only [Rep])
    · cases e
  · cases e
theorem sum_ok : OpC G (rSum G.K) bSum := by
  intro m H₀ H F ps z vs Q zz rs e k
  unfold bSum at e
  split at e
  · obtain ⟨v, e1, r⟩ := reps1 rs
    simp only [Rep] at r
    obtain ⟨a, xs, h1, h2, h3⟩ := r
    subst h1
    split at e
    · rename_i ns hi
      cases e
      have ex := ints_ok h3 hi
      subst ex
      exact ⟨a, ns, e1, SqL.of (md_H zz _ _ h2), k _ H H₀ (Ext.refl zz) (by simp only [Rep])⟩
    · cases e
  · cases e
theorem all_ok : OpC G (rAll G.K) bAll := by
  intro m H₀ H F ps z vs Q zz rs e k
  unfold bAll at e
  split at e
  · obtain ⟨v, e1, r⟩ := reps1 rs
    simp only [Rep] at r
    obtain ⟨a, xs, h1, h2, h3⟩ := r
    subst h1
    split at e
    · rename_i ns hi
      cases e
      have ex := bls_ok h3 hi
      subst ex
      exact ⟨a, ns, e1, SqL.of (md_H zz _ _ h2), k _ H H₀ (Ext.refl zz) (by simp only [Rep])⟩
    · cases e
  · cases e
theorem any_ok : OpC G (rAny G.K) bAny := by
  intro m H₀ H F ps z vs Q zz rs e k
  unfold bAny at e
  split at e
  · obtain ⟨v, e1, r⟩ := reps1 rs
    simp only [Rep] at r
    obtain ⟨a, xs, h1, h2, h3⟩ := r
    subst h1
    split at e
    · rename_i ns hi
      cases e
      have ex := bls_ok h3 hi
      subst ex
      exact ⟨a, ns, e1, SqL.of (md_H zz _ _ h2), k _ H H₀ (Ext.refl zz) (by simp only [Rep])⟩
    · cases e
  · cases e
theorem tuple_ok : OpC G (fun xs H Q => ∃ p ys, xs = [.ref p] ∧ ((SqL G.K H p ys ∧ ∀ l, H l = none → Q (.ref l) (upd H l (.tup ys))) ∨ (SqT G.K H p ys ∧ Q (.ref p) H))) bTuple := by
  intro m H₀ H F ps z vs Q zz rs e k
  unfold bTuple at e
  split at e
  · obtain ⟨v, e1, r⟩ := reps1 rs
    simp only [Rep] at r
    obtain ⟨a, xs, h1, h2, h3⟩ := r
    subst h1
    cases e
    refine ⟨a, xs, e1, .inl ⟨SqL.of (md_H zz _ _ h2), fun l hl => ?_⟩⟩
    obtain ⟨E, rr⟩ := rep_tup_new (m := m) (F := F) zz hl h3
    exact k _ _ _ E rr
  · obtain ⟨v, e1, r⟩ := reps1 rs
    have r' := r
    simp only [Rep] at r
    obtain ⟨a, xs, h1, h2, h3⟩ := r
    subst h1
    cases e
    exact ⟨a, xs, e1, .inr ⟨Same.seqT (md_H zz) h2, k _ H H₀ (Ext.refl zz) r'⟩⟩
  · cases e
theorem list_ok : OpF G (fun xs H Q => ∃ p ys, xs = [.ref p] ∧ (SqL G.K H p ys ∨ SqT G.K H p ys) ∧ ∀ l, H l = none → Q (.ref l) (upd H l (.lst ys))) bList := by
  intro H₀ H ps o vs Q zz rs e k
  unfold bList at e
  have go : ∀ {l : List PV} {xs : List V} {p : Addr}, Reps G H₀ l xs → H p = none → o = .own (l.map .sh) → Q (.ref p) (upd H p (.lst xs)) := fun {l xs p} r hp eo => by
    subst eo
    have h0 : H₀ p = none := Same.free zz hp
    refine k (.ref p) (upd H p (.lst xs)) H₀ [p] ⟨fun b u q => ?_, Same.refl _, fun b u q => ?_, fun _ _ => rfl⟩ ?_ (by simp) fun a ha => ?_
    · rw [upd_ne fun z => by rw [z, hp] at q; cases q]; exact q
    · rw [upd_ne fun z => by rw [z, h0] at q; cases q]; exact zz b u q
    · simp only [OwnR]
      exact ⟨p, xs, [], rfl, rfl, upd_same, ownRs_sh (C := ⟨G, H, H, none, H⟩) r⟩
    · rw [List.mem_singleton.mp ha]; exact ⟨hp, h0⟩
  split at e
  · obtain ⟨v, e1, r⟩ := reps1 rs
    simp only [Rep] at r
    obtain ⟨a, xs, h1, h2, h3⟩ := r
    subst h1
    cases e
    exact ⟨a, xs, e1, .inl (SqL.of (zz _ _ h2)), fun l hl => go h3 hl rfl⟩
  · obtain ⟨v, e1, r⟩ := reps1 rs
    simp only [Rep] at r
    obtain ⟨a, xs, h1, h2, h3⟩ := r
    subst h1
    cases e
    exact ⟨a, xs, e1, .inr (Same.seqT zz h2), fun l hl => go h3 hl rfl⟩
  · cases e
theorem bt_len : bootBuiltins "len" = some (.builtin "len") := by decide +kernel
theorem bt_abs : bootBuiltins "abs" = some (.builtin "abs") := by decide +kernel
theorem bt_max : bootBuiltins "max" = some (.builtin "max") := by decide +kernel
theorem bt_min : bootBuiltins "min" = some (.builtin "min") := by decide +kernel
theorem bt_sum : bootBuiltins "sum" = some (.builtin "sum") := by decide +kernel
theorem bt_all : bootBuiltins "all" = some (.builtin "all") := by decide +kernel
theorem bt_any : bootBuiltins "any" = some (.builtin "any") := by decide +kernel
theorem bt_isi : bootBuiltins "isinstance" = some (.builtin "isinstance") := by decide +kernel
theorem bt_int : bootBuiltins "int" = some (.type "int") := by decide +kernel
theorem bt_bool : bootBuiltins "bool" = some (.type "bool") := by decide +kernel
theorem bt_str : bootBuiltins "str" = some (.type "str") := by decide +kernel
theorem bt_tuple : bootBuiltins "tuple" = some (.type "tuple") := by decide +kernel
theorem bt_list : bootBuiltins "list" = some (.type "list") := by decide +kernel
theorem bt_ve : bootBuiltins "ValueError" = some (.type "ValueError") := by decide +kernel
end
section
variable {C : Fc} {W : WX} {m : Bool} {X : Cx} {a b c e : Expr} {es : List Expr} {pos p p2 : Pos} {x : Str} {fas : Env → R (List PV)} {fa : Env → R PV}
theorem qLen (hK : X.K = C.G.K) (hm : X.mg "len" = none) (ha : QA C W m X [e] fas) (hgl : Gl X "len" := by rfl) (he : starEach (e :: []) X.env = (false, eval e X.env) :: starEach [] X.env := by rfl) : QE C W m X (.Call (.Name "len" p) [e] [] pos) (eB bLen fas) := qB cr_lenAll calm_len (by rw [hK]; exact len_ok) hm bt_len ha hgl (by decide) (by decide) he rfl
theorem qAbs (hm : X.mg "abs" = none) (ha : QA C W m X [e] fas) (hgl : Gl X "abs" := by rfl) (he : starEach (e :: []) X.env = (false, eval e X.env) :: starEach [] X.env := by rfl) : QE C W m X (.Call (.Name "abs" p) [e] [] pos) (eB bAbs fas) := qB call_abs calm_abs abs_ok hm bt_abs ha hgl (by decide) (by decide) he rfl
theorem qIntB (hm : X.mg "int" = none) (ha : QA C W m X [e] fas) (hgl : Gl X "int" := by rfl) (he : starEach (e :: []) X.env = (false, eval e X.env) :: starEach [] X.env := by rfl) : QE C W m X (.Call (.Name "int" p) [e] [] pos) (eB bInt fas) := qBty call_int1 calm_int int_ok hm bt_int ha hgl (by decide) (by decide) he rfl
theorem qMax (hK : X.K = C.G.K) (hc : X.calm = true) (hm : X.mg "max" = none) (ha : QA C W m X (e :: es) fas) (hgl : Gl X "max" := by rfl) (he : starEach (e :: es) X.env = (false, eval e X.env) :: starEach es X.env := by rfl) (hpl : (backTo pos (starEach es X.env)).any (·.1) = false := by rfl) : QE C W m X (.Call (.Name "max" p) (e :: es) [] pos) (eB bMax fas) :=
  qB (cr_maxAll hc) calm_max (by rw [hK]; exact max_ok) hm bt_max ha hgl (by decide) (by decide) he hpl
theorem qMin (hK : X.K = C.G.K) (hc : X.calm = true) (hm : X.mg "min" = none) (ha : QA C W m X (e :: es) fas) (hgl : Gl X "min" := by rfl) (he : starEach (e :: es) X.env = (false, eval e X.env) :: starEach es X.env := by rfl) (hpl : (backTo pos (starEach es X.env)).any (·.1) = false := by rfl) : QE C W m X (.Call (.Name "min" p) (e :: es) [] pos) (eB bMin fas) :=
  qB (cr_minAll hc) calm_min (by rw [hK]; exact min_ok) hm bt_min ha hgl (by decide) (by decide) he hpl
theorem qSum (hK : X.K = C.G.K) (hc : X.calm = true) (hm : X.mg "sum" = none) (ha : QA C W m X [e] fas) (hgl : Gl X "sum" := by rfl) (he : starEach (e :: []) X.env = (false, eval e X.env) :: starEach [] X.env := by rfl) : QE C W m X (.Call (.Name "sum" p) [e] [] pos) (eB bSum fas) := qB (cr_sum hc) calm_sum (by rw [hK]; exact sum_ok) hm bt_sum ha hgl (by decide) (by decide) he rfl
theorem qAll (hK : X.K = C.G.K) (hc : X.calm = true) (hm : X.mg "all" = none) (ha : QA C W m X [e] fas) (hgl : Gl X "all" := by rfl) (he : starEach (e :: []) X.env = (false, eval e X.env) :: starEach [] X.env := by rfl) : QE C W m X (.Call (.Name "all" p) [e] [] pos) (eB bAll fas) := qB (cr_all hc) calm_all (by rw [hK]; exact all_ok) hm bt_all ha hgl (by decide) (by decide) he rfl
theorem qAny (hK : X.K = C.G.K) (hc : X.calm = true) (hm : X.mg "any" = none) (ha : QA C W m X [e] fas) (hgl : Gl X "any" := by rfl) (he : starEach (e :: []) X.env = (false, eval e X.env) :: starEach [] X.env := by rfl) : QE C W m X (.Call (.Name "any" p) [e] [] pos) (eB bAny fas) := qB (cr_any hc) calm_any (by rw [hK]; exact any_ok) hm bt_any ha hgl (by decide) (by decide) he rfl
theorem qTuple (hK : X.K = C.G.K) (hm : X.mg "tuple" = none) (ha : QA C W m X [e] fas) (hgl : Gl X "tuple" := by rfl) (he : starEach (e :: []) X.env = (false, eval e X.env) :: starEach [] X.env := by rfl) : QE C W m X (.Call (.Name "tuple" p) [e] [] pos) (eB bTuple fas) := qBty call_tuple_of calm_tuple (by rw [hK]; exact tuple_ok) hm bt_tuple ha hgl (by decide) (by decide) he rfl
theorem qList (hK : X.K = C.G.K) (hm : X.mg "list" = none) (ha : QA C W true X [e] fas) (hgl : Gl X "list" := by rfl) (he : starEach (e :: []) X.env = (false, eval e X.env) :: starEach [] X.env := by rfl) : QF C W X (.Call (.Name "list" p) [e] [] pos) (fB bList fas) := qFBty call_list_of calm_list (by rw [hK]; exact list_ok) hm bt_list ha hgl (by decide) (by decide) he rfl
/-! ### slices -/
def tOp3 (C : Fc) (W : WX) (m : Bool) (f : Env → R (Option Int)) : L2.TO := fun σ H Q => ∃ H₀ F ρ, SR C H₀ F ρ σ H ∧ Goes C.G W (f ρ) σ H H₀ fun i => ∀ H' H₀', Ext H₀ H H₀' H' → Q i H'
abbrev QO (C : Fc) (W : WX) (m : Bool) (X : Cx) (e : Option Expr) (f : Env → R (Option Int)) : Prop := PO X e (tOp3 C W m f)
def oNone : Env → R (Option Int) := fun _ => .ok none
def oSome (f : Env → R PV) : Env → R (Option Int) := fun ρ => (f ρ).bind fun p => match p with
  | .int i => .ok (some i)
  | _ => .no
theorem PO.imp {X : Cx} {e : Option Expr} {t t' : L2.TO} (h : PO X e t) (k : ∀ σ H Q, t' σ H Q → t σ H Q) : PO X e t' := ⟨fun pins s σ H Q I q => h.run pins s σ H Q I (k _ _ _ q)⟩
theorem qoNone : QO C W m X none oNone := PO.imp po_none fun σ H Q ⟨H₀, F, ρ, S, h⟩ => h H H₀ (Ext.refl S.z)
theorem qoSome (ha : QE C W m X e fa) : QO C W m X (some e) (oSome fa) := by
  refine PO.imp (po_some ha) fun σ H Q h => ?_
  show tE C W m fa σ H fun x H1 => ∃ i, x = .int i ∧ Q (some i) H1
  rw [tE_iff]
  obtain ⟨H₀, F, ρ, S, h⟩ := h
  unfold oSome at h
  rw [Goes.bind] at h
  refine ⟨H₀, F, ρ, S, h.imp fun p _ h v H1 H₁ E1 r1 => ?_⟩
  cases p with
  | int i =>
    simp only [Rep] at r1
    exact ⟨i, r1, h H1 H₁ E1⟩
  | _ => exact (show False from h).elim
def slR (p : PV) (lo hi : Option Int) : R PV := match p with
  | .str z => if z.length ≤ sizeLine then .ok (.str (cutS z lo hi)) else .no
  | .tup l => if HT.sIx l.length 0 lo = 0 ∧ HT.sIx l.length l.length hi = l.length then .no else .ok (.tup (cutVP l lo hi))
  | .lst l => .ok (.lst (cutVP l lo hi))
  | _ => .no
where cutVP (xs : List PV) (lo hi : Option Int) : List PV := (xs.drop (HT.sIx xs.length 0 lo)).take (HT.sIx xs.length xs.length hi - HT.sIx xs.length 0 lo)
def eSl (f : Env → R PV) (l h : Env → R (Option Int)) : Env → R PV := fun ρ => (f ρ).bind fun p => (l ρ).bind fun lo => (h ρ).bind fun hi => slR p lo hi
def rSlAll (K : PySem.W.Frag) : V → Option Int → Option Int → Hp → VK → Prop := fun x lo hi H Q => rSlL K x lo hi H Q ∨ rSlT K x lo hi H Q ∨ rSlS x lo hi H Q
theorem sl_all {X : Cx} : L2.SlR X (rSlAll X.K) := by
  intro pins s σ H x v vl vu lo hi sl Q I rx hs pl pu h
  rcases h with h | h | h
  · exact sl_list pins s σ H x v vl vu lo hi sl Q I rx hs pl pu h
  · exact sl_tup pins s σ H x v vl vu lo hi sl Q I rx hs pl pu h
  · exact sl_str pins s σ H x v vl vu lo hi sl Q I rx hs pl pu h
theorem cut_ok {G : Gc} {H : Hp} {l : List PV} {xs : List V} (r : Reps G H l xs) (lo hi : Option Int) : Reps G H (slR.cutVP l lo hi) (cutV xs lo hi) := by
  unfold slR.cutVP cutV
  rw [r.length]
  exact (r.drop _).take _
theorem slR_ok {G : Gc} {H₀ H : Hp} {F : List Addr} {p z : PV} {v : V} {lo hi : Option Int} {Q : VK} (zz : Same H₀ H) (r : Rep G (md m H₀ H F) p v) (e : slR p lo hi = .ok z) (k : ∀ v H' H₀', Ext H₀ H H₀' H' → Rep G (md m H₀' H' F) z v → Q v H') :
    rSlAll G.K v lo hi H Q := by
  unfold slR at e
  split at e
  · simp only [Rep] at r
    split at e
    · rename_i hs
      cases e
      exact .inr (.inr ⟨_, r, hs, k _ H H₀ (Ext.refl zz) (by simp only [Rep])⟩)
    · cases e
  · simp only [Rep] at r
    obtain ⟨a, xs, h1, h2, h3⟩ := r
    split at e
    · cases e
    · rename_i hs
      cases e
      refine .inr (.inl ⟨a, xs, h1, Same.seqT (md_H zz) h2, by rw [← h3.length]; exact hs, fun q hq => ?_⟩)
      obtain ⟨E, rr⟩ := rep_tup_new (m := m) (F := F) zz hq (cut_ok h3 lo hi)
      exact k _ _ _ E rr
  · simp only [Rep] at r
    obtain ⟨a, xs, h1, h2, h3⟩ := r
    cases e
    refine .inl ⟨a, xs, h1, SqL.of (md_H zz _ _ h2), fun q hq => ?_⟩
    obtain ⟨E, rr⟩ := rep_lst_new (m := m) (F := F) zz hq (cut_ok h3 lo hi)
    exact k _ _ _ E rr
  · cases e
theorem qSl {lo hi : Option Expr} {fl fh : Env → R (Option Int)} (hK : X.K = C.G.K) (ha : QE C W m X a fa) (hl : QO C W m X lo fl) (hh : QO C W m X hi fh) : QE C W m X (.Subscript a (.Slice lo hi none p2) pos) (eSl fa fl fh) := by
  refine PE.imp (pe_slice sl_all ha hl hh) fun σ H Q h => ?_
  show tE C W m fa σ H fun x H1 => tOp3 C W m fl σ H1 fun l H2 => tOp3 C W m fh σ H2 fun u H3 => rSlAll X.K x l u H3 Q
  rw [tE_iff] at h ⊢
  obtain ⟨H₀, F, ρ, S, h⟩ := h
  unfold eSl at h
  rw [Goes.bind] at h
  refine ⟨H₀, F, ρ, S, h.imp fun p _ h v H1 H₁ E1 r1 => ?_⟩
  rw [Goes.bind] at h
  refine ⟨H₁, F, ρ, S.ext E1, (h.later E1).imp fun lo _ h H2 H₂ E2 => ?_⟩
  rw [Goes.bind] at h
  refine ⟨H₂, F, ρ, (S.ext E1).ext E2, (h.later (E1.trans E2)).imp fun hi _ h H3 H₃ E3 => ?_⟩
  have E := (E1.trans E2).trans E3
  cases q : slR p lo hi with
  | ok z =>
    rw [q] at h
    rw [hK]
    exact slR_ok (m := m) (F := F) E3.z (Rep.mono ((md_ext E2).trans (md_ext E3)) r1) q fun w H' H₀' E4 r4 => h w H' H₀' (E.trans E4) r4
  | er x =>
    exfalso
    revert q
    unfold slR
    split <;> first | (intro z; cases z; done) | (split <;> (intro z; cases z))
  | no =>
    rw [q] at h
    exact h.elim
/-! ### fields -/
def eFld (f : Str) (ok : Nat → Bool) (fa : Env → R PV) : Env → R PV := fun ρ => (fa ρ).bind fun p => match p with
  | .ins c fs => if ok c then R.of (fs.lookup f) else .no
  | _ => .no
theorem qFld {f : Str} {ok : Nat → Bool} (hK : X.K = C.G.K) (T : ∀ c, ok c = true → Cls C.G.K (C.G.CA c) ∧ NoAttr C.G.K (C.G.CA c) f) (ha : QE C W m X a fa) (hb : attributeBase a f X.env (eval a X.env) = eval a X.env := by rfl) :
    QE C W m X (.Attribute a f pos) (eFld f ok fa) := by
  refine PE.imp (pe_fld ha hb) fun σ H Q h => ?_
  show tE C W m fa σ H fun x H1 => ∃ a C dx fs v, x = .ref a ∧ H1 a = some (.ins C dx fs) ∧ Cls X.K C ∧ NoAttr X.K C f ∧ fs.lookup f = some v ∧ Q v H1
  rw [tE_iff] at h ⊢
  obtain ⟨H₀, F, ρ, S, h⟩ := h
  unfold eFld at h
  rw [Goes.bind] at h
  refine ⟨H₀, F, ρ, S, h.imp fun p _ h v H1 H₁ E1 r1 => ?_⟩
  cases p with
  | ins c fs =>
    simp only [Rep] at r1
    obtain ⟨a, dx, vs, h1, h2, h3⟩ := r1
    by_cases hc : ok c = true
    · simp only [hc, if_true] at h
      cases q : fs.lookup f with
      | none => rw [q] at h; exact h.elim
      | some w =>
        rw [q] at h
        obtain ⟨u, e1, e2⟩ := h3.get q
        obtain ⟨t1, t2⟩ := T c hc
        rw [hK]
        exact ⟨a, _, dx, vs, u, h1, md_H E1.z _ _ h2, t1, t2, e1, h u H1 H₁ E1 e2⟩
    · simp only [hc, if_false] at h
      exact h.elim
  | _ => exact (show False from h).elim
/-! ### isinstance -/
def isiP (tb : String → Option Bool) (ib : Nat → Option Bool) : PV → R PV := fun p => R.of ((match p with
  | .non => tb "NoneType"
  | .bl _ => tb "bool"
  | .int _ => tb "int"
  | .str _ => tb "str"
  | .lst _ => tb "list"
  | .tup _ => tb "tuple"
  | .ins c _ => ib c
  | .scr _ => none).map PV.bl)
/-- what the own class at A must have for its instances' isinstance -/
structure IsC (K : PySem.W.Frag) (A : Addr) : Prop where
  cl : Cls K A
  ha : PySem.W.findIn K (.ref A) "__class__" = some (some (.builtin "object.__class__"))
  hn : PySem.W.specialIn K (.builtin "object.__class__") "__get__" = some (some (.builtin "getset_descriptor.__get__"))
  ht : PySem.W.takesIn K (.builtin "object.__class__") = some true
  hm : PySem.W.mroIn K A (.type "object") = some true
def eIsi (tb : String → Option Bool) (ib : Nat → Option Bool) (fa : Env → R PV) : Env → R PV := eUn (isiP tb ib) fa
theorem tup_ty {K : PySem.W.Frag} {H : Hp} {t : Addr} {xs : List V} (h : SqT K H t xs) : TyX K H (.ref t) (.type "tuple") := by
  rcases h with (h | ⟨o, h⟩) | ⟨o, its, n, h, hc, _⟩
  · exact .base (.tup h)
  · exact .fTuple h
  · exact .kTuple h hc
theorem isi_go {tb : String → Option Bool} {ib : Nat → Option Bool} {cv : V} {u : Value} (hcl : ClsV cv u) (ht : ∀ t b, tb t = some b → PySem.W.kitOne C.G.K (.type t) u = some b) (hi : ∀ c b, ib c = some b → IsC C.G.K (C.G.CA c) ∧ PySem.W.kitOne C.G.K (.ref (C.G.CA c)) u = some b)
    {σ : L2.St} {H : Hp} {Q : VK} (h : tE C W m (eIsi tb ib fa) σ H Q) : tE C W m fa σ H fun x H1 => rIsi C.G.K [x, cv] H1 Q := by
  rw [tE_iff] at h ⊢
  obtain ⟨H₀, F, ρ, S, h⟩ := h
  unfold eIsi eUn at h
  rw [Goes.bind] at h
  refine ⟨H₀, F, ρ, S, h.imp fun p _ h v H1 H₁ E1 r1 => ?_⟩
  have r2 := rep_up E1.z r1
  have fin : ∀ {b : Bool} {t : Value}, TyX C.G.K H1 v t → PySem.W.kitOne C.G.K t u = some b → Goes C.G W (R.of ((some b).map PV.bl)) σ H H₀ (fun p => ∀ v H' H₀', Ext H₀ H H₀' H' → Rep C.G (md m H₀' H' F) p v → Q v H') → rIsi C.G.K [v, cv] H1 Q :=
    fun {b t} ty ki g => ⟨v, cv, t, u, b, rfl, hcl, ty, ki, g (.bl b) H1 H₁ E1 (by simp only [Rep])⟩
  unfold isiP at h
  cases p with
  | non => simp only [Rep] at r2; subst r2; cases q : tb "NoneType" with
    | none => simp only [q, Option.map_none] at h; exact h.elim
    | some b => simp only [q] at h; exact fin (.base .non) (ht _ _ q) h
  | bl b => simp only [Rep] at r2; subst r2; cases q : tb "bool" with
    | none => simp only [q, Option.map_none] at h; exact h.elim
    | some b => simp only [q] at h; exact fin (.base (.bl _)) (ht _ _ q) h
  | int b => simp only [Rep] at r2; subst r2; cases q : tb "int" with
    | none => simp only [q, Option.map_none] at h; exact h.elim
    | some b => simp only [q] at h; exact fin (.base (.int _)) (ht _ _ q) h
  | str b => simp only [Rep] at r2; subst r2; cases q : tb "str" with
    | none => simp only [q, Option.map_none] at h; exact h.elim
    | some b => simp only [q] at h; exact fin (.base (.str _)) (ht _ _ q) h
  | lst l => simp only [Rep] at r2; obtain ⟨a, xs, h1, h2, h3⟩ := r2; subst h1; cases q : tb "list" with
    | none => simp only [q, Option.map_none] at h; exact h.elim
    | some b => simp only [q] at h; exact fin (.base (.lst h2)) (ht _ _ q) h
  | scr l => exact h.elim
  | tup l => simp only [Rep] at r2; obtain ⟨a, xs, h1, h2, h3⟩ := r2; subst h1; cases q : tb "tuple" with
    | none => simp only [q, Option.map_none] at h; exact h.elim
    | some b => simp only [q] at h; exact fin (tup_ty h2) (ht _ _ q) h
  | ins c fs => simp only [Rep] at r2; obtain ⟨a, dx, xs, h1, h2, h3⟩ := r2; subst h1; cases q : ib c with
    | none => simp only [q, Option.map_none] at h; exact h.elim
    | some b =>
      simp only [q] at h
      obtain ⟨I, ki⟩ := hi c b q
      exact fin (.base (.ins h2 I.cl I.ha I.hn I.ht I.hm)) ki h
/-- isinstance(a, T), T a built-in class -/
theorem qIsiT {T : Str} {t : String} {tb : String → Option Bool} {ib : Nat → Option Bool} (hK : X.K = C.G.K) (hm : X.mg "isinstance" = none) (hT : X.mg T = none) (hv : bootBuiltins T = some (.type t)) (ht : ∀ s b, tb s = some b → kitB s t = some b)
    (hi : ∀ c b, ib c = some b → IsC C.G.K (C.G.CA c) ∧ PySem.W.kitOne C.G.K (.ref (C.G.CA c)) (.type t) = some b) (ha : QE C W m X a fa) (hgl : Gl X "isinstance" := by rfl) (hgT : Gl X T := by rfl) (hn : T ≠ "__name__" := by decide) (hd : (T == ("__debug__" : Str)) = false := by decide)
    (h1 : starEach (a :: [.Name T p2]) X.env = (false, eval a X.env) :: starEach [.Name T p2] X.env := by rfl) (h2 : starEach (.Name T p2 :: []) X.env = (false, eval (.Name T p2) X.env) :: starEach [] X.env := by rfl) (h3 : (backTo pos (starEach [.Name T p2] X.env)).any (·.1) = false := by rfl) :
    QE C W m X (.Call (.Name "isinstance" p) [a, .Name T p2] [] pos) (eIsi tb ib fa) := by
  refine PE.imp (pe_callB call_isi hgl hm bt_isi (pa_cons ha (pa_cons (pe_bltn (v := .ty t) hgT hT hv rfl hn hd) pa_nil h2) h1) (by decide) (by decide) h1 h3) fun σ H Q h => ?_
  rw [hK]
  exact isi_go (C := C) (.ty t) (fun s b q => kit_ty (ht s b q)) hi h
/-- .. T an own class -/
theorem qIsiC {T : Str} {A : Addr} {tb : String → Option Bool} {ib : Nat → Option Bool} (hK : X.K = C.G.K) (hm : X.mg "isinstance" = none) (hT : X.mg T = some (.ref A)) (ht : ∀ s b, tb s = some b → PySem.W.kitOne C.G.K (.type s) (.ref A) = some b)
    (hi : ∀ c b, ib c = some b → IsC C.G.K (C.G.CA c) ∧ PySem.W.kitOne C.G.K (.ref (C.G.CA c)) (.ref A) = some b) (ha : QE C W m X a fa) (hgl : Gl X "isinstance" := by rfl) (hgT : Gl X T := by rfl) (hd : (T == ("__debug__" : Str)) = false := by decide)
    (h1 : starEach (a :: [.Name T p2]) X.env = (false, eval a X.env) :: starEach [.Name T p2] X.env := by rfl) (h2 : starEach (.Name T p2 :: []) X.env = (false, eval (.Name T p2) X.env) :: starEach [] X.env := by rfl) (h3 : (backTo pos (starEach [.Name T p2] X.env)).any (·.1) = false := by rfl) :
    QE C W m X (.Call (.Name "isinstance" p) [a, .Name T p2] [] pos) (eIsi tb ib fa) := by
  refine PE.imp (pe_callB call_isi hgl hm bt_isi (pa_cons ha (pa_cons (pe_glob (v := .ref A) hgT hT rfl hd) pa_nil h2) h1) (by decide) (by decide) h1 h3) fun σ H Q h => ?_
  rw [hK]
  exact isi_go (C := C) (.own A) ht hi h
end
end L3

end
section
/-! L3. 5: what is walked, targets, comprehensions -/
namespace L3
open PySem PySem.Spec PyProof.Rows L2
/-! ### what is walked -/
structure ItP (Γ : Gc) (J : It) (Hv : Hp) (ps : List PV) : Prop where
  stop : ∀ i H, Same Hv H → ps.length ≤ i → J.stop i H
  go : ∀ i H p, Same Hv H → ps[i]? = some p → J.go i H ∧ ∀ x H', J.yld i H x H' → H' = H ∧ Rep Γ Hv p x
def tI (C : Fc) (W : WX) (m : Bool) (f : Env → R (List PV)) : TI := fun σ H Rr => ∃ H₀ F ρ, SR C H₀ F ρ σ H ∧ Goes C.G W (f ρ) σ H H₀ fun ps => ∀ J H' H₀', Ext H₀ H H₀' H' → ItP C.G J (md m H₀' H' F) ps → Rr J H'
abbrev QI (C : Fc) (W : WX) (m : Bool) (X : Cx) (tg e : Expr) (f : Env → R (List PV)) : Prop := PI X tg e (tI C W m f)
theorem PI.imp {X : Cx} {tg e : Expr} {t t' : TI} (h : PI X tg e t) (k : ∀ σ H Q, t' σ H Q → t σ H Q) : PI X tg e t' := ⟨fun pins s σ H Q I q => h.run pins s σ H Q I (k _ _ _ q)⟩
theorem PI.or {X : Cx} {tg e : Expr} {t t' : TI} (h : PI X tg e t) (h' : PI X tg e t') : PI X tg e (fun σ H Q => t σ H Q ∨ t' σ H Q) := ⟨fun pins s σ H Q I q => q.elim (h.run pins s σ H Q I) (h'.run pins s σ H Q I)⟩
def seqR : PV → R (List PV)
  | .lst l => .ok l
  | .scr l => .ok l
  | .tup l => .ok l
  | .str z => .ok (z.cps.toList.map fun c => .str ⟨#[c]⟩)
  | _ => .no
def iSeq (f : Env → R PV) : Env → R (List PV) := fun ρ => (f ρ).bind seqR
section
variable {C : Fc} {W : WX} {m : Bool} {X : Cx} {tg a b e : Expr} {es : List Expr} {pos p : Pos} {fa fb : Env → R PV} {fas : Env → R (List PV)} {σ : L2.St} {H H₀ : Hp} {F : List Addr} {ρ : Env}
theorem rep_of_get {G : Gc} {Hv : Hp} {l : List PV} {xs : List V} {i : Nat} {x : V} (r : Reps G Hv l xs) {p : PV} (e : l[i]? = some p) (ex : xs[i]? = some x) : Rep G Hv p x := by
  obtain ⟨v, e1, e2⟩ := r.get e
  rw [ex] at e1
  cases e1
  exact e2
theorem itp_list {G : Gc} {Hv : Hp} {a : Addr} {l : List PV} {xs : List V} (h : SqL G.K Hv a xs) (r : Reps G Hv l xs) : ItP G (Itl G.K a) Hv l := by
  refine ⟨fun i H s hi => ⟨xs, s.seq h, by rw [← r.length]; exact hi⟩, fun i H p s e => ?_⟩
  obtain ⟨v, e1, e2⟩ := r.get e
  exact ⟨⟨xs, v, s.seq h, e1⟩, fun x H' y => ⟨y.1, rep_of_get r e (y.2 xs (s.seq h))⟩⟩
theorem itp_tup {G : Gc} {Hv : Hp} {a : Addr} {l : List PV} {xs : List V} (h : SqT G.K Hv a xs) (r : Reps G Hv l xs) : ItP G (Itt G.K a) Hv l := by
  refine ⟨fun i H s hi => ⟨xs, Same.seqT s h, by rw [← r.length]; exact hi⟩, fun i H p s e => ?_⟩
  obtain ⟨v, e1, e2⟩ := r.get e
  exact ⟨⟨xs, v, Same.seqT s h, e1⟩, fun x H' y => ⟨y.1, rep_of_get r e (y.2 xs (Same.seqT s h))⟩⟩
theorem itp_str {G : Gc} {Hv : Hp} {z : Str} : ItP G (Its z) Hv (z.cps.toList.map fun c => .str ⟨#[c]⟩) := by
  refine ⟨fun i H s hi => by simpa [Its] using hi, fun i H p s e => ?_⟩
  rw [List.getElem?_map] at e
  cases q : z.cps.toList[i]? with
  | none => rw [q] at e; cases e
  | some c =>
    rw [q] at e
    cases e
    have q' : z.cps[i]? = some c := by simpa using q
    refine ⟨(Array.getElem?_eq_some_iff.mp q').1, fun x H' y => ⟨y.1, ?_⟩⟩
    obtain ⟨c', h1, h2⟩ := y.2
    rw [q'] at h1
    cases h1
    simp only [Rep]
    exact h2
theorem qiSeq (hK : X.K = C.G.K) (ha : QE C W m X a fa) : QI C W m X tg a (iSeq fa) := by
  refine PI.imp (PI.or (pi_list ha) (PI.or (pi_tup ha) (pi_str ha))) fun σ H Q h => ?_
  obtain ⟨H₀, F, ρ, S, h⟩ := h
  unfold iSeq at h
  rw [Goes.bind] at h
  have key : ∀ (R1 : VK), (∀ p, fa ρ = .ok p → Goes C.G W (seqR p) σ H H₀ (fun ps => ∀ J H' H₀', Ext H₀ H H₀' H' → ItP C.G J (md m H₀' H' F) ps → Q J H') → ∀ v H1 H₁, Ext H₀ H H₁ H1 → Rep C.G (md m H₁ H1 F) p v → R1 v H1) → tE C W m fa σ H R1 := by
    intro R1 k
    rw [tE_iff]
    exact ⟨H₀, F, ρ, S, h.imp fun p e g v H1 H₁ E1 r1 => k p e g v H1 H₁ E1 r1⟩
  cases q : fa ρ with
  | er x =>
    refine .inl (key _ fun p e => ?_)
    rw [q] at e
    cases e
  | no =>
    rw [q] at h
    exact h.elim
  | ok p =>
    cases p with
    | lst l =>
      refine .inl (key _ fun p e g v H1 H₁ E1 r1 => ?_)
      rw [q] at e
      cases e
      simp only [Rep] at r1
      obtain ⟨a', xs, h1, h2, h3⟩ := r1
      subst h1
      rw [hK]
      exact ⟨a', rfl, ⟨xs, SqL.of (md_H E1.z _ _ h2)⟩, g _ H1 H₁ E1 (itp_list (SqL.of h2) h3)⟩
    | scr l =>
      refine .inl (key _ fun p e g v H1 H₁ E1 r1 => ?_)
      rw [q] at e
      cases e
      simp only [Rep] at r1
      obtain ⟨a', xs, h1, h2, h3⟩ := r1
      subst h1
      rw [hK]
      exact ⟨a', rfl, ⟨xs, (md_H E1.z).seq h2⟩, g _ H1 H₁ E1 (itp_list h2 h3)⟩
    | tup l =>
      refine .inr (.inl (key _ fun p e g v H1 H₁ E1 r1 => ?_))
      rw [q] at e
      cases e
      simp only [Rep] at r1
      obtain ⟨a', xs, h1, h2, h3⟩ := r1
      subst h1
      rw [hK]
      exact ⟨a', rfl, ⟨xs, Same.seqT (md_H E1.z) h2⟩, g _ H1 H₁ E1 (itp_tup h2 h3)⟩
    | str z =>
      refine .inr (.inr (key _ fun p e g v H1 H₁ E1 r1 => ?_))
      rw [q] at e
      cases e
      simp only [Rep] at r1
      exact ⟨z, r1, g _ H1 H₁ E1 itp_str⟩
    | non => rw [q] at h; exact h.elim
    | bl b => rw [q] at h; exact h.elim
    | int b => rw [q] at h; exact h.elim
    | ins c fs => rw [q] at h; exact h.elim
/-- numbers in a row -/
def rngP (lo : Int) (n : Nat) : List PV := (List.range n).map fun (i : Nat) => .int (lo + (i : Int))
theorem itp_rng {G : Gc} {Hv : Hp} {lo : Int} {n : Nat} : ItP G (Itr lo n) Hv (rngP lo n) := by
  refine ⟨fun i H s hi => ?_, fun i H p s e => ?_⟩
  · have hl : (rngP lo n).length = n := by simp [rngP]
    show n ≤ i
    omega
  unfold rngP at e
  rw [List.getElem?_map] at e
  cases q : (List.range n)[i]? with
  | none => rw [q] at e; cases e
  | some j =>
    rw [q] at e
    cases e
    obtain ⟨hl, hj⟩ := List.getElem?_eq_some_iff.mp q
    rw [List.length_range] at hl
    rw [List.getElem_range] at hj
    subst hj
    exact ⟨hl, fun x H' y => ⟨y.1, by simp only [Rep]; exact y.2⟩⟩
def rng1R : List PV → R (List PV)
  | [.int j] => if -(2 ^ 62) ≤ j ∧ j < 2 ^ 62 then .ok (rngP 0 j.toNat) else .no
  | _ => .no
def rng2R : List PV → R (List PV)
  | [.int i, .int j] => if -(2 ^ 62) ≤ i ∧ i < 2 ^ 62 ∧ -(2 ^ 62) ≤ j ∧ j < 2 ^ 62 then .ok (rngP i (j - i).toNat) else .no
  | _ => .no
def iRg (g : List PV → R (List PV)) (f : Env → R (List PV)) : Env → R (List PV) := fun ρ => (f ρ).bind g
theorem rng_go {g : List PV → R (List PV)} {r : List V → Hp → (It → Hp → Prop) → Prop} (ho : ∀ (m : Bool) (H₀ H : Hp) (F : List Addr) (ps qs : List PV) (vs : List V) (Q : It → Hp → Prop), Reps C.G (md m H₀ H F) ps vs → g ps = .ok qs → (∀ J, ItP C.G J (md m H₀ H F) qs → Q J H) → r vs H Q)
    (hg : CalmC g) {Q : It → Hp → Prop} (h : tI C W m (iRg g fas) σ H Q) : tAs C W m fas σ H fun vs H1 => r vs H1 Q := by
  obtain ⟨H₀, F, ρ, S, h⟩ := h
  unfold iRg at h
  rw [Goes.bind] at h
  rw [tA_iff]
  refine ⟨H₀, F, ρ, S, h.imp fun ps _ h vs H1 H₁ E1 r1 => ?_⟩
  cases q : g ps with
  | ok qs =>
    rw [q] at h
    exact ho m H₁ H1 F ps qs vs Q r1 q fun J ip => h J H1 H₁ E1 ip
  | er x => exact absurd q (hg ps x)
  | no => rw [q] at h; exact h.elim
theorem qiRng1 (hm : X.mg "range" = none) (ha : QA C W m X [a] fas) (hg : Gl X "range" := by rfl) (hs : starEach [a] X.env = [(false, eval a X.env)] := by rfl) : QI C W m X tg (.Call (.Name "range" p) [a] [] pos) (iRg rng1R fas) := by
  refine PI.imp (pi_range1 hg hm ha hs) fun σ H Q h => ?_
  refine rng_go (r := fun vs H1 Q => ∃ j : Int, vs = [.int j] ∧ -(2 ^ 62) ≤ j ∧ j < 2 ^ 62 ∧ Q (Itr 0 j.toNat) H1) (fun m H₀ H F ps qs vs Q r1 e k => ?_) (fun ps x => by unfold rng1R; split <;> first | exact R.not_er | (intro z; cases z)) h
  unfold rng1R at e
  split at e
  · split at e
    · rename_i hh
      cases e
      obtain ⟨v, e1, r⟩ := reps1 r1
      simp only [Rep] at r
      subst r
      exact ⟨_, e1, hh.1, hh.2, k _ itp_rng⟩
    · cases e
  · cases e
theorem qiRng2 (hm : X.mg "range" = none) (ha : QA C W m X [a, b] fas) (hg : Gl X "range" := by rfl) (hs : starEach [a, b] X.env = [(false, eval a X.env), (false, eval b X.env)] := by rfl) (hs2 : starEach [b] X.env = [(false, eval b X.env)] := by rfl) :
    QI C W m X tg (.Call (.Name "range" p) [a, b] [] pos) (iRg rng2R fas) := by
  refine PI.imp (pi_range2 hg hm ha hs hs2) fun σ H Q h => ?_
  refine rng_go (r := fun vs H1 Q => ∃ i j : Int, vs = [.int i, .int j] ∧ (-(2 ^ 62) ≤ i ∧ i < 2 ^ 62 ∧ -(2 ^ 62) ≤ j ∧ j < 2 ^ 62) ∧ Q (Itr i (j - i).toNat) H1) (fun m H₀ H F ps qs vs Q r1 e k => ?_) (fun ps x => by unfold rng2R; split <;> first | exact R.not_er | (intro z; cases z)) h
  unfold rng2R at e
  split at e
  · split at e
    · rename_i hh
      cases e
      obtain ⟨v, w, e1, r, r'⟩ := reps2 r1
      simp only [Rep] at r r'
      subst r r'
      exact ⟨_, _, e1, hh, k _ itp_rng⟩
    · cases e
  · cases e
/-! ### targets -/
inductive Tg where
  | nm (i : Nat) | tp (is : List Nat)
def Tg.slots : Tg → List Nat
  | .nm i => [i]
  | .tp is => is
def setMany : List Nat → List PV → Env → Env
  | i :: is, p :: ps, ρ => setMany is ps (ρ.set i (some (.sh p)))
  | _, _, ρ => ρ
def tgS : Tg → PV → Env → R Env
  | .nm i, p, ρ => .ok (ρ.set i (some (.sh p)))
  | .tp is, .lst l, ρ => if l.length = is.length then .ok (setMany is l ρ) else .no
  | .tp is, .tup l, ρ => if l.length = is.length then .ok (setMany is l ρ) else .no
  | .tp _, _, _ => .no
theorem tgS_calm {T : Tg} {p : PV} {ρ : Env} {x : PX} : tgS T p ρ ≠ .er x := by
  unfold tgS
  split <;> first | (intro z; cases z; done) | exact R.not_er
/-- the first slot may be kept -/
def fxOk (C : Fc) (i : Nat) : Prop := ∀ j v, C.fx = some (j, v) → j ≠ i
theorem SR.put (S : SR C H₀ F ρ σ H) {i : Nat} {o : OV} {v : V} {Fv : List Addr} (r : OwnR C.G H₀ H o v Fv) (nd : Fv.Nodup) (fr : ∀ a ∈ Fv, C.He a = none ∧ H₀ a = none ∧ a ∉ F) (hx : fxOk C i) :
    ∃ F', SR C H₀ F' (ρ.set i (some o)) (σ.set i (some v)) H := by
  obtain ⟨F', e1, e2, e3⟩ := EnvR.put i S.env r S.nd nd fun a ha => (fr a ha).2.2
  refine ⟨F', S.e, S.z, S.n, S.hz, e1, e2, fun a ha => ?_, fun j w hw => ?_, S.hx⟩
  · rcases e3 a ha with z | z
    · exact S.fr a z
    · exact ⟨(fr a z).1, (fr a z).2.1⟩
  · rw [List.getElem?_set_ne (Ne.symm (hx j w hw))]
    exact S.fx j w hw
theorem SR.sh (S : SR C H₀ F ρ σ H) {i : Nat} {p : PV} {v : V} (r : Rep C.G H₀ p v) (hx : fxOk C i) : ∃ F', SR C H₀ F' (ρ.set i (some (.sh p))) (σ.set i (some v)) H :=
  S.put (Fv := []) (by simp only [OwnR]; exact ⟨r, trivial⟩) List.nodup_nil (fun a ha => by cases ha) hx
theorem SR.drop (S : SR C H₀ F ρ σ H) (i : Nat) : ∃ F', SR C H₀ F' (ρ.set i none) σ H := by
  obtain ⟨F', e1, e2, e3⟩ := EnvR.drop i S.env S.nd
  exact ⟨F', S.e, S.z, S.n, S.hz, e1, e2, fun a ha => S.fr a (e3 a ha), S.fx, S.hx⟩
theorem SR.any (S : SR C H₀ F ρ σ H) {i : Nat} (x : Option V) (e : ρ[i]? = some none) (hx : fxOk C i) : SR C H₀ F ρ (σ.set i x) H :=
  ⟨S.e, S.z, S.n, S.hz, EnvR.any i x S.env e, S.nd, S.fr, fun j w hw => by
    rw [List.getElem?_set_ne (Ne.symm (hx j w hw))]
    exact S.fx j w hw, S.hx⟩
/-- a target by its slots: stores what is frozen -/
structure QG (C : Fc) (X : Cx) (tg : Expr) (T : Tg) : Prop where
  ex : ∃ t, PG X tg t ∧ ∀ (p : PV) (v : V) (H₀ : Hp) (F : List Addr) (ρ ρ' : Env) (σ : L2.St) (H : Hp) (Q : L2.St → Hp → Prop), SR C H₀ F ρ σ H → Rep C.G H₀ p v → tgS T p ρ = .ok ρ' →
    (∀ σ' F', SR C H₀ F' ρ' σ' H → (∀ vs, (∀ i ∈ T.slots, i ∈ vs) → wipe σ' vs = wipe σ vs) → Q σ' H) → t v σ H Q
theorem wipe_get : ∀ (vs : List Nat) (σ : L2.St) (j : Nat), j < σ.length → (wipe σ vs)[j]? = if j ∈ vs then some none else σ[j]?
  | [], σ, j, h => by simp [wipe]
  | v :: vs, σ, j, h => by
    show ((wipe σ vs).set v none)[j]? = _
    have hl : (wipe σ vs).length = σ.length := wipe_length σ vs
    by_cases e : v = j
    · subst e
      rw [List.getElem?_set_self (by rw [hl]; exact h)]
      simp
    · rw [List.getElem?_set_ne e, wipe_get vs σ j h]
      have : (j ∈ v :: vs) = (j ∈ vs) := by
        simp only [List.mem_cons, eq_iff_iff]
        exact ⟨fun z => z.elim (fun q => absurd q.symm e) id, .inr⟩
      simp only [this]
theorem wipe_set {σ : L2.St} {i : Nat} {x : Option V} {vs : List Nat} (h : i ∈ vs) : wipe (σ.set i x) vs = wipe σ vs := by
  apply List.ext_getElem?
  intro j
  by_cases hj : j < σ.length
  · rw [wipe_get vs _ j (by simpa using hj), wipe_get vs σ j hj]
    by_cases e : j ∈ vs
    · simp [e]
    · rw [if_neg e, if_neg e, List.getElem?_set_ne (fun q => e (by rw [← q]; exact h))]
  · rw [List.getElem?_eq_none (by rw [wipe_length]; simpa using hj), List.getElem?_eq_none (by rw [wipe_length]; omega)]
theorem qgName {i : Nat} {x : Str} (hx : fxOk C i) (hN : X.N.Nodup) (hi : X.N[i]? = some x := by rfl) (hl : Loc X.env.scope x := by first | exact Or.inl rfl | exact Or.inr rfl) (hf : X.fn x = true ∨ X.env.scope.names.lookup x = some .local := by first | exact .inl rfl | exact .inr rfl) : QG C X (.Name x pos) (.nm i) :=
  ⟨gName i, pg_name hN hi hl hf, fun p v H₀ F ρ ρ' σ H Q S r e k => by
    simp only [tgS] at e
    cases e
    obtain ⟨F', S'⟩ := S.sh r hx
    exact k _ F' S' fun vs hv => wipe_set (hv i (by simp [Tg.slots]))⟩
/-- names in a row -/
structure QGs (C : Fc) (X : Cx) (ts : List Expr) (is : List Nat) : Prop where
  ex : ∃ t, PGs X ts t ∧ ∀ (ps : List PV) (vs : List V) (H₀ : Hp) (F : List Addr) (ρ : Env) (σ : L2.St) (H : Hp) (Q : L2.St → Hp → Prop), SR C H₀ F ρ σ H → Reps C.G H₀ ps vs → ps.length = is.length →
    (∀ σ' F', SR C H₀ F' (setMany is ps ρ) σ' H → (∀ ws, (∀ i ∈ is, i ∈ ws) → wipe σ' ws = wipe σ ws) → Q σ' H) → t vs σ H Q
theorem qgsNil : QGs C X [] [] := ⟨gNil, pgs_nil, fun ps vs H₀ F ρ σ H Q S r e k => by
  have e1 : ps = [] := List.length_eq_zero_iff.mp e
  subst e1
  simp only [Reps] at r
  exact ⟨r, k σ F S fun _ _ => rfl⟩⟩
theorem qgsCons {i : Nat} {x : Str} {px : Pos} {ts : List Expr} {is : List Nat} (hx : fxOk C i) (hN : X.N.Nodup) (hr : QGs C X ts is) (hi : X.N[i]? = some x := by rfl) (hl : Loc X.env.scope x := by first | exact Or.inl rfl | exact Or.inr rfl) (hf : X.fn x = true ∨ X.env.scope.names.lookup x = some .local := by first | exact .inl rfl | exact .inr rfl)
    (hs : (assignEach (.Name x px :: ts) X.env).map (·.2) = assign (.Name x px) X.env :: (assignEach ts X.env).map (·.2) := by rfl) : QGs C X (.Name x px :: ts) (i :: is) := by
  obtain ⟨t, h1, h2⟩ := hr.ex
  refine ⟨gCons (gName i) t, pgs_cons (pg_name hN hi hl hf) h1 hs, fun ps vs H₀ F ρ σ H Q S r e k => ?_⟩
  cases ps with
  | nil => cases e
  | cons p ps =>
    simp only [Reps] at r
    obtain ⟨v, ws, e1, r1, r2⟩ := r
    obtain ⟨F1, S1⟩ := S.sh r1 hx
    refine ⟨v, ws, e1, h2 ps ws H₀ F1 _ _ H Q S1 r2 (by simpa using e) fun σ' F' S' w => k σ' F' S' fun ws hw => ?_⟩
    rw [w ws fun j hj => hw j (List.mem_cons_of_mem _ hj), wipe_set (hw i List.mem_cons_self)]
theorem PG.or {X : Cx} {e : Expr} {t t' : TG} (h : PG X e t) (h' : PG X e t') : PG X e (fun v σ H Q => t v σ H Q ∨ t' v σ H Q) := ⟨fun pins s σ H v u Q I r q => q.elim (h.run pins s σ H v u Q I r) (h'.run pins s σ H v u Q I r)⟩
theorem qgTup {ts : List Expr} {is : List Nat} {k n : Nat} (hK : X.K = C.G.K) (hc : X.calm = true) (h : QGs C X ts is) (hl : is.length = n := by rfl) (hn : (assignEach ts X.env).length = n := by rfl) (hst : (assignEach ts X.env).findIdx? (·.1) = none := by rfl) : QG C X (.Tuple ts k pos) (.tp is) := by
  obtain ⟨t, h1, h2⟩ := h.ex
  refine ⟨_, PG.or (pg_tup hc h1 hn hst) (pg_lst hc h1 hn hst), fun p v H₀ F ρ ρ' σ H Q S r e kk => ?_⟩
  have go : ∀ {l : List PV} {xs : List V}, Reps C.G H₀ l xs → l.length = is.length → ρ' = setMany is l ρ → t xs σ H Q := fun {l xs} r' hlen er =>
    h2 l xs H₀ F ρ σ H Q S r' hlen fun σ' F' S' w => kk σ' F' (er ▸ S') w
  cases p with
  | lst l =>
    simp only [tgS] at e
    split at e
    · rename_i hlen
      cases e
      simp only [Rep] at r
      obtain ⟨a, xs, e1, e2, e3⟩ := r
      exact .inr ⟨a, xs, e1, SqL.of (S.z _ _ e2), by rw [← e3.length, hlen, hl], go e3 hlen rfl⟩
    · cases e
  | tup l =>
    simp only [tgS] at e
    split at e
    · rename_i hlen
      cases e
      simp only [Rep] at r
      obtain ⟨a, xs, e1, e2, e3⟩ := r
      refine .inl ⟨a, xs, e1, ?_, by rw [← e3.length, hlen, hl], go e3 hlen rfl⟩
      rw [hK]
      exact Same.seqT S.z e2
    · cases e
  | _ => simp only [tgS] at e; cases e
/-! ### comprehensions -/
def wipeE (ρ : Env) : List Nat → Env
  | [] => ρ
  | v :: vs => (wipeE ρ vs).set v none
theorem SR.wipe : ∀ (vs : List Nat) {F : List Addr} {ρ : Env} {σ : L2.St}, SR C H₀ F ρ σ H → (∀ i ∈ vs, fxOk C i) → ∃ F', SR C H₀ F' (wipeE ρ vs) (L2.wipe σ vs) H
  | [], F, ρ, σ, S, _ => ⟨F, S⟩
  | v :: vs, F, ρ, σ, S, hv => by
    obtain ⟨F1, S1⟩ := SR.wipe vs S fun i hi => hv i (List.mem_cons_of_mem _ hi)
    obtain ⟨F2, S2⟩ := S1.drop v
    refine ⟨F2, ?_⟩
    show SR C H₀ F2 ((wipeE ρ vs).set v none) ((L2.wipe σ vs).set v none) H
    by_cases hl : v < (wipeE ρ vs).length
    · exact S2.any none (List.getElem?_set_self hl) (hv v List.mem_cons_self)
    · have e2 : (L2.wipe σ vs).set v none = L2.wipe σ vs := List.set_eq_of_length_le (by rw [← S1.env.length]; omega)
      rw [e2]
      exact S2
/-- nothing is said where something is raised -/
def R.calm {α : Type} : R α → R α
  | .er _ => .no
  | r => r
theorem R.calm_ok {α : Type} {r : R α} {a : α} (h : R.calm r = .ok a) : r = .ok a := by
  cases r with
  | ok b => exact h
  | er x => cases h
  | no => cases h
@[simp] theorem R.calm_ok' {α : Type} (a : α) : R.calm (R.ok a) = .ok a := rfl
theorem R.bind_eq {α β : Type} {r : R α} {f : α → R β} {b : β} (h : r.bind f = .ok b) : ∃ a, r = .ok a ∧ f a = .ok b := by
  cases r with
  | ok a => exact ⟨a, rfl, h⟩
  | er x => cases h
  | no => cases h
def lcGo (T : Tg) (t : Env → R Bool) (e : Env → R OV) (ρ : Env) : List PV → R (List OV)
  | [] => .ok []
  | p :: ps => (tgS T p ρ).bind fun ρ1 => (R.calm (t ρ1)).bind fun b => if b = true then (R.calm (e ρ1)).bind fun o => (lcGo T t e ρ ps).bind fun os => .ok (o :: os) else lcGo T t e ρ ps
def fLc (T : Tg) (vs : List Nat) (f : Env → R (List PV)) (t : Env → R Bool) (e : Env → R OV) : Env → R OV := fun ρ => (f ρ).bind fun ps => if ps.length ≤ sizeLine then (R.calm (lcGo T t e (wipeE ρ vs) ps)).bind fun os => .ok (.own os) else .no
abbrev W0 : WX := fun _ _ _ _ => False
/-- the invariant of a comprehension: behind i items -/
structure LcI (C : Fc) (T : Tg) (t : Env → R Bool) (e : Env → R OV) (ρw : Env) (ps : List PV) (tot : List OV) (D : Addr) (H₁ H1 : Hp) (i : Nat) (H : Hp) : Prop where
  ex : ∃ H₀ Fa os osr acc, Ext H₁ H1 H₀ H ∧ H D = some (.lst acc) ∧ H₀ D = none ∧ OwnRs C.G H₀ H os acc Fa ∧ (D :: Fa).Nodup ∧ (∀ a ∈ Fa, H1 a = none ∧ H₀ a = none) ∧ acc.length ≤ i ∧ lcGo T t e ρw (ps.drop i) = .ok osr ∧ os ++ osr = tot
theorem OwnRs.snoc {G : Gc} {H₀ H : Hp} {o : OV} {v : V} {Fv : List Addr} (r : OwnR G H₀ H o v Fv) : ∀ {os : List OV} {acc : List V} {Fa : List Addr}, OwnRs G H₀ H os acc Fa → OwnRs G H₀ H (os ++ [o]) (acc ++ [v]) (Fa ++ Fv)
  | [], acc, Fa, h => by
    simp only [OwnRs] at h
    obtain ⟨h1, h2⟩ := h
    subst h1 h2
    simp only [List.nil_append, OwnRs]
    exact ⟨v, [], Fv, [], rfl, by simp, r, rfl, rfl⟩
  | q :: os, acc, Fa, h => by
    simp only [OwnRs] at h
    obtain ⟨x, ys, F1, F2, h1, h2, h3, h4⟩ := h
    subst h1 h2
    show OwnRs G H₀ H (q :: (os ++ [o])) (x :: (ys ++ [v])) _
    simp only [OwnRs]
    exact ⟨x, _, F1, F2 ++ Fv, rfl, by rw [List.append_assoc], h3, OwnRs.snoc r h4⟩
theorem lc_go {T : Tg} {vs : List Nat} {f : Env → R (List PV)} {t : Env → R Bool} {el : Env → R OV} {g : TG} (hvs : ∀ i ∈ T.slots, i ∈ vs) (hfx : ∀ i ∈ vs, fxOk C i)
    (hgo : ∀ (p : PV) (v : V) (H₀ : Hp) (F : List Addr) (ρ ρ' : Env) (σ : L2.St) (H : Hp) (Q : L2.St → Hp → Prop), SR C H₀ F ρ σ H → Rep C.G H₀ p v → tgS T p ρ = .ok ρ' → (∀ σ' F', SR C H₀ F' ρ' σ' H → (∀ vs, (∀ i ∈ T.slots, i ∈ vs) → wipe σ' vs = wipe σ vs) → Q σ' H) → g v σ H Q)
    {Q : VK} (h : tF C W (fLc T vs f t el) σ H Q) : tLc (tI C W true f) g (tTt C W0 t) (tF C W0 el) vs σ H Q := by
  rw [tF_iff] at h
  obtain ⟨H₀, F, ρ, S, h⟩ := h
  unfold fLc at h
  rw [Goes.bind] at h
  refine ⟨H₀, F, ρ, S, h.imp fun ps _ h J H1 H₁ E1 ip D hD => ?_⟩
  have ip : ItP C.G J H₁ ps := ip
  split at h
  · rename_i hlen
    rw [Goes.bind] at h
    cases q : lcGo T t el (wipeE ρ vs) ps with
    | er x => rw [q] at h; exact h.elim
    | no => rw [q] at h; exact h.elim
    | ok tot =>
      rw [q] at h
      have h : ∀ v H' H₀' Fv, Ext H₀ H H₀' H' → OwnR C.G H₀' H' (.own tot) v Fv → Fv.Nodup → (∀ a ∈ Fv, H a = none ∧ H₀' a = none) → Q v H' := h
      have D0 : H₁ D = none := Same.free E1.z hD
      have ext_D : ∀ {Ha Hb : Hp} {acc acc' : List V}, Ext H₁ H1 Ha Hb → Ha D = none → Ext H₁ H1 Ha (upd Hb D (.lst acc')) := fun {Ha Hb acc acc'} E0 hD0 => by
        refine ⟨fun b u q => ?_, E0.s0, fun b u q => ?_, E0.n⟩
        · rw [upd_ne fun z => by rw [z, hD] at q; cases q]; exact E0.s b u q
        · rw [upd_ne fun z => by rw [z, hD0] at q; cases q]; exact E0.z b u q
      refine ⟨fun i mm Hc => mm = ps.length - i ∧ i ≤ ps.length ∧ LcI C T t el (wipeE ρ vs) ps tot D H₁ H1 i Hc, ⟨ps.length, by simp, Nat.zero_le _, ⟨H₁, [], [], tot, [], ext_D (acc := []) (Ext.refl E1.z) D0, upd_same, D0, by simp [OwnRs], by simp, fun a ha => (by cases ha), by simp, by simpa using q, rfl⟩⟩, ?_⟩
      rintro i mm Hc ⟨rfl, hi, ⟨H₀c, Fa, os, osr, acc, Ec, hDc, hD0, own, nd, fr, hacc, hgo', htot⟩⟩
      have sc : Same H₁ Hc := Ec.s0.trans Ec.z
      by_cases hlt : i < ps.length
      · have hp : ps[i]? = some ps[i] := by simp [hlt]
        obtain ⟨jg, jy⟩ := ip.go i Hc _ sc hp
        refine .inr ⟨jg, fun H' => ps.length - (i + 1) = ps.length - (i + 1) ∧ i + 1 ≤ ps.length ∧ LcI C T t el (wipeE ρ vs) ps tot D H₁ H1 (i + 1) H', fun H' z => ⟨ps.length - (i + 1), by omega, z⟩, fun x H' y => ?_⟩
        obtain ⟨e1, rx⟩ := jy x H' y
        subst e1
        rw [List.drop_eq_getElem_cons hlt] at hgo'
        unfold lcGo at hgo'
        obtain ⟨ρ1, et, hgo'⟩ := R.bind_eq hgo'
        obtain ⟨b, eb, hgo'⟩ := R.bind_eq hgo'
        have eb := R.calm_ok eb
        obtain ⟨Fw, Sw⟩ := SR.wipe vs ((S.ext E1).ext Ec) hfx
        refine hgo _ x H₀c Fw _ ρ1 _ H' _ Sw (Rep.mono Ec.s0 rx) et fun σ2 F2 S2 w2 => ⟨?_, ?_⟩
        · rw [w2 vs hvs]
          apply List.ext_getElem?
          intro j
          by_cases hj : j < σ.length
          · rw [wipe_get vs _ j (by rw [wipe_length]; exact hj), wipe_get vs σ j hj]
            by_cases e : j ∈ vs
            · simp [e]
            · simp [e]
          · rw [List.getElem?_eq_none (by rw [wipe_length, wipe_length]; omega), List.getElem?_eq_none (by rw [wipe_length]; omega)]
        · rw [tT_iff]
          refine ⟨H₀c, F2, ρ1, S2, ?_⟩
          rw [eb]
          intro H3 H₃ E3
          cases b with
          | false =>
            rw [if_neg Bool.false_ne_true] at hgo'
            show if false = true then _ else _
            rw [if_neg Bool.false_ne_true]
            have mono : ∀ a ∈ Fa, H3 a = H' a := fun a ha => by
              obtain ⟨u, e⟩ := OwnRs.there own a ha
              rw [e, E3.s a u e]
            refine ⟨rfl, hlt, ⟨H₃, Fa, os, osr, acc, Ec.trans E3, E3.s _ _ hDc, by rw [E3.n D (ne_none_of hDc)]; exact hD0, OwnRs.mono E3.s0 mono own, nd, fun a ha => ⟨(fr a ha).1, ?_⟩, by omega, hgo', htot⟩⟩
            obtain ⟨u, e⟩ := OwnRs.there own a ha
            rw [E3.n a (ne_none_of e)]
            exact (fr a ha).2
          | true =>
            rw [if_pos rfl] at hgo'
            show if true = true then _ else _
            rw [if_pos rfl, tF_iff]
            obtain ⟨o, eo, hgo'⟩ := R.bind_eq hgo'
            have eo := R.calm_ok eo
            obtain ⟨osr', er, hgo'⟩ := R.bind_eq hgo'
            cases hgo'
            refine ⟨H₃, F2, ρ1, S2.ext E3, ?_⟩
            rw [eo]
            intro y H4 H₄ Fv E4 ro ndv frv
            have E34 := E3.trans E4
            have hD4 : H4 D = some (.lst acc) := E34.s _ _ hDc
            have hD40 : H₄ D = none := by rw [E34.n D (ne_none_of hDc)]; exact hD0
            have aD : ∀ a ∈ Fa, a ≠ D := fun a ha z => (List.nodup_cons.mp nd).1 (z ▸ ha)
            have vD : ∀ a ∈ Fv, a ≠ D := fun a ha z => by
              have z2 := (frv a ha).1
              rw [z, E3.s _ _ hDc] at z2
              cases z2
            have mono : ∀ a ∈ Fa, H4 a = H' a := fun a ha => by
              obtain ⟨u, e⟩ := OwnRs.there own a ha
              rw [e, E34.s a u e]
            have own4 : OwnRs C.G H₄ H4 os acc Fa := OwnRs.mono E34.s0 mono own
            have own5 := OwnRs.snoc ro own4
            have nD : ∀ a ∈ Fa ++ Fv, a ≠ D := fun a ha => (List.mem_append.mp ha).elim (aD a) (vD a)
            refine ⟨acc, hD4, by have := hlen; omega, rfl, hlt, ⟨H₄, Fa ++ Fv, os ++ [o], osr', acc ++ [y], ext_D (acc := acc) (Ec.trans E34) hD40, upd_same, hD40, OwnRs.mono (Same.refl _) (fun a ha => upd_ne (nD a ha)) own5, ?_, fun a ha => ?_, by rw [List.length_append, List.length_singleton]; omega, er, by rw [← htot, List.append_assoc]; rfl⟩⟩
            · refine List.nodup_cons.mpr ⟨fun z => nD D z rfl, List.nodup_append.mpr ⟨(List.nodup_cons.mp nd).2, ndv, fun a ha b hb e => ?_⟩⟩
              subst e
              obtain ⟨u, e⟩ := OwnRs.there own a ha
              have z2 := (frv a hb).1
              rw [E3.s a u e] at z2
              cases z2
            · rcases List.mem_append.mp ha with z | z
              · obtain ⟨u, e⟩ := OwnRs.there own a z
                exact ⟨(fr a z).1, by rw [E34.n a (ne_none_of e)]; exact (fr a z).2⟩
              · refine ⟨Same.free (Ec.s.trans E3.s) (frv a z).1, (frv a z).2⟩
      · have hie : i = ps.length := by omega
        refine .inl ⟨ip.stop i Hc sc (by omega), ?_⟩
        rw [hie, List.drop_length] at hgo'
        unfold lcGo at hgo'
        cases hgo'
        rw [List.append_nil] at htot
        subst htot
        refine h (.ref D) Hc H₀c (D :: Fa) (E1.trans Ec) (by simp only [OwnR]; exact ⟨D, acc, Fa, rfl, rfl, hDc, own⟩) nd fun a ha => ?_
        rcases List.mem_cons.mp ha with z | z
        · rw [z]; exact ⟨Same.free E1.s hD, hD0⟩
        · exact ⟨Same.free E1.s (fr a z).1, (fr a z).2⟩
  · exact h.elim
/-- a clause's tests -/
def tYesB : Env → R Bool := fun _ => .ok true
theorem PTs.imp {X : Cx} {es : List Expr} {t t' : TT} (h : PTs X es t) (k : ∀ σ H Q, t' σ H Q → t σ H Q) : PTs X es t' := ⟨fun pins s σ H Q I q => h.run pins s σ H Q I (k _ _ _ q)⟩
theorem qtsNil : PTs X [] (tTt C W0 tYesB) := PTs.imp pts_nil fun σ H Q ⟨H₀, F, ρ, S, h⟩ => h H H₀ (Ext.refl S.z)
theorem qtsOne {t : Env → R Bool} (h : QT C W0 X e t) : PTs X [e] (tTt C W0 t) := pts_one h
theorem qLc {elt iter : Expr} {ifs : List Expr} {scope : Scope} {own : List (Str × Nat)} {T : Tg} {f : Env → R (List PV)} {t : Env → R Bool} {el : Env → R OV} (hc : X.calm = true) (hN : X.N.Nodup) (hi : QI C W true X tg iter f) (ok : BlkOk X.N X.env.scope scope own) (hvs : ∀ i ∈ T.slots, i ∈ own.map (·.2)) (hfx : ∀ i ∈ own.map (·.2), fxOk C i)
    (hg : ∃ g : TG, (∀ (s : Shared) (H : Hp) (c : Addr) (cl : List (Str × Addr)) (fp : List Addr), PG (X.blk s H scope (compEnvC scope cl c X.env) fp) tg g) ∧ ∀ (p : PV) (v : V) (H₀ : Hp) (F : List Addr) (ρ ρ' : Env) (σ : L2.St) (H : Hp) (Q : L2.St → Hp → Prop), SR C H₀ F ρ σ H → Rep C.G H₀ p v → tgS T p ρ = .ok ρ' → (∀ σ' F', SR C H₀ F' ρ' σ' H → (∀ vs, (∀ i ∈ T.slots, i ∈ vs) → wipe σ' vs = wipe σ vs) → Q σ' H) → g v σ H Q)
    (ht : ∀ (s : Shared) (H : Hp) (c : Addr) (cl : List (Str × Addr)) (fp : List Addr), PTs (X.blk s H scope (compEnvC scope cl c X.env) fp) ifs (tTt C W0 t))
    (he : ∀ (s : Shared) (H : Hp) (c : Addr) (cl : List (Str × Addr)) (fp : List Addr), QF C W0 (X.blk s H scope (compEnvC scope cl c X.env) fp) elt el) (hs : ∀ x, foldedSetIterable iter X.env x = pure x := by intro _; rfl) :
    QF C W X (.ListComp elt [⟨tg, iter, ifs, 0⟩] scope pos) (fLc T (own.map (·.2)) f t el) := by
  obtain ⟨g, hg1, hg2⟩ := hg
  exact PE.imp (pe_lc hc hN hi ok hg1 ht he hs) fun σ H Q h => lc_go hvs hfx hg2 h
/-- a name as the comprehension's target -/
theorem lcName {scope : Scope} {i : Nat} {x : Str} (hx : fxOk C i) (hN : X.N.Nodup) (hi : X.N[i]? = some x) (hl : ∀ c cl, (compEnvC scope cl c X.env).scope.names.lookup x = some .local) :
    ∃ g : TG, (∀ (s : Shared) (H : Hp) (c : Addr) (cl : List (Str × Addr)) (fp : List Addr), PG (X.blk s H scope (compEnvC scope cl c X.env) fp) (.Name x pos) g) ∧ ∀ (p : PV) (v : V) (H₀ : Hp) (F : List Addr) (ρ ρ' : Env) (σ : L2.St) (H : Hp) (Q : L2.St → Hp → Prop), SR C H₀ F ρ σ H → Rep C.G H₀ p v → tgS (.nm i) p ρ = .ok ρ' → (∀ σ' F', SR C H₀ F' ρ' σ' H → (∀ vs, (∀ j ∈ (Tg.nm i).slots, j ∈ vs) → wipe σ' vs = wipe σ vs) → Q σ' H) → g v σ H Q :=
  ⟨gName i, fun s H c cl fp => pg_name hN hi (.inl (hl c cl)) (.inr (hl c cl)), fun p v H₀ F ρ ρ' σ H Q S r e k => by
    simp only [tgS] at e
    cases e
    obtain ⟨F', S'⟩ := S.sh r hx
    exact k _ F' S' fun vs hv => wipe_set (hv i (by simp [Tg.slots]))⟩
end
end L3

end
section
/-! L3. 6: calls of defs, methods, classes -/
namespace L3
open PySem PySem.Spec PyProof.Rows L2
/-! ### contracts -/
section
variable (Γ : Gc)
/-- a def's promise -/
def spP (F : List PV → R OV) : Sp := fun vs H Q E => ∃ H₀ ps, Same H₀ H ∧ Reps Γ H₀ ps vs ∧ Goes Γ (fun cls d _ H' => E cls d H') (F ps) [] H H₀ fun o =>
  ∀ v H' H₀' Fv, Ext H₀ H H₀' H' → OwnR Γ H₀' H' o v Fv → Fv.Nodup → (∀ a ∈ Fv, H a = none ∧ H₀' a = none) → Q v H'
def del (H : Hp) (x : Addr) : Hp := fun a => if a = x then none else H a
/-- an __init__'s promise: the new instance's fields -/
def spI (c : Nat) (F : List PV → R (List (Str × OV))) : Sp := fun vs H Q E => ∃ x dx ws H₀ ps, vs = .ref x :: ws ∧ H x = some (.ins (Γ.CA c) dx []) ∧ H₀ x = none ∧ Same H₀ H ∧ Reps Γ H₀ ps ws ∧ (match F ps with
  | .ok fs => ∀ H' H₀' Fv, Ext H₀ (del H x) H₀' (del H' x) → OwnR Γ H₀' H' (.obj c fs) (.ref x) Fv → Fv.Nodup → (∀ a ∈ Fv, (a = x ∨ H a = none) ∧ H₀' a = none) → Q .non H'
  | .er z => ∀ cls d H' H₀', Ext H₀ (del H x) H₀' (del H' x) → RepX Γ H₀' z cls d → E cls d H'
  | .no => False)
end
/-! ### results without lists: these may leave what is only looked at -/
mutual
def PV.flat : PV → Bool
  | .non => true
  | .bl _ => true
  | .int _ => true
  | .str _ => true
  | .lst _ => false
  | .scr _ => false
  | .tup l => PV.flats l
  | .ins _ _ => false
def PV.flats : List PV → Bool
  | [] => true
  | p :: ps => p.flat && PV.flats ps
end
def PV.flatf : List (Str × PV) → Bool
  | [] => true
  | (_, p) :: ps => p.flat && PV.flatf ps
mutual
def OV.flat : OV → Bool
  | .sh p => p.flat
  | .own l => OV.flats l
  | .obj _ fs => OV.flatf fs
def OV.flats : List OV → Bool
  | [] => true
  | o :: l => o.flat && OV.flats l
def OV.flatf : List (Str × OV) → Bool
  | [] => true
  | (_, o) :: l => o.flat && OV.flatf l
end
def capR (m : Bool) : R OV → R OV
  | .ok o => if m = true ∨ o.flat = true then .ok o else .no
  | .er x => if m = true ∨ PV.flatf x.fs = true then .er x else .no
  | .no => .no
theorem Goes.cap_ok {Γ : Gc} {W : WX} {σ : L2.St} {H H₀ : Hp} {k : OV → Prop} {m : Bool} {o : OV} (h : Goes Γ W (capR m (.ok o)) σ H H₀ k) : (m = true ∨ o.flat = true) ∧ k o := by
  have e : capR m (.ok o) = if m = true ∨ o.flat = true then .ok o else .no := rfl
  rw [e] at h
  by_cases hc : m = true ∨ o.flat = true
  · rw [if_pos hc] at h
    exact ⟨hc, h⟩
  · rw [if_neg hc] at h
    exact h.elim
theorem Goes.cap_er {Γ : Gc} {W : WX} {σ : L2.St} {H H₀ : Hp} {k : OV → Prop} {m : Bool} {x : PX} (h : Goes Γ W (capR m (.er x)) σ H H₀ k) : (m = true ∨ PV.flatf x.fs = true) ∧ ∀ cls d H' H₀', Ext H₀ H H₀' H' → RepX Γ H₀' x cls d → W cls d σ H' := by
  have e : capR m (.er x) = if m = true ∨ PV.flatf x.fs = true then .er x else .no := rfl
  rw [e] at h
  by_cases hc : m = true ∨ PV.flatf x.fs = true
  · rw [if_pos hc] at h
    exact ⟨hc, h⟩
  · rw [if_neg hc] at h
    exact h.elim
@[simp] theorem capR_true (r : R OV) : capR true r = r := by cases r <;> simp [capR]
def mask (H : Hp) (F : List Addr) : Hp := fun a => if a ∈ F then none else H a
def isLI : HO → Prop
  | .lst _ => True
  | .ins _ _ _ => True
  | _ => False
section
variable {C : Fc} {G : Gc} {m : Bool} {H₀ H Hc H' : Hp} {F : List Addr} {ρ : Env} {σ : L2.St}
theorem mask_get {a : Addr} {o : HO} (hF : ∀ a ∈ F, ∀ o, Hc a = some o → isLI o) (h : Hc a = some o) (k : ¬ isLI o) : mask Hc F a = some o := by
  unfold mask
  rw [if_neg fun z => k (hF a z o h)]
  exact h
mutual
theorem Rep.mask (hF : ∀ a ∈ F, ∀ o, Hc a = some o → isLI o) : ∀ {p : PV} {v : V}, p.flat = true → Rep G Hc p v → Rep G (mask Hc F) p v
  | .non, _, _, h => by simpa only [Rep] using h
  | .bl _, _, _, h => by simpa only [Rep] using h
  | .int _, _, _, h => by simpa only [Rep] using h
  | .str _, _, _, h => by simpa only [Rep] using h
  | .lst _, _, e, _ => by simp [PV.flat] at e
  | .scr _, _, e, _ => by simp [PV.flat] at e
  | .tup l, v, e, h => by
    simp only [PV.flat] at e
    simp only [Rep] at h ⊢
    obtain ⟨a, xs, h1, h2, h3⟩ := h
    refine ⟨a, xs, h1, ?_, Reps.mask hF e h3⟩
    rcases h2 with (h2 | ⟨o, h2⟩) | h2
    · exact .inl (.inl (mask_get hF h2 id))
    · exact .inl (.inr ⟨o, mask_get hF h2 id⟩)
    · exact .inr h2
  | .ins _ _, _, e, _ => by simp [PV.flat] at e
theorem Reps.mask (hF : ∀ a ∈ F, ∀ o, Hc a = some o → isLI o) : ∀ {ps : List PV} {vs : List V}, PV.flats ps = true → Reps G Hc ps vs → Reps G (mask Hc F) ps vs
  | [], _, _, h => by simpa only [Reps] using h
  | p :: ps, vs, e, h => by
    simp only [PV.flats, Bool.and_eq_true] at e
    simp only [Reps] at h ⊢
    obtain ⟨x, ys, h1, h2, h3⟩ := h
    exact ⟨x, ys, h1, Rep.mask hF e.1 h2, Reps.mask hF e.2 h3⟩
end
theorem RepF.mask (hF : ∀ a ∈ F, ∀ o, Hc a = some o → isLI o) : ∀ {ps : List (Str × PV)} {vs : List (Str × V)}, PV.flatf ps = true → RepF G Hc ps vs → RepF G (mask Hc F) ps vs
  | [], _, _, h => by simpa only [RepF] using h
  | (f, p) :: ps, vs, e, h => by
    simp only [PV.flatf, Bool.and_eq_true] at e
    simp only [RepF] at h ⊢
    obtain ⟨x, ys, h1, h2, h3⟩ := h
    exact ⟨x, ys, h1, Rep.mask hF e.1 h2, RepF.mask hF e.2 h3⟩
mutual
theorem OwnR.mask (hF : ∀ a ∈ F, ∀ o, Hc a = some o → isLI o) : ∀ {o : OV} {v : V} {Fv : List Addr}, o.flat = true → OwnR G Hc H o v Fv → OwnR G (mask Hc F) H o v Fv
  | .sh p, v, Fv, e, h => by
    simp only [OV.flat] at e
    simp only [OwnR] at h ⊢
    exact ⟨Rep.mask hF e h.1, h.2⟩
  | .own l, v, Fv, e, h => by
    simp only [OV.flat] at e
    simp only [OwnR] at h ⊢
    obtain ⟨a, xs, F', h1, h2, h3, h4⟩ := h
    exact ⟨a, xs, F', h1, h2, h3, OwnRs.mask hF e h4⟩
  | .obj c fs, v, Fv, e, h => by
    simp only [OV.flat] at e
    simp only [OwnR] at h ⊢
    obtain ⟨a, dx, vs, F', h1, h2, h3, h4⟩ := h
    exact ⟨a, dx, vs, F', h1, h2, h3, OwnRf.mask hF e h4⟩
theorem OwnRs.mask (hF : ∀ a ∈ F, ∀ o, Hc a = some o → isLI o) : ∀ {l : List OV} {xs : List V} {Fv : List Addr}, OV.flats l = true → OwnRs G Hc H l xs Fv → OwnRs G (mask Hc F) H l xs Fv
  | [], xs, Fv, _, h => by simpa only [OwnRs] using h
  | o :: l, xs, Fv, e, h => by
    simp only [OV.flats, Bool.and_eq_true] at e
    simp only [OwnRs] at h ⊢
    obtain ⟨x, ys, F1, F2, h1, h2, h3, h4⟩ := h
    exact ⟨x, ys, F1, F2, h1, h2, OwnR.mask hF e.1 h3, OwnRs.mask hF e.2 h4⟩
theorem OwnRf.mask (hF : ∀ a ∈ F, ∀ o, Hc a = some o → isLI o) : ∀ {l : List (Str × OV)} {xs : List (Str × V)} {Fv : List Addr}, OV.flatf l = true → OwnRf G Hc H l xs Fv → OwnRf G (mask Hc F) H l xs Fv
  | [], xs, Fv, _, h => by simpa only [OwnRf] using h
  | (f, o) :: l, xs, Fv, e, h => by
    simp only [OV.flatf, Bool.and_eq_true] at e
    simp only [OwnRf] at h ⊢
    obtain ⟨x, ys, F1, F2, h1, h2, h3, h4⟩ := h
    exact ⟨x, ys, F1, F2, h1, h2, OwnR.mask hF e.1 h3, OwnRf.mask hF e.2 h4⟩
end
mutual
theorem OwnR.kind : ∀ {o : OV} {v : V} {F : List Addr}, OwnR G H₀ H o v F → ∀ a ∈ F, ∃ u, H a = some u ∧ isLI u
  | .sh p, v, F, h, a, ha => by simp only [OwnR] at h; rw [h.2] at ha; cases ha
  | .own l, v, F, h, a, ha => by
    simp only [OwnR] at h
    obtain ⟨b, xs, F', h1, h2, h3, h4⟩ := h
    subst h2
    rcases List.mem_cons.mp ha with e | ha
    · rw [e]; exact ⟨_, h3, trivial⟩
    · exact OwnRs.kind h4 a ha
  | .obj c fs, v, F, h, a, ha => by
    simp only [OwnR] at h
    obtain ⟨b, dx, vs, F', h1, h2, h3, h4⟩ := h
    subst h2
    rcases List.mem_cons.mp ha with e | ha
    · rw [e]; exact ⟨_, h3, trivial⟩
    · exact OwnRf.kind h4 a ha
theorem OwnRs.kind : ∀ {l : List OV} {xs : List V} {F : List Addr}, OwnRs G H₀ H l xs F → ∀ a ∈ F, ∃ u, H a = some u ∧ isLI u
  | [], xs, F, h, a, ha => by simp only [OwnRs] at h; rw [h.2] at ha; cases ha
  | o :: l, xs, F, h, a, ha => by
    simp only [OwnRs] at h
    obtain ⟨x, ys, F1, F2, h1, h2, h3, h4⟩ := h
    subst h2
    rcases List.mem_append.mp ha with ha | ha
    · exact OwnR.kind h3 a ha
    · exact OwnRs.kind h4 a ha
theorem OwnRf.kind : ∀ {l : List (Str × OV)} {xs : List (Str × V)} {F : List Addr}, OwnRf G H₀ H l xs F → ∀ a ∈ F, ∃ u, H a = some u ∧ isLI u
  | [], xs, F, h, a, ha => by simp only [OwnRf] at h; rw [h.2] at ha; cases ha
  | (f, o) :: l, xs, F, h, a, ha => by
    simp only [OwnRf] at h
    obtain ⟨x, ys, F1, F2, h1, h2, h3, h4⟩ := h
    subst h2
    rcases List.mem_append.mp ha with ha | ha
    · exact OwnR.kind h3 a ha
    · exact OwnRf.kind h4 a ha
end
theorem EnvR.kind : ∀ {ρ : Env} {σ : L2.St} {F : List Addr}, EnvR G H₀ H ρ σ F → ∀ a ∈ F, ∃ u, H a = some u ∧ isLI u
  | [], σ, F, h, a, ha => by rw [h.2] at ha; cases ha
  | none :: ρ, σ, F, h, a, ha => by
    obtain ⟨x, τ, h1, h2⟩ := h
    exact EnvR.kind h2 a ha
  | some o :: ρ, σ, F, h, a, ha => by
    obtain ⟨v, τ, F1, F2, h1, h2, h3, h4⟩ := h
    subst h2
    rcases List.mem_append.mp ha with ha | ha
    · exact OwnR.kind h3 a ha
    · exact EnvR.kind h4 a ha
/-- behind a call: what the callee froze is frozen, what is owned is owned again -/
theorem cap (S : SR C H₀ F ρ σ H) (E : Ext (md m H₀ H F) H Hc H') : ∃ H₀', Ext H₀ H H₀' H' ∧ (∀ o v Fv, (m = true ∨ o.flat = true) → OwnR C.G Hc H' o v Fv → OwnR C.G H₀' H' o v Fv) ∧
    (∀ x cls d, (m = true ∨ PV.flatf x.fs = true) → RepX C.G Hc x cls d → RepX C.G H₀' x cls d) ∧ (∀ a, Hc a = none → H₀' a = none) := by
  cases m with
  | true => exact ⟨Hc, E, fun o v Fv _ r => r, fun x cls d _ r => r, fun a h => h⟩
  | false =>
    have E : Ext (vw H₀ H F) H Hc H' := E
    have hF : ∀ a ∈ F, ∀ o, Hc a = some o → isLI o := fun a ha o e => by
      obtain ⟨u, e1, e2⟩ := S.env.kind a ha
      rw [E.n a (ne_none_of e1)] at e
      unfold vw at e
      rw [if_pos ha, e1] at e
      cases e
      exact e2
    refine ⟨mask Hc F, ⟨E.s, fun a o e => ?_, fun a o e => ?_, fun a ha => ?_⟩, fun o v Fv h r => ?_, fun x cls d h r => ?_, fun a h => ?_⟩
    · have na : a ∉ F := fun z => by rw [(S.fr a z).2] at e; cases e
      unfold mask
      rw [if_neg na]
      refine E.s0 a o ?_
      unfold vw
      rw [if_neg na]
      exact e
    · unfold mask at e
      split at e
      · cases e
      · exact E.z a o e
    · unfold mask
      split
      · rename_i z
        exact (S.fr a z).2.symm
      · rename_i z
        rw [E.n a ha]
        unfold vw
        rw [if_neg z]
    · exact OwnR.mask hF (h.resolve_left Bool.false_ne_true) r
    · obtain ⟨r1, r2⟩ := r
      refine ⟨r1, r2.imp id ?_⟩
      rintro ⟨dd, vs, e1, e2, e3⟩
      exact ⟨dd, vs, e1, mask_get hF e2 id, RepF.mask hF (h.resolve_left Bool.false_ne_true) e3⟩
    · unfold mask
      split
      · rfl
      · exact h
end
/-! ### calls -/
section
variable {C : Fc} {W : WX} {m : Bool} {X : Cx} {o e : Expr} {es : List Expr} {p pos apos : Pos} {σ : L2.St} {H H₀ : Hp} {ρ : Env} {x mth : Str} {k c : Nat} {f Ca : Addr} {fd : FuncData} {ns : List Str} {dvs : List V} {ds : List Value} {dps : List PV}
  {fo : Env → R PV} {fas : Env → R (List PV)} {Fn : List PV → R OV} {FI : List PV → R (List (Str × OV))}
theorem Reps.snoc_all {G : Gc} {Hv : Hp} {ps : List PV} {vs : List V} (r : Reps G Hv ps vs) (hp : ∀ H, Reps G H dps dvs) : Reps G Hv (ps ++ dps) (vs ++ dvs) := r.append (hp _)
theorem call_go {F : List Addr} {qs : List PV} {vs : List V} {Q : VK} (S : SR C H₀ F ρ σ H) (r : Reps C.G (md m H₀ H F) qs vs)
    (h : Goes C.G W (capR m (Fn qs)) σ H H₀ fun o => ∀ v H' H₀' Fv, Ext H₀ H H₀' H' → OwnR C.G H₀' H' o v Fv → Fv.Nodup → (∀ a ∈ Fv, H a = none ∧ H₀' a = none) → Q v H') : spP C.G Fn vs H Q (WE W σ) := by
  refine ⟨md m H₀ H F, qs, md_H S.z, r, ?_⟩
  cases q : Fn qs with
  | ok o =>
    rw [q] at h
    obtain ⟨hc, h⟩ := h.cap_ok
    intro v H' Hc Fv E ro nd fr
    obtain ⟨H₀', E', c1, c2, c3⟩ := cap S E
    exact h v H' H₀' Fv E' (c1 _ _ _ hc ro) nd fun a ha => ⟨(fr a ha).1, c3 a (fr a ha).2⟩
  | er z =>
    rw [q] at h
    obtain ⟨hc, h⟩ := h.cap_er
    intro cls d H' Hc E rx
    obtain ⟨H₀', E', c1, c2, c3⟩ := cap S E
    exact h cls d H' H₀' E' (c2 _ _ _ hc rx)
  | no =>
    rw [q] at h
    exact h.elim
def fCall (m : Bool) (Fn : List PV → R OV) (dps : List PV) (fas : Env → R (List PV)) : Env → R OV := fun ρ => (fas ρ).bind fun ps => capR m (Fn (ps ++ dps))
theorem qCall (Fo : FnOk X.prog X.w X.K X.mg X.base (L2N.CX X.prog X.w) k f fd ns (spP C.G Fn)) (hr : Room k X.A) (tk : L2N.Takes X W) (hm : X.mg x = some (.ref f)) (hk : PySem.W.keepIn X.K (.ref f) = true) (hb : Binds X.K fd ns ds) (hd : Vals dvs ds) (hp : ∀ H, Reps C.G H dps dvs)
    (ha : QA C W m X (e :: es) fas) (hg : Gl X x := by rfl) (hdb : (x == ("__debug__" : Str)) = false := by decide) (he : starEach (e :: es) X.env = (false, eval e X.env) :: starEach es X.env := by rfl) (hpl : (backTo pos (starEach es X.env)).any (·.1) = false := by rfl) :
    QF C W X (.Call (.Name x p) (e :: es) [] pos) (fCall m Fn dps fas) := by
  refine PE.imp (pe_callSD Fo hr hg hm hk hb hd (fun σ => L2N.passAt tk σ) ha hdb he hpl) fun σ H Q h => ?_
  show tAs C W m fas σ H fun vs H1 => spP C.G Fn (vs ++ dvs) H1 Q (WE W σ)
  rw [tF_iff] at h
  rw [tA_iff]
  obtain ⟨H₀, F, ρ, S, h⟩ := h
  unfold fCall at h
  rw [Goes.bind] at h
  refine ⟨H₀, F, ρ, S, h.imp fun ps _ h vs H1 H₁ E1 r1 => ?_⟩
  refine call_go (S.ext E1) (r1.append (hp _)) ((h.later E1).imp fun o _ h v H' H₀' Fv E ro nd fr => h v H' H₀' Fv (E1.trans E) ro nd fun a ha => ⟨Same.free E1.s (fr a ha).1, (fr a ha).2⟩)
theorem qCall0 (Fo : FnOk X.prog X.w X.K X.mg X.base (L2N.CX X.prog X.w) k f fd ns (spP C.G Fn)) (hr : Room k X.A) (tk : L2N.Takes X W) (hm : X.mg x = some (.ref f)) (hk : PySem.W.keepIn X.K (.ref f) = true) (hb : Binds X.K fd ns ds) (hd : Vals dvs ds) (hp : ∀ H, Reps C.G H dps dvs)
    (hg : Gl X x := by rfl) (hdb : (x == ("__debug__" : Str)) = false := by decide) : QF C W X (.Call (.Name x p) [] [] pos) (fCall true Fn dps aNil) := by
  refine ⟨fun pins s σ H Q I h => ?_⟩
  refine wpAny_Call_Name_kw (ld_glob I hg hm ?_ hdb)
  refine PySem.W.callWith_K0 I.kIn hk (run_fnSD (us := []) (vs := []) (E := WE W) Fo hr hb hd (L2N.passAt tk σ) I .nil ?_)
  rw [tF_iff] at h
  obtain ⟨H₀, F, ρ, S, h⟩ := h
  unfold fCall aNil at h
  rw [R.bind_ok] at h
  exact call_go (m := true) (qs := [] ++ dps) (vs := [] ++ dvs) S (Reps.nil.append (hp _)) h
/-! methods -/
def tMethS (Ca : Addr) (mth : Str) (sp : Sp) (dvs : List V) (E : L2.St → XK) (ta : TE) (t : TA) : TE := fun σ H Q => ta σ H fun x H1 => ∃ a dx fs, x = .ref a ∧ H1 a = some (.ins Ca dx fs) ∧ fs.lookup mth = none ∧ t σ H1 fun vs H2 => sp (x :: (vs ++ dvs)) H2 Q (E σ)
section
variable {CX : CXT} {sp : Sp} {E : L2.St → XK} {ta : TE} {t : TA}
theorem pe_methS {pl : Sem Bool} (he : PE X o ta) (c : Cls X.K Ca) (hm : Meth X.K Ca mth f) (F : FnOk X.prog X.w X.K X.mg X.base CX k f fd ns sp) (hr : Room k X.A) (hb : Binds X.K fd ns ds) (hd : Vals dvs ds) (hx : ∀ σ, PassesAt CX X σ (E σ)) (ha : PA X (e :: es) t)
    (hst : starEach (e :: es) X.env = (false, eval e X.env) :: starEach es X.env := by rfl) (hpl : (backTo pos (starEach es X.env)).any (·.1) = false := by rfl)
    (ht : eval (.Call (.Attribute o mth apos) (e :: es) [] pos) X.env = (do
      let ov ← eval o X.env
      standAt apos.atName
      let (f, first) ← holding [ov] (getMethod ov mth pl)
      callWith pos f first (backTo pos (starEach (e :: es) X.env)) (backToKw pos (keywordEach [] X.env))) := by rfl) :
    PE X (.Call (.Attribute o mth apos) (e :: es) [] pos) (tMethS Ca mth sp dvs E ta t) := by
  refine ⟨fun pins s σ H Q I h => ?_⟩
  refine PySem.W.methodCall_KW (pl := pl) (thn (he.run pins s σ H _ I h) fun u s1 ⟨x, H1, I1, rx, a, dx, fs, ex, ea, l, q⟩ => ?_) ht
  subst ex
  obtain rfl : u = Value.ref a := rx
  refine getmeth_ok I1 ea c hm l ?_
  refine PySem.W.callWith_K (first := [.ref a]) (h₀ := X.base) I.ok.mod.kin hm.kp (thn (ha.run pos pins s1 σ H1 _ I1 q) fun us s2 ⟨vs, H2, I2, r, q2⟩ => ⟨I2.kIn, ?_⟩) hst hpl
  exact run_fnSD (us := .ref a :: us) (vs := .ref a :: vs) F hr hb hd (hx σ) I2 (.cons rfl r) q2
theorem pe_methS0 {pl : Sem Bool} (he : PE X o ta) (c : Cls X.K Ca) (hm : Meth X.K Ca mth f) (F : FnOk X.prog X.w X.K X.mg X.base CX k f fd ns sp) (hr : Room k X.A) (hb : Binds X.K fd ns ds) (hd : Vals dvs ds) (hx : ∀ σ, PassesAt CX X σ (E σ))
    (ht : eval (.Call (.Attribute o mth apos) [] [] pos) X.env = (do
      let ov ← eval o X.env
      standAt apos.atName
      let (f, first) ← holding [ov] (getMethod ov mth pl)
      callWith pos f first (backTo pos (starEach [] X.env)) (backToKw pos (keywordEach [] X.env))) := by rfl) :
    PE X (.Call (.Attribute o mth apos) [] [] pos) (tMethS Ca mth sp dvs E ta tNil) := by
  refine ⟨fun pins s σ H Q I h => ?_⟩
  refine PySem.W.methodCall_KW (pl := pl) (thn (he.run pins s σ H _ I h) fun u s1 ⟨x, H1, I1, rx, a, dx, fs, ex, ea, l, q⟩ => ?_) ht
  subst ex
  obtain rfl : u = Value.ref a := rx
  refine getmeth_ok I1 ea c hm l ?_
  exact PySem.W.callWith_K0 (first := [.ref a]) I1.kIn hm.kp (run_fnSD (us := [.ref a]) (vs := [.ref a]) F hr hb hd (hx σ) I1 (.cons rfl .nil) q)
end
def fMeth (m : Bool) (c : Nat) (mth : Str) (Fn : List PV → R OV) (dps : List PV) (fo : Env → R PV) (fas : Env → R (List PV)) : Env → R OV := fun ρ => (fo ρ).bind fun p => match p with
  | .ins c' fs => if c' = c ∧ fs.lookup mth = none then (fas ρ).bind fun ps => capR m (Fn (.ins c' fs :: (ps ++ dps))) else .no
  | _ => .no
theorem meth_go {t : TA} (ht : t = tAs C W m fas ∨ (t = tNil ∧ fas = aNil)) (hp : ∀ H, Reps C.G H dps dvs) {Q : VK} (h : tF C W (fMeth m c mth Fn dps fo fas) σ H Q) : tMethS (C.G.CA c) mth (spP C.G Fn) dvs (WE W) (tE C W m fo) t σ H Q := by
  show tE C W m fo σ H fun x H1 => ∃ a dx fs, x = .ref a ∧ H1 a = some (.ins (C.G.CA c) dx fs) ∧ fs.lookup mth = none ∧ t σ H1 fun vs H2 => spP C.G Fn (x :: (vs ++ dvs)) H2 Q (WE W σ)
  rw [tF_iff] at h
  rw [tE_iff]
  obtain ⟨H₀, F, ρ, S, h⟩ := h
  unfold fMeth at h
  rw [Goes.bind] at h
  refine ⟨H₀, F, ρ, S, h.imp fun p _ hb v H1 H₁ E1 r1 => ?_⟩
  clear h
  cases p with
  | ins c' fs =>
    dsimp only at hb
    by_cases hc : c' = c ∧ fs.lookup mth = none
    · rw [if_pos hc] at hb
      obtain ⟨hc1, hc2⟩ := hc
      subst hc1
      have r1' := r1
      simp only [Rep] at r1'
      obtain ⟨a, dx, vs, e1, e2, e3⟩ := r1'
      have S1 := S.ext E1
      refine ⟨a, dx, vs, e1, md_H S1.z _ _ e2, e3.none_of hc2, ?_⟩
      rw [Goes.bind] at hb
      rcases ht with rfl | ⟨rfl, rfl⟩
      · rw [tA_iff]
        refine ⟨H₁, F, ρ, S1, (hb.later E1).imp fun ps _ h ws H2 H₂ E2 r2 => ?_⟩
        have E12 := E1.trans E2
        refine call_go (S1.ext E2) (Reps.cons (Rep.mono (md_ext E2) r1) (r2.append (hp _))) ((h.later E12).imp fun o _ h v H' H₀' Fv E ro nd fr => h v H' H₀' Fv (E12.trans E) ro nd fun a ha => ⟨Same.free E12.s (fr a ha).1, (fr a ha).2⟩)
      · have hb : Goes C.G W (capR m (Fn (.ins c' fs :: ([] ++ dps)))) σ H H₀ fun o => ∀ v H' H₀' Fv, Ext H₀ H H₀' H' → OwnR C.G H₀' H' o v Fv → Fv.Nodup → (∀ a ∈ Fv, H a = none ∧ H₀' a = none) → Q v H' := hb
        refine call_go S1 (qs := .ins c' fs :: ([] ++ dps)) (vs := v :: ([] ++ dvs)) (Reps.cons r1 (Reps.nil.append (hp _))) ((hb.later E1).imp fun o _ h v H' H₀' Fv E ro nd fr => h v H' H₀' Fv (E1.trans E) ro nd fun a ha => ⟨Same.free E1.s (fr a ha).1, (fr a ha).2⟩)
    · rw [if_neg hc] at hb
      exact hb.elim
  | _ => exact (show False from hb).elim
theorem qMeth {pl : Sem Bool} (Fo : FnOk X.prog X.w X.K X.mg X.base (L2N.CX X.prog X.w) k f fd ns (spP C.G Fn)) (hc : Cls X.K (C.G.CA c)) (hm : Meth X.K (C.G.CA c) mth f) (hr : Room k X.A) (tk : L2N.Takes X W) (hb : Binds X.K fd ns ds) (hd : Vals dvs ds) (hp : ∀ H, Reps C.G H dps dvs)
    (ho : QE C W m X o fo) (ha : QA C W m X (e :: es) fas)
    (hst : starEach (e :: es) X.env = (false, eval e X.env) :: starEach es X.env := by rfl) (hpl : (backTo pos (starEach es X.env)).any (·.1) = false := by rfl)
    (ht : eval (.Call (.Attribute o mth apos) (e :: es) [] pos) X.env = (do
      let ov ← eval o X.env
      standAt apos.atName
      let (f, first) ← holding [ov] (getMethod ov mth pl)
      callWith pos f first (backTo pos (starEach (e :: es) X.env)) (backToKw pos (keywordEach [] X.env))) := by rfl) :
    QF C W X (.Call (.Attribute o mth apos) (e :: es) [] pos) (fMeth m c mth Fn dps fo fas) :=
  PE.imp (pe_methS (E := WE W) (dvs := dvs) ho hc hm Fo hr hb hd (fun σ => L2N.passAt tk σ) ha hst hpl ht) fun σ H Q h => meth_go (.inl rfl) hp h
theorem qMeth0 {pl : Sem Bool} (Fo : FnOk X.prog X.w X.K X.mg X.base (L2N.CX X.prog X.w) k f fd ns (spP C.G Fn)) (hc : Cls X.K (C.G.CA c)) (hm : Meth X.K (C.G.CA c) mth f) (hr : Room k X.A) (tk : L2N.Takes X W) (hb : Binds X.K fd ns ds) (hd : Vals dvs ds) (hp : ∀ H, Reps C.G H dps dvs)
    (ho : QE C W m X o fo)
    (ht : eval (.Call (.Attribute o mth apos) [] [] pos) X.env = (do
      let ov ← eval o X.env
      standAt apos.atName
      let (f, first) ← holding [ov] (getMethod ov mth pl)
      callWith pos f first (backTo pos (starEach [] X.env)) (backToKw pos (keywordEach [] X.env))) := by rfl) :
    QF C W X (.Call (.Attribute o mth apos) [] [] pos) (fMeth m c mth Fn dps fo aNil) :=
  PE.imp (pe_methS0 (E := WE W) (dvs := dvs) ho hc hm Fo hr hb hd (fun σ => L2N.passAt tk σ) ht) fun σ H Q h => meth_go (.inr ⟨rfl, rfl⟩) hp h
/-! classes -/
def tMakeS (Ca : Addr) (sp : Sp) (dvs : List V) (E : L2.St → XK) (t : TA) : TE := fun σ H Q => t σ H fun vs H1 => ∀ x dx, H1 x = none → H1 dx = none → dx ≠ x →
  sp (.ref x :: (vs ++ dvs)) (upd (upd H1 dx (.own x)) x (.ins Ca dx [])) (fun v H2 => v = .non ∧ Q (.ref x) H2) (E σ)
section
variable {CX : CXT} {sp : Sp} {E : L2.St → XK} {t : TA}
theorem run_makeS {pins : List (Addr × Obj)} {s : Shared} {Q : VK} {us : List Value} {vs : List V} (M : Mk X.K Ca f) (F : FnOk X.prog X.w X.K X.mg X.base CX k f fd ns sp) (hr : Room (k + 1) X.A) (hb : Binds X.K fd ns ds) (hd : Vals dvs ds)
    (hx : PassesAt CX X σ (E σ)) (I : Inv X pins σ H s) (r : Vals vs us)
    (h : ∀ x dx, H x = none → H dx = none → dx ≠ x → sp (.ref x :: (vs ++ dvs)) (upd (upd H dx (.own x)) x (.ins Ca dx [])) (fun v H2 => v = .non ∧ Q (.ref x) H2) (E σ)) :
    wpAny (model X.prog X.w) X.A (call (.ref Ca) us) (EP X pins σ Q) X.xe s := by
  have hq := h (s.heap.objs.size + 1) s.heap.objs.size (I.hok.fresh (Nat.le_succ _)) (I.hok.fresh (Nat.le_refl _)) (Nat.ne_of_lt (Nat.lt_succ_self _))
  have I2 := Inv.made (C := Ca) I
  have r2 : Vals (V.ref (s.heap.objs.size + 1) :: (vs ++ dvs)) (Value.ref (s.heap.objs.size + 1) :: (us ++ ds)) := .cons rfl (r.append hd)
  have hl : (Value.ref (s.heap.objs.size + 1) :: us ++ ds).length = ns.length := by
    have e := r2.length
    rw [F.len _ _ _ _ hq] at e
    exact e.symm
  refine wpAny_call (make_map (f := f) I.kIn M.makes M.init (beq_iff_eq.mp M.fn) (codeAny_mono (F.run _ X.stack _ _ ⟨Value.ref (s.heap.objs.size + 1) :: us, []⟩ (Value.ref (s.heap.objs.size + 1) :: (us ++ ds)) _ _ (E σ) (hr.make Ca us [])
    (I2.env0.make Ca us []) (hb _ (Value.ref (s.heap.objs.size + 1) :: us) I2.kIn hl) r2 hq) fun r s' hq' => ?_))
  cases r with
  | error e => exact hx pins _ _ e s' I2 hq'
  | ok fl =>
    cases fl with
    | ret u =>
      obtain ⟨v, H', I3, rv, ev, q3⟩ := I2.after hq'
      subst ev
      exact ⟨rv, ⟨V.ref (s.heap.objs.size + 1), H', I3, rfl, q3⟩⟩
    | next => exact False.elim hq'
    | brk => exact False.elim hq'
    | cont => exact False.elim hq'
theorem pe_makeS (M : Mk X.K Ca f) (F : FnOk X.prog X.w X.K X.mg X.base CX k f fd ns sp) (hr : Room (k + 1) X.A) (hg : Gl X x) (hm : X.mg x = some (.ref Ca)) (hb : Binds X.K fd ns ds) (hd : Vals dvs ds) (hx : ∀ σ, PassesAt CX X σ (E σ))
    (ha : PA X (e :: es) t) (hdb : (x == ("__debug__" : Str)) = false := by decide) (he : starEach (e :: es) X.env = (false, eval e X.env) :: starEach es X.env := by rfl) (hpl : (backTo pos (starEach es X.env)).any (·.1) = false := by rfl) :
    PE X (.Call (.Name x p) (e :: es) [] pos) (tMakeS Ca sp dvs E t) := by
  refine ⟨fun pins s σ H Q I h => ?_⟩
  refine wpAny_Call_Name_kw (ld_glob I hg hm ?_ hdb)
  refine PySem.W.callWith_K (h₀ := X.base) I.ok.mod.kin M.kp (thn (ha.run pos pins s σ H _ I h) fun us s1 ⟨vs, H1, I1, r, q⟩ => ⟨I1.kIn, ?_⟩) he hpl
  exact run_makeS M F hr hb hd (hx σ) I1 r q
end
def fMake (m : Bool) (c : Nat) (FI : List PV → R (List (Str × OV))) (dps : List PV) (fas : Env → R (List PV)) : Env → R OV := fun ρ => (fas ρ).bind fun ps => capR m ((FI (ps ++ dps)).bind fun fs => .ok (.obj c fs))
theorem make_ext {x dx : Addr} {Ca : Addr} {H₀ H H₀' H' : Hp} (hx : H x = none) (hdx : H dx = none) (ne : dx ≠ x) (E : Ext H₀ (del (upd (upd H dx (.own x)) x (.ins Ca dx [])) x) H₀' (del H' x)) (hz : Same H₀ H) : Ext H₀ H H₀' H' := by
  have de : ∀ a, a ≠ x → a ≠ dx → del (upd (upd H dx (.own x)) x (.ins Ca dx [])) x a = H a := fun a h1 h2 => by
    unfold del
    rw [if_neg h1, upd_ne h1, upd_ne h2]
  have dn : ∀ a o, H a = some o → a ≠ x ∧ a ≠ dx := fun a o e => ⟨fun z => (by rw [z, hx] at e; cases e), fun z => (by rw [z, hdx] at e; cases e)⟩
  have un : ∀ a o, del H' x a = some o → H' a = some o := fun a o e => by
    unfold del at e
    split at e
    · cases e
    · exact e
  refine ⟨fun a o e => ?_, E.s0, fun a o e => un a o (E.z a o e), fun a ha => ?_⟩
  · obtain ⟨n1, n2⟩ := dn a o e
    exact un a o (E.s a o (by rw [de a n1 n2]; exact e))
  · refine E.n a ?_
    cases e : H a with
    | none => exact absurd e ha
    | some o =>
      obtain ⟨n1, n2⟩ := dn a o e
      rw [de a n1 n2, e]
      exact fun z => nomatch z
theorem qMake (Fo : FnOk X.prog X.w X.K X.mg X.base (L2N.CX X.prog X.w) k f fd ns (spI C.G c FI)) (M : Mk X.K (C.G.CA c) f) (hr : Room (k + 1) X.A) (tk : L2N.Takes X W) (hm : X.mg x = some (.ref (C.G.CA c))) (hb : Binds X.K fd ns ds) (hd : Vals dvs ds) (hp : ∀ H, Reps C.G H dps dvs)
    (ha : QA C W m X (e :: es) fas) (hg : Gl X x := by rfl) (hdb : (x == ("__debug__" : Str)) = false := by decide) (he : starEach (e :: es) X.env = (false, eval e X.env) :: starEach es X.env := by rfl) (hpl : (backTo pos (starEach es X.env)).any (·.1) = false := by rfl) :
    QF C W X (.Call (.Name x p) (e :: es) [] pos) (fMake m c FI dps fas) := by
  refine PE.imp (pe_makeS (E := WE W) M Fo hr hg hm hb hd (fun σ => L2N.passAt tk σ) ha hdb he hpl) fun σ H Q h => ?_
  show tAs C W m fas σ H fun vs H1 => ∀ x dx, H1 x = none → H1 dx = none → dx ≠ x → spI C.G c FI (.ref x :: (vs ++ dvs)) (upd (upd H1 dx (.own x)) x (.ins (C.G.CA c) dx [])) (fun v H2 => v = .non ∧ Q (.ref x) H2) (WE W σ)
  rw [tF_iff] at h
  rw [tA_iff]
  obtain ⟨H₀, F, ρ, S, h⟩ := h
  unfold fMake at h
  rw [Goes.bind] at h
  refine ⟨H₀, F, ρ, S, h.imp fun ps _ h vs H1 H₁ E1 r1 x dx hx hdx ne => ?_⟩
  have S1 := S.ext E1
  have zm : Same (md m H₁ H1 F) H1 := md_H S1.z
  refine ⟨x, dx, vs ++ dvs, md m H₁ H1 F, ps ++ dps, rfl, upd_same, Same.free zm hx, fun a o q => ?_, r1.append (hp _), ?_⟩
  · have n1 : a ≠ x := fun z => by rw [z, Same.free zm hx] at q; cases q
    have n2 : a ≠ dx := fun z => by rw [z, Same.free zm hdx] at q; cases q
    rw [upd_ne n1, upd_ne n2]
    exact zm a o q
  · cases q : FI (ps ++ dps) with
    | ok fs =>
      rw [q, R.bind_ok] at h
      obtain ⟨hc, h⟩ := h.cap_ok
      intro H' Hc Fv E ro nd fr
      have E2 := make_ext hx hdx ne E zm
      obtain ⟨H₀', E', c1, c2, c3⟩ := cap S1 E2
      refine ⟨rfl, h _ H' H₀' Fv (E1.trans E') (c1 _ _ _ hc ro) nd fun a ha => ⟨?_, c3 a (fr a ha).2⟩⟩
      refine Same.free E1.s ?_
      rcases (fr a ha).1 with z | z
      · rw [z]; exact hx
      · by_cases n1 : a = x
        · rw [n1]; exact hx
        · rw [upd_ne n1] at z
          by_cases n2 : a = dx
          · rw [n2]; exact hdx
          · rw [upd_ne n2] at z
            exact z
    | er z =>
      rw [q, R.bind_er] at h
      obtain ⟨hc, h⟩ := h.cap_er
      intro cls d H' Hc E rx
      have E2 := make_ext hx hdx ne E zm
      obtain ⟨H₀', E', c1, c2, c3⟩ := cap S1 E2
      exact h cls d H' H₀' (E1.trans E') (c2 _ _ _ hc rx)
    | no =>
      rw [q] at h
      exact h.elim
end
end L3

end
section
/-! L3. 7: statements -/
namespace L3
open PySem PySem.Spec PyProof.Rows L2
/-- how a block ends -/
inductive RS where
  | nx (ρ : Env) | rt (o : OV) | bk (ρ : Env) | ct (ρ : Env) | er (x : PX) (ρ : Env) | no
def R.to {α : Type} (r : R α) (ρ : Env) (k : α → RS) : RS := match r with
  | .ok a => k a
  | .er x => .er x ρ
  | .no => .no
@[simp] theorem R.to_ok {α : Type} (a : α) (ρ : Env) (k : α → RS) : (R.ok a).to ρ k = k a := rfl
@[simp] theorem R.to_er {α : Type} (x : PX) (ρ : Env) (k : α → RS) : (R.er x).to ρ k = .er x ρ := rfl
@[simp] theorem R.to_no {α : Type} (ρ : Env) (k : α → RS) : (R.no).to ρ k = .no := rfl
def Ret (C : Fc) (D : VK) (o : OV) : Prop := ∀ v H H₀ Fv, Ext C.Hz C.He H₀ H → OwnR C.G H₀ H o v Fv → Fv.Nodup → (∀ a ∈ Fv, C.He a = none ∧ H₀ a = none) → D v H
def Aft (C : Fc) (W : WX) (D : Ends) : RS → Prop
  | .nx ρ => ∀ σ H H₀ F, SR C H₀ F ρ σ H → D.nx σ H
  | .rt o => Ret C D.rt o
  | .bk ρ => ∀ σ H H₀ F, SR C H₀ F ρ σ H → D.bk σ H
  | .ct ρ => ∀ σ H H₀ F, SR C H₀ F ρ σ H → D.ct σ H
  | .er x ρ => ∀ cls d σ H H₀ F, SR C H₀ F ρ σ H → RepX C.G H₀ x cls d → W cls d σ H
  | .no => False
def tS (C : Fc) (W : WX) (f : Env → RS) : TS := fun D σ H => ∃ H₀ F ρ, SR C H₀ F ρ σ H ∧ Aft C W D (f ρ)
abbrev QS (C : Fc) (W : WX) (X : Cx) (st : Stmt) (f : Env → RS) : Prop := PS X st (tS C W f)
abbrev QSs (C : Fc) (W : WX) (X : Cx) (sts : List Stmt) (f : Env → RS) : Prop := PSs X sts (tS C W f)
/-! ### values that may be moved -/
def tM (C : Fc) (W : WX) (f : Env → R (OV × Env)) : TE := fun σ H Q => ∃ H₀ F ρ, SR C H₀ F ρ σ H ∧ Goes C.G W (f ρ) σ H H₀ fun q => ∀ v H' H₀' Fo Fr, Ext H₀ H H₀' H' → SR C H₀' Fr q.2 σ H' → OwnR C.G H₀' H' q.1 v Fo → (Fo ++ Fr).Nodup → (∀ a ∈ Fo, C.He a = none ∧ H₀' a = none) → Q v H'
abbrev QM (C : Fc) (W : WX) (X : Cx) (e : Expr) (f : Env → R (OV × Env)) : Prop := PE X e (tM C W f)
def mSh (f : Env → R PV) : Env → R (OV × Env) := fun ρ => (f ρ).bind fun p => .ok (.sh p, ρ)
def mFr (f : Env → R OV) : Env → R (OV × Env) := fun ρ => (f ρ).bind fun o => .ok (o, ρ)
def mMv (i : Nat) : Env → R (OV × Env) := fun ρ => match ρ[i]? with
  | some (some o) => .ok (o, ρ.set i none)
  | _ => .no
section
variable {G : Gc} {H₀ H : Hp}
/-- a slot's value, and the rest -/
theorem EnvR.take : ∀ {ρ : Env} {σ : L2.St} {F : List Addr} {i : Nat} {o : OV}, EnvR G H₀ H ρ σ F → ρ[i]? = some (some o) → F.Nodup → ∃ v Fo Fr, σ[i]? = some (some v) ∧ OwnR G H₀ H o v Fo ∧ EnvR G H₀ H (ρ.set i none) σ Fr ∧ (Fo ++ Fr).Nodup ∧ (∀ a, a ∈ Fo ∨ a ∈ Fr → a ∈ F)
  | [], σ, F, i, o, h, e, _ => by simp at e
  | none :: ρ, σ, F, 0, o, h, e, _ => by simp at e
  | none :: ρ, σ, F, i + 1, o, h, e, nd => by
    obtain ⟨x, τ, h1, h2⟩ := h
    subst h1
    obtain ⟨v, Fo, Fr, e1, e2, e3, e4, e5⟩ := EnvR.take (i := i) h2 (by simpa using e) nd
    exact ⟨v, Fo, Fr, by simpa using e1, e2, ⟨x, τ, rfl, e3⟩, e4, e5⟩
  | some o' :: ρ, σ, F, 0, o, h, e, nd => by
    obtain ⟨v, τ, F1, F2, h1, h2, h3, h4⟩ := h
    subst h1 h2
    simp at e
    subst e
    exact ⟨v, F1, F2, rfl, h3, ⟨_, τ, rfl, h4⟩, nd, fun a ha => List.mem_append.mpr ha⟩
  | some o' :: ρ, σ, F, i + 1, o, h, e, nd => by
    obtain ⟨v, τ, F1, F2, h1, h2, h3, h4⟩ := h
    subst h1 h2
    obtain ⟨m1, m2, m3⟩ := List.nodup_append.mp nd
    obtain ⟨w, Fo, Fr, e1, e2, e3, e4, e5⟩ := EnvR.take (i := i) h4 (by simpa using e) m2
    refine ⟨w, Fo, F1 ++ Fr, by simpa using e1, e2, ⟨v, τ, F1, Fr, rfl, rfl, h3, e3⟩, ?_, fun a ha => ?_⟩
    · obtain ⟨k1, k2, k3⟩ := List.nodup_append.mp e4
      refine List.nodup_append.mpr ⟨k1, List.nodup_append.mpr ⟨m1, k2, fun a ha b hb e => m3 a ha b (e5 b (.inr hb)) e⟩, fun a ha b hb e => ?_⟩
      rcases List.mem_append.mp hb with z | z
      · exact m3 b z a (e5 a (.inl ha)) e.symm
      · exact k3 a ha b z e
    · rcases ha with z | z
      · exact List.mem_append_right _ (e5 a (.inl z))
      · rcases List.mem_append.mp z with z | z
        · exact List.mem_append_left _ z
        · exact List.mem_append_right _ (e5 a (.inr z))
end
section
variable {C : Fc} {W : WX} {D : Ends} {m : Bool} {X : Cx} {e c : Expr} {es : List Expr} {a b : List Stmt} {st : Stmt} {pos p : Pos} {σ : L2.St} {H H₀ : Hp} {F : List Addr} {ρ : Env} {x : Str} {i : Nat}
theorem SR.entry (S : SR C H₀ F ρ σ H) : Ext C.Hz C.He H₀ H := ⟨S.e, S.hz, S.z, S.n⟩
theorem Aft.to {α : Type} {r : R α} {k : α → RS} (S : SR C H₀ F ρ σ H) (h : Aft C W D (r.to ρ k)) : Goes C.G W r σ H H₀ fun a => Aft C W D (k a) := by
  cases r with
  | ok a => exact h
  | er x => exact fun cls d H' H₀' E rx => h cls d σ H' H₀' F (S.ext E) rx
  | no => exact h
theorem tM_iff {f : Env → R (OV × Env)} {Q : VK} : tM C W f σ H Q ↔ ∃ H₀ F ρ, SR C H₀ F ρ σ H ∧ Goes C.G W (f ρ) σ H H₀ fun q => ∀ v H' H₀' Fo Fr, Ext H₀ H H₀' H' → SR C H₀' Fr q.2 σ H' → OwnR C.G H₀' H' q.1 v Fo → (Fo ++ Fr).Nodup → (∀ a ∈ Fo, C.He a = none ∧ H₀' a = none) → Q v H' := Iff.rfl
theorem qmSh {f : Env → R PV} (h : QE C W true X e f) : QM C W X e (mSh f) := by
  refine PE.imp h fun σ H Q h => ?_
  rw [tM_iff] at h
  rw [tE_iff]
  obtain ⟨H₀, F, ρ, S, h⟩ := h
  unfold mSh at h
  rw [Goes.bind] at h
  exact ⟨H₀, F, ρ, S, h.imp fun p _ h v H1 H₁ E1 r1 => h v H1 H₁ [] F E1 (S.ext E1) (by simp only [OwnR]; exact ⟨r1, trivial⟩) S.nd fun a ha => (by cases ha)⟩
theorem qmFr {f : Env → R OV} (h : QF C W X e f) : QM C W X e (mFr f) := by
  refine PE.imp h fun σ H Q h => ?_
  rw [tM_iff] at h
  rw [tF_iff]
  obtain ⟨H₀, F, ρ, S, h⟩ := h
  unfold mFr at h
  rw [Goes.bind] at h
  refine ⟨H₀, F, ρ, S, h.imp fun o _ h v H1 H₁ Fv E1 r1 nd fr => h v H1 H₁ Fv F E1 (S.ext E1) r1 ?_ fun a ha => ⟨Same.free S.e (fr a ha).1, (fr a ha).2⟩⟩
  refine List.nodup_append.mpr ⟨nd, S.nd, fun a ha b hb e => ?_⟩
  subst e
  obtain ⟨u, z⟩ := S.env.there a hb
  rw [(fr a ha).1] at z
  cases z
theorem qmMv (i : Nat) {x : Str} (hN : X.N[i]? = some x := by rfl) (hv : Vis X.env.scope x := by first | exact Or.inl rfl | exact Or.inr (Or.inl rfl) | exact Or.inr (Or.inr rfl)) (hd : (x == ("__debug__" : Str)) = false := by decide)
    (hcd : (x == ("__classdict__" : Str)) = false := by decide) : QM C W X (.Name x pos) (mMv i) := by
  refine PE.imp (pe_var hN hv hd hcd) fun σ H Q h => ?_
  obtain ⟨H₀, F, ρ, S, h⟩ := h
  unfold mMv at h
  cases e : ρ[i]? with
  | none => rw [e] at h; exact h.elim
  | some o =>
    rw [e] at h
    cases o with
    | none => exact h.elim
    | some o =>
      obtain ⟨v, Fo, Fr, e1, e2, e3, e4, e5⟩ := S.env.take e S.nd
      exact ⟨v, e1, h v H H₀ Fo Fr (Ext.refl S.z) ⟨S.e, S.z, S.n, S.hz, e3, (List.nodup_append.mp e4).2.1, fun a ha => S.fr a (e5 a (.inr ha)), S.fx, S.hx⟩ e2 e4 fun a ha => S.fr a (e5 a (.inl ha))⟩
/-! ### blocks -/
def sNx : Env → RS := fun ρ => .nx ρ
def sSeq (f g : Env → RS) : Env → RS := fun ρ => match f ρ with
  | .nx ρ' => g ρ'
  | r => r
theorem qNil : QSs C W X [] sNx := PSs.imp pss_nil fun D σ H ⟨H₀, F, ρ, S, h⟩ => h σ H H₀ F S
theorem qCons {f g : Env → RS} (h1 : QS C W X st f) (h2 : QSs C W X a g) : QSs C W X (st :: a) (sSeq f g) := by
  refine PSs.imp (pss_cons h1 h2) fun D σ H h => ?_
  obtain ⟨H₀, F, ρ, S, h⟩ := h
  refine ⟨H₀, F, ρ, S, ?_⟩
  unfold sSeq at h
  cases q : f ρ with
  | nx ρ' =>
    rw [q] at h
    exact fun σ' H' H₀' F' S' => ⟨H₀', F', ρ', S', h⟩
  | rt o => rw [q] at h; exact h
  | bk ρ' => rw [q] at h; exact h
  | ct ρ' => rw [q] at h; exact h
  | er x ρ' => rw [q] at h; exact h
  | no => rw [q] at h; exact h.elim
theorem qLast {f : Env → RS} (h1 : QS C W X st f) : QSs C W X [st] f := pss_one h1
def sBk : Env → RS := fun ρ => .bk ρ
def sCt : Env → RS := fun ρ => .ct ρ
theorem qPass : QS C W X (.Pass pos) sNx := PS.imp ps_pass fun D σ H ⟨H₀, F, ρ, S, h⟩ => h σ H H₀ F S
theorem qBreak : QS C W X (.Break pos) sBk := PS.imp ps_break fun D σ H ⟨H₀, F, ρ, S, h⟩ => h σ H H₀ F S
theorem qContinue : QS C W X (.Continue pos) sCt := PS.imp ps_continue fun D σ H ⟨H₀, F, ρ, S, h⟩ => h σ H H₀ F S
theorem qDoc {x j pos pos'} : QS C W X (.Expr (.Constant (.str x) j pos) pos') sNx := PS.imp ps_doc fun D σ H ⟨H₀, F, ρ, S, h⟩ => h σ H H₀ F S
def sNo : Env → RS := fun _ => .no
theorem qNo : QS C W X st sNo := PS.imp ps_never fun D σ H ⟨H₀, F, ρ, S, h⟩ => h.elim
theorem qsNo : QSs C W X a sNo := PSs.imp pss_never fun D σ H ⟨H₀, F, ρ, S, h⟩ => h.elim
/-- slots that nothing asks any more are forgotten -/
theorem SR.drops : ∀ (vs : List Nat) {F : List Addr}, SR C H₀ F ρ σ H → ∃ F', SR C H₀ F' (wipeE ρ vs) σ H
  | [], F, S => ⟨F, S⟩
  | v :: vs, F, S => by
    obtain ⟨F1, S1⟩ := SR.drops vs S
    exact S1.drop v
def sFg (vs : List Nat) (f : Env → RS) : Env → RS := fun ρ => f (wipeE ρ vs)
theorem qFg (vs : List Nat) {f : Env → RS} (h : QSs C W X a f) : QSs C W X a (sFg vs f) := PSs.imp h fun D σ H ⟨H₀, F, ρ, S, h⟩ => by
  obtain ⟨F', S'⟩ := S.drops vs
  exact ⟨H₀, F', _, S', h⟩
/-- a slot is frozen -/
def frz (i : Nat) (ρ : Env) : Env := match ρ[i]? with
  | some (some o) => ρ.set i (some (.sh o.pv))
  | _ => ρ
theorem set_set_none {ρ : Env} {i : Nat} {o : Option OV} : (ρ.set i none).set i o = ρ.set i o := by simp
theorem SR.frz (S : SR C H₀ F ρ σ H) (i : Nat) : ∃ H₀' F', SR C H₀' F' (L3.frz i ρ) σ H := by
  unfold L3.frz
  cases e : ρ[i]? with
  | none => exact ⟨H₀, F, S⟩
  | some o =>
    cases o with
    | none => exact ⟨H₀, F, S⟩
    | some o =>
      obtain ⟨v, Fo, Fr, e1, e2, e3, e4, e5⟩ := S.env.take e S.nd
      obtain ⟨n1, n2, n3⟩ := List.nodup_append.mp e4
      have fo : ∀ a ∈ Fo, C.He a = none ∧ H₀ a = none := fun a ha => S.fr a (e5 a (.inl ha))
      have z0 : Same H₀ (vw H₀ H Fo) := same_vw fun a ha => (fo a ha).2
      have r : Rep C.G (vw H₀ H Fo) o.pv v := OwnR.rep z0 (fun a ha => by unfold vw; rw [if_pos ha]) e2
      have er : EnvR C.G (vw H₀ H Fo) H (ρ.set i none) σ Fr := EnvR.mono z0 (fun a _ => rfl) e3
      have S1 : SR C (vw H₀ H Fo) Fr (ρ.set i none) σ H := by
        refine ⟨S.e, vw_same S.z, fun a ha => ?_, S.hz.trans z0, er, n2, fun a ha => ⟨(S.fr a (e5 a (.inr ha))).1, ?_⟩, S.fx, S.hx.trans z0⟩
        · unfold vw
          rw [if_neg fun z => ha (fo a z).1]
          exact S.n a ha
        · unfold vw
          rw [if_neg fun z => n3 a z a ha rfl]
          exact (S.fr a (e5 a (.inr ha))).2
      obtain ⟨F', p1, p2, p3⟩ := EnvR.put (o := .sh o.pv) (v := v) (Fv := []) i S1.env (by simp only [OwnR]; exact ⟨r, trivial⟩) S1.nd List.nodup_nil fun a ha => (by cases ha)
      rw [set_set_none] at p1
      have es : σ.set i (some v) = σ := by
        apply List.ext_getElem?
        intro j
        by_cases q : i = j
        · subst q
          rw [e1]
          have hl : i < σ.length := (List.getElem?_eq_some_iff.mp e1).1
          rw [List.getElem?_set_self hl]
        · rw [List.getElem?_set_ne q]
      rw [es] at p1
      exact ⟨_, F', S1.e, S1.z, S1.n, S1.hz, p1, p2, fun a ha => (p3 a ha).elim (S1.fr a) fun z => (by cases z), S1.fx, S1.hx⟩
def sFz (i : Nat) (f : Env → RS) : Env → RS := fun ρ => f (frz i ρ)
theorem qFzS (i : Nat) {f : Env → RS} (h : QSs C W X a f) : QSs C W X a (sFz i f) := PSs.imp h fun D σ H ⟨H₀, F, ρ, S, h⟩ => by
  obtain ⟨H₀', F', S'⟩ := S.frz i
  exact ⟨H₀', F', _, S', h⟩
/-! ### if, assignments, return, raise -/
def sIf (fc : Env → R Bool) (f g : Env → RS) : Env → RS := fun ρ => (fc ρ).to ρ fun k => if k = true then f ρ else g ρ
theorem qIfS {fc : Env → R Bool} {f g : Env → RS} (hc : QT C W X c fc) (ha : QSs C W X a f) (hb : QSs C W X b g) : QS C W X (.If c a b pos) (sIf fc f g) := by
  refine PS.imp (ps_if hc ha hb) fun D σ H h => ?_
  show tTt C W fc σ H fun k H1 => if k = true then tS C W f D σ H1 else tS C W g D σ H1
  rw [tT_iff]
  obtain ⟨H₀, F, ρ, S, h⟩ := h
  refine ⟨H₀, F, ρ, S, (Aft.to S h).imp fun k _ h H1 H₁ E1 => ?_⟩
  cases k with
  | true => exact ⟨H₁, F, ρ, S.ext E1, h⟩
  | false => exact ⟨H₁, F, ρ, S.ext E1, h⟩
def sSet (i : Nat) (f : Env → R (OV × Env)) : Env → RS := fun ρ => (f ρ).to ρ fun q => .nx (q.2.set i (some q.1))
theorem set_go {f : Env → R (OV × Env)} (hx : fxOk C i) (h : tS C W (sSet i f) D σ H) : tM C W f σ H fun v H1 => gName i v σ H1 D.nx := by
  obtain ⟨H₀, F, ρ, S, h⟩ := h
  refine ⟨H₀, F, ρ, S, (Aft.to S h).imp fun q _ h v H' H₀' Fo Fr E S' r nd fr => ?_⟩
  obtain ⟨n1, n2, n3⟩ := List.nodup_append.mp nd
  obtain ⟨F', S2⟩ := S'.put r n1 (fun a ha => ⟨(fr a ha).1, (fr a ha).2, fun z => n3 a ha a z rfl⟩) hx
  exact h _ H' H₀' F' S2
theorem qSet {f : Env → R (OV × Env)} (hx : fxOk C i) (hN : X.N.Nodup) (he : QM C W X e f) (hi : X.N[i]? = some x := by rfl) (hl : Loc X.env.scope x := by first | exact Or.inl rfl | exact Or.inr rfl) (hs : swapsWith e (some (.Name x p)) pos.line X.env = pure false := by rfl)
    (hf : X.fn x = true ∨ X.env.scope.names.lookup x = some .local := by first | exact .inl rfl | exact .inr rfl) : QS C W X (.Assign [.Name x p] e pos) (sSet i f) :=
  PS.imp (ps_set hN hi hl he hs hf) fun D σ H h => set_go hx h
/-- x = [.. for ..], on one line -/
theorem qSetLc {elt iter : Expr} {ifs : List Expr} {scope : Scope} {own : List (Str × Nat)} {spos : Pos} {T : Tg} {f : Env → R (List PV)} {t : Env → R Bool} {el : Env → R OV} {tg : Expr} (hx : fxOk C i) (hc : X.calm = true) (hN : X.N.Nodup) (hi : QI C W true X tg iter f) (ok : BlkOk X.N X.env.scope scope own) (hvs : ∀ i ∈ T.slots, i ∈ own.map (·.2)) (hfx : ∀ i ∈ own.map (·.2), fxOk C i)
    (hg : ∃ g : TG, (∀ (s : Shared) (H : Hp) (c : Addr) (cl : List (Str × Addr)) (fp : List Addr), PG (X.blk s H scope (compEnvC scope cl c X.env) fp) tg g) ∧ ∀ (p : PV) (v : V) (H₀ : Hp) (F : List Addr) (ρ ρ' : Env) (σ : L2.St) (H : Hp) (Q : L2.St → Hp → Prop), SR C H₀ F ρ σ H → Rep C.G H₀ p v → tgS T p ρ = .ok ρ' → (∀ σ' F', SR C H₀ F' ρ' σ' H → (∀ vs, (∀ i ∈ T.slots, i ∈ vs) → wipe σ' vs = wipe σ vs) → Q σ' H) → g v σ H Q)
    (ht : ∀ (s : Shared) (H : Hp) (c : Addr) (cl : List (Str × Addr)) (fp : List Addr), PTs (X.blk s H scope (compEnvC scope cl c X.env) fp) ifs (tTt C W0 t))
    (he : ∀ (s : Shared) (H : Hp) (c : Addr) (cl : List (Str × Addr)) (fp : List Addr), QF C W0 (X.blk s H scope (compEnvC scope cl c X.env) fp) elt el)
    (hsw : swapsWith (.ListComp elt [⟨tg, iter, ifs, 0⟩] scope pos) (some (.Name x p)) spos.line X.env = pure true) (hxi : X.N[i]? = some x := by rfl) (hl : X.env.scope.names.lookup x = some .local := by rfl) (hs : ∀ x, foldedSetIterable iter X.env x = pure x := by intro _; rfl) :
    QS C W X (.Assign [.Name x p] (.ListComp elt [⟨tg, iter, ifs, 0⟩] scope pos) spos) (sSet i (mFr (fLc T (own.map (·.2)) f t el))) := by
  obtain ⟨g, hg1, hg2⟩ := hg
  refine PS.imp (ps_setLc hc hN hxi hl hsw hi ok hg1 ht he hs) fun D σ H h => ?_
  refine lc_go hvs hfx hg2 ?_
  obtain ⟨H₀, F, ρ, S, h⟩ := set_go hx h
  unfold mFr at h
  rw [Goes.bind] at h
  rw [tF_iff]
  refine ⟨H₀, F, ρ, S, h.imp fun o _ h v H1 H₁ Fv E1 r1 nd fr => h v H1 H₁ Fv F E1 (S.ext E1) r1 ?_ fun a ha => ⟨Same.free S.e (fr a ha).1, (fr a ha).2⟩⟩
  refine List.nodup_append.mpr ⟨nd, S.nd, fun a ha b hb e => ?_⟩
  subst e
  obtain ⟨u, z⟩ := S.env.there a hb
  rw [(fr a ha).1] at z
  cases z
/-- any target that takes what is frozen -/
def sTg (T : Tg) (f : Env → R PV) : Env → RS := fun ρ => (f ρ).to ρ fun p => (tgS T p ρ).to ρ fun ρ' => .nx ρ'
theorem qTg {tg : Expr} {T : Tg} {f : Env → R PV} (he : QE C W true X e f) (hg : QG C X tg T) (hs : swapsWithSole [tg] e pos.line X.env = pure false := by rfl) (hw : swappedStores [tg] e X.env = pure none := by rfl)
    (h1 : (assignEach [tg] X.env).map (·.2) = [assign tg X.env] := by rfl) : QS C W X (.Assign [tg] e pos) (sTg T f) := by
  obtain ⟨t, g1, g2⟩ := hg.ex
  refine PS.imp (ps_asg he g1 hs hw h1) fun D σ H h => ?_
  show tE C W true f σ H fun v H1 => t v σ H1 D.nx
  rw [tE_iff]
  obtain ⟨H₀, F, ρ, S, h⟩ := h
  refine ⟨H₀, F, ρ, S, (Aft.to S h).imp fun q _ h v H' H₀' E r => ?_⟩
  have S1 := S.ext E
  cases et : tgS T q ρ with
  | ok ρ' =>
    rw [et] at h
    exact g2 q v H₀' F ρ ρ' σ H' D.nx S1 r et fun σ' F' S2 _ => h σ' H' H₀' F' S2
  | er x => exact absurd et tgS_calm
  | no => rw [et] at h; exact h.elim
/-- a, b = e, f -/
def sPar (i j : Nat) (f : Env → R (List PV)) : Env → RS := fun ρ => (f ρ).to ρ fun ps => match ps with
  | [p, q] => .nx ((ρ.set i (some (.sh p))).set j (some (.sh q)))
  | _ => .no
theorem qPar {j : Nat} {y : Str} {e1 e2 : Expr} {px py pt : Pos} {kt k2 pt2} {f : Env → R (List PV)} (hc : X.calm = true) (hx : fxOk C i) (hy : fxOk C j) (hN : X.N.Nodup) (ha : QA C W true X [e1, e2] f) (hi : X.N[i]? = some x := by rfl) (hj : X.N[j]? = some y := by rfl) (hij : i ≠ j := by decide)
    (hlx : X.env.scope.names.lookup x = some .local := by rfl) (hly : X.env.scope.names.lookup y = some .local := by rfl)
    (hw : swappedStores [.Tuple [.Name x px, .Name y py] kt pt] (.Tuple [e1, e2] k2 pt2) X.env = pure (some [x, y]) := by rfl)
    (hs : swapsWithSole [.Tuple [.Name x px, .Name y py] kt pt] (.Tuple [e1, e2] k2 pt2) pos.line X.env = pure false := by rfl) :
    QS C W X (.Assign [.Tuple [.Name x px, .Name y py] kt pt] (.Tuple [e1, e2] k2 pt2) pos) (sPar i j f) := by
  refine PS.imp (ps_par hc hN hi hj hij hlx hly ha hw hs) fun D σ H h => ?_
  show tAs C W true f σ H fun vs H1 => ∃ v w, vs = [v, w] ∧ D.nx ((σ.set i (some v)).set j (some w)) H1
  rw [tA_iff]
  obtain ⟨H₀, F, ρ, S, h⟩ := h
  refine ⟨H₀, F, ρ, S, (Aft.to S h).imp fun ps _ h vs H' H₀' E r => ?_⟩
  have S1 := S.ext E
  match ps, h, r with
  | [p, q], h, r =>
    obtain ⟨v, w, ev, r1, r2⟩ := reps2 r
    obtain ⟨F1, S2⟩ := S1.sh (p := p) r1 hx
    obtain ⟨F2, S3⟩ := S2.sh (p := q) r2 hy
    exact ⟨v, w, ev, h _ _ _ _ S3⟩
def sRt (f : Env → R (OV × Env)) : Env → RS := fun ρ => (f ρ).to ρ fun q => .rt q.1
theorem qRt {f : Env → R (OV × Env)} (he : QM C W X e f) : QS C W X (.Return (some e) pos) (sRt f) := by
  refine PS.imp (ps_ret he) fun D σ H h => ?_
  show tM C W f σ H D.rt
  rw [tM_iff]
  obtain ⟨H₀, F, ρ, S, h⟩ := h
  refine ⟨H₀, F, ρ, S, (Aft.to S h).imp fun q _ h v H' H₀' Fo Fr E S' r nd fr => ?_⟩
  exact h v H' H₀' Fo S'.entry r (List.nodup_append.mp nd).1 fr
def sRtN : Env → RS := fun _ => .rt (.sh .non)
theorem qRtN : QS C W X (.Return none pos) sRtN := PS.imp ps_retN fun D σ H ⟨H₀, F, ρ, S, h⟩ => h .non H H₀ [] S.entry (by simp [OwnR, Rep]) List.nodup_nil fun a ha => (by cases ha)
def sDo {α : Type} (f : Env → R α) : Env → RS := fun ρ => (f ρ).to ρ fun _ => .nx ρ
theorem qDo {f : Env → R PV} (he : QE C W m X e f) (hs : swapsWith e none pos.line X.env = pure false := by rfl) : QS C W X (.Expr e pos) (sDo f) := by
  refine PS.imp (ps_expr he hs) fun D σ H h => ?_
  show tE C W m f σ H fun _ H1 => D.nx σ H1
  rw [tE_iff]
  obtain ⟨H₀, F, ρ, S, h⟩ := h
  exact ⟨H₀, F, ρ, S, (Aft.to S h).imp fun p _ h v H' H₀' E r => h σ H' H₀' F (S.ext E)⟩
theorem qDoF {f : Env → R OV} (he : QF C W X e f) (hs : swapsWith e none pos.line X.env = pure false := by rfl) : QS C W X (.Expr e pos) (sDo f) := by
  refine PS.imp (ps_expr he hs) fun D σ H h => ?_
  show tF C W f σ H fun _ H1 => D.nx σ H1
  rw [tF_iff]
  obtain ⟨H₀, F, ρ, S, h⟩ := h
  exact ⟨H₀, F, ρ, S, (Aft.to S h).imp fun p _ h v H' H₀' Fv E r nd fr => h σ H' H₀' F (S.ext E)⟩
/-- raise of an own class whose __init__ keeps one thing -/
def sRz (c : Nat) (fl : Str) (f : Env → R PV) : Env → RS := fun ρ => (f ρ).to ρ fun p => .er ⟨c, [(fl, p)]⟩ ρ
theorem qRz {c : Nat} {fl : Str} {fI : Addr} {f : Env → R PV} {p2 : Pos} (hc : X.calm = true) (tk : L2N.Takes X W) (T : X3.SupC X.prog X.K (C.G.CA c) fI fl) (gC : X.mg x = some (.ref (C.G.CA c))) (kC : PySem.W.keepIn X.K (.ref (C.G.CA c)) = true) (rs : Raises X (.ref (C.G.CA c))) (hr : X.A.depth + 1 < recursionLimit) (ha : QE C W true X e f) (hg : Gl X x := by rfl)
    (hdb : (x == ("__debug__" : Str)) = false := by decide) (he : starEach (e :: []) X.env = (false, eval e X.env) :: starEach [] X.env := by rfl) (hpl : (backTo p (starEach [] X.env)).any (·.1) = false := by rfl) : QS C W X (.Raise (some (.Call (.Name x p2) [e] [] p)) none pos) (sRz c fl f) := by
  refine PS.imp (L2N.ps_raise hc tk (X3.pmk_sup (k := 0) T gC kC rs hr ha hg hdb he hpl)) fun D σ H h => ?_
  show tE C W true f σ H fun v H1 => ∀ d, H1 d = none → W (.ref (C.G.CA c)) (some d) σ (upd H1 d (.xd [(fl, v)]))
  rw [tE_iff]
  obtain ⟨H₀, F, ρ, S, h⟩ := h
  refine ⟨H₀, F, ρ, S, (Aft.to S h).imp fun p _ h v H' H₀' E r d hd => ?_⟩
  have S1 := S.ext E
  have E2 : Ext H₀' H' (upd H₀' d (.xd [(fl, v)])) (upd H' d (.xd [(fl, v)])) := ext_new S1.z hd
  have r : Rep C.G H₀' p v := r
  refine h _ _ σ _ _ F (S1.ext E2) ⟨rfl, .inr ⟨d, _, rfl, upd_same, ?_⟩⟩
  simp only [RepF]
  exact ⟨v, [], rfl, Rep.mono E2.s0 r, rfl⟩
end
end L3

end
section
/-! L3. 8: loops, try -/
namespace L3
open PySem PySem.Spec PyProof.Rows L2
def forGo (T : Tg) (fg : List Nat) (fb : Env → RS) : List PV → Env → RS
  | [], ρ => .nx ρ
  | p :: ps, ρ => match tgS T p ρ with
    | .ok ρ1 => match fb ρ1 with
      | .nx ρ2 => forGo T fg fb ps (wipeE ρ2 fg)
      | .ct ρ2 => forGo T fg fb ps (wipeE ρ2 fg)
      | .bk ρ2 => .nx (wipeE ρ2 fg)
      | r => r
    | _ => .no
def sFor (T : Tg) (fg : List Nat) (fi : Env → R (List PV)) (fb : Env → RS) : Env → RS := fun ρ => (fi ρ).to ρ fun ps => forGo T fg fb ps (wipeE ρ fg)
def whGo (fg : List Nat) (fc : Env → R Bool) (fb : Env → RS) : Nat → Env → RS
  | 0, _ => .no
  | n + 1, ρ => (fc ρ).to ρ fun k => if k = true then (match fb ρ with
      | .nx ρ2 => whGo fg fc fb n (wipeE ρ2 fg)
      | .ct ρ2 => whGo fg fc fb n (wipeE ρ2 fg)
      | .bk ρ2 => .nx (wipeE ρ2 fg)
      | r => r) else .nx ρ
def sWhile (fuel : Env → Nat) (fg : List Nat) (fc : Env → R Bool) (fb : Env → RS) : Env → RS := fun ρ => whGo fg fc fb (fuel ρ) (wipeE ρ fg)
section
variable {C : Fc} {W : WX} {D : Ends} {m : Bool} {X : Cx} {tg iter c : Expr} {body : List Stmt} {pos : Pos} {σ : L2.St} {H H₀ : Hp} {F : List Addr} {ρ : Env}
theorem SR.inx {Hx : Hp} (S : SR C H₀ F ρ σ H) (h : Same Hx H₀) : SR { C with Hx := Hx } H₀ F ρ σ H := ⟨S.e, S.z, S.n, S.hz, S.env, S.nd, S.fr, S.fx, h⟩
theorem SR.unx {Hx : Hp} (S : SR { C with Hx := Hx } H₀ F ρ σ H) (h : Same C.Hx Hx) : SR C H₀ F ρ σ H := ⟨S.e, S.z, S.n, S.hz, S.env, S.nd, S.fr, S.fx, h.trans S.hx⟩
theorem qFor {T : Tg} (fg : List Nat) {fi : Env → R (List PV)} {fb : Env → RS} (hp : PassesOwn (model X.prog X.w) X.A X.env X.xe) (hc : X.calm = true) (hi : QI C W true X tg iter fi) (hg : ∀ Hx, QG { C with Hx := Hx } X tg T) (hb : ∀ Hx, QSs { C with Hx := Hx } W X body fb)
    (hs : ∀ x, foldedSetIterable iter X.env x = pure x := by intro _; rfl) : QS C W X (.For tg iter body [] pos) (sFor T fg fi fb) := by
  refine ⟨fun pins s σ H D I h => ?_⟩
  -- the frozen heap at the loop's start
  obtain ⟨H₀, F, ρ, S, h⟩ := h
  have h := Aft.to S h
  cases q : fi ρ with
  | no => rw [q] at h; exact h.elim
  | er x =>
    obtain ⟨t, g1, _⟩ := (hg C.Hx).ex
    refine (ps_for (tb := tS { C with Hx := C.Hx } W fb) hp hc hi g1 (hb C.Hx) hs).run pins s σ H D I ?_
    refine ⟨H₀, F, ρ, S, ?_⟩
    rw [q] at h ⊢
    exact h
  | ok ps =>
    rw [q] at h
    have h : Aft C W D (forGo T fg fb ps (wipeE ρ fg)) := h
    -- the loop is read at a heap that comes only behind the iterable: so the reading chooses it
    have key : PS X (.For tg iter body [] pos) (tFor (tI C W true fi) (fun v σ H Q => ∃ t : TG, PG X tg t ∧ t v σ H Q) (fun D σ H => ∃ Hx, Same C.Hx Hx ∧ tS { C with Hx := Hx } W fb D σ H)) := by
      refine ps_for hp hc hi ⟨fun pins s σ H v u Q I r q => ?_⟩ ⟨fun pins s σ H D I q => ?_⟩ hs
      · obtain ⟨t, g1, q⟩ := q
        exact g1.run pins s σ H v u Q I r q
      · obtain ⟨Hx, hx, q⟩ := q
        exact (hb Hx).run pins s σ H D I q
    refine key.run pins s σ H D I ?_
    refine ⟨H₀, F, ρ, S, ?_⟩
    rw [q]
    intro J H1 H₁ E1 ip
    have ip : ItP C.G J H₁ ps := ip
    have S1 := S.ext E1
    obtain ⟨F1, S1'⟩ := S1.drops fg
    refine ⟨fun i mm σc Hc => mm = ps.length - i ∧ i ≤ ps.length ∧ ∃ H₀c Fc ρc, SR { C with Hx := H₁ } H₀c Fc ρc σc Hc ∧ Aft C W D (forGo T fg fb (ps.drop i) ρc), ⟨ps.length, by simp, Nat.zero_le _, H₁, F1, _, S1'.inx (Same.refl _), by simpa using h⟩, ?_⟩
    rintro i mm σc Hc ⟨rfl, hi', H₀c, Fc, ρc, Sc, hA⟩
    have sc : Same H₁ Hc := Sc.hx.trans Sc.z
    by_cases hlt : i < ps.length
    · have hpi : ps[i]? = some ps[i] := by simp [hlt]
      obtain ⟨jg, jy⟩ := ip.go i Hc _ sc hpi
      rw [List.drop_eq_getElem_cons hlt] at hA
      unfold forGo at hA
      refine .inr ⟨jg, fun σ' H' => ps.length - (i + 1) = ps.length - (i + 1) ∧ i + 1 ≤ ps.length ∧ ∃ H₀c Fc ρc, SR { C with Hx := H₁ } H₀c Fc ρc σ' H' ∧ Aft C W D (forGo T fg fb (ps.drop (i + 1)) ρc), fun σ' H' z => ⟨ps.length - (i + 1), by omega, z⟩, fun x H' y => ?_⟩
      obtain ⟨e1, rx⟩ := jy x H' y
      subst e1
      obtain ⟨t, g1, g2⟩ := (hg H₁).ex
      refine ⟨t, g1, ?_⟩
      cases et : tgS T ps[i] ρc with
      | er z => exact absurd et tgS_calm
      | no => rw [et] at hA; exact hA.elim
      | ok ρ1 =>
        rw [et] at hA
        refine g2 _ x H₀c Fc ρc ρ1 σc H' _ Sc (Rep.mono Sc.hx rx) et fun σ2 F2 S2 _ => ⟨H₁, S1.hx, H₀c, F2, ρ1, S2, ?_⟩
        dsimp only at hA
        cases eb : fb ρ1 with
        | nx ρ2 =>
          rw [eb] at hA
          intro σ3 H3 H₀3 F3 S3
          obtain ⟨F4, S4⟩ := S3.drops fg
          exact ⟨rfl, hlt, H₀3, F4, _, S4, hA⟩
        | ct ρ2 =>
          rw [eb] at hA
          intro σ3 H3 H₀3 F3 S3
          obtain ⟨F4, S4⟩ := S3.drops fg
          exact ⟨rfl, hlt, H₀3, F4, _, S4, hA⟩
        | bk ρ2 =>
          rw [eb] at hA
          intro σ3 H3 H₀3 F3 S3
          obtain ⟨F4, S4⟩ := S3.drops fg
          exact hA σ3 H3 H₀3 F4 (S4.unx S1.hx)
        | rt o => rw [eb] at hA; exact hA
        | er z ρ2 =>
          rw [eb] at hA
          intro cls d σ3 H3 H₀3 F3 S3 rx3
          exact hA cls d σ3 H3 H₀3 F3 (S3.unx S1.hx) rx3
        | no => rw [eb] at hA; exact hA
    · have hie : i = ps.length := by omega
      subst hie
      rw [List.drop_length] at hA
      unfold forGo at hA
      exact .inl ⟨ip.stop _ Hc sc (Nat.le_refl _), hA σc Hc H₀c Fc (Sc.unx S1.hx)⟩
theorem qWhile (fuel : Env → Nat) (fg : List Nat) {fc : Env → R Bool} {fb : Env → RS} (hp : PassesOwn (model X.prog X.w) X.A X.env X.xe) (hc : QT C W X c fc) (hb : QSs C W X body fb) : QS C W X (.While c body [] pos) (sWhile fuel fg fc fb) := by
  refine PS.imp (ps_while hp hc hb) fun D σ H h => ?_
  obtain ⟨H₀, F, ρ, S, h⟩ := h
  obtain ⟨F1, S1⟩ := S.drops fg
  refine ⟨fun n σ H => ∃ H₀ F ρ, SR C H₀ F ρ σ H ∧ Aft C W D (whGo fg fc fb n ρ), ⟨fuel ρ, H₀, F1, _, S1, h⟩, ?_⟩
  rintro n σ H ⟨H₀, F, ρ, S, h⟩
  cases n with
  | zero => exact h.elim
  | succ n =>
    unfold whGo at h
    rw [tT_iff]
    refine ⟨H₀, F, ρ, S, (Aft.to S h).imp fun k _ h H1 H₁ E1 => ?_⟩
    have S1 := S.ext E1
    cases k with
    | false => exact h σ H1 H₁ F S1
    | true =>
      rw [if_pos rfl] at h
      show if true = true then _ else _
      rw [if_pos rfl]
      refine ⟨fun σ' H' => ∃ H₀ F ρ, SR C H₀ F ρ σ' H' ∧ Aft C W D (whGo fg fc fb n ρ), fun σ' H' z => ⟨n, Nat.lt_succ_self _, z⟩, H₁, F, ρ, S1, ?_⟩
      cases eb : fb ρ with
      | nx ρ2 =>
        rw [eb] at h
        intro σ3 H3 H₀3 F3 S3
        obtain ⟨F4, S4⟩ := S3.drops fg
        exact ⟨H₀3, F4, _, S4, h⟩
      | ct ρ2 =>
        rw [eb] at h
        intro σ3 H3 H₀3 F3 S3
        obtain ⟨F4, S4⟩ := S3.drops fg
        exact ⟨H₀3, F4, _, S4, h⟩
      | bk ρ2 =>
        rw [eb] at h
        intro σ3 H3 H₀3 F3 S3
        obtain ⟨F4, S4⟩ := S3.drops fg
        exact h σ3 H3 H₀3 F4 S4
      | rt o => rw [eb] at h; exact h
      | er z ρ2 => rw [eb] at h; exact h
      | no => rw [eb] at h; exact h
end
/-! ### try -/
structure Hd where
  mt : Nat → Option Bool
  nm : Option Nat
  su : PX → Env → RS
def calmS : RS → RS
  | .er _ _ => .no
  | r => r
def goneS (i : Nat) : RS → RS
  | .nx ρ => .nx (ρ.set i none)
  | .bk ρ => .bk (ρ.set i none)
  | .ct ρ => .ct (ρ.set i none)
  | r => r
def handle : List Hd → PX → Env → RS
  | [], x, ρ => .er x ρ
  | h :: r, x, ρ => match h.mt x.c with
    | some true => (match h.nm with
      | none => calmS (h.su x ρ)
      | some i => if i < ρ.length then goneS i (calmS (h.su x (ρ.set i none))) else .no)
    | some false => handle r x ρ
    | none => .no
def sTry (f : Env → RS) (hs : List Hd) : Env → RS := fun ρ => match f ρ with
  | .er x ρ' => handle hs x ρ'
  | r => r
/-- a suite's reading -/
def suR (C : Fc) (i : Option Nat) (g : PX → Env → RS) : X3.Su := fun a cls d D σ H => ∃ x Hx, RepX C.G Hx x cls d ∧ tS { C with Hx := Hx, fx := i.elim none fun i => some (i, .ref a) } W0 (fun ρ => calmS (g x ρ)) D σ H
inductive HdQ (C : Fc) (X : Cx) : List ExceptHandler → List Hd → List (Value × Option Nat × X3.Su) → Prop
  | nil : HdQ C X [] [] []
  | bare {x : Str} {c : Value} {mt : Nat → Option Bool} {g : PX → Env → RS} {b₀ : Stmt} {su : List Stmt} {p1 p2 : Pos} {hds : List ExceptHandler} {hs : List Hd} {l : List (Value × Option Nat × X3.Su)} (hc : Names X x c) (hm : ∀ c' b, mt c' = some b → PySem.W.exmOne X.K (.ref (C.G.CA c')) c = some b)
      (hsu : ∀ (a : Addr) (ob : Obj) (cls : Value) (d : Option Addr) (pl : List (Addr × Obj)) (x : PX) (Hx : Hp), L2N.Zn cls d ob → (∃ vs, ob.data = .fields vs) → RepX C.G Hx x cls d → QSs { C with Hx := Hx, fx := none } W0 (X.suite a ((a, ob) :: pl)) (b₀ :: su) (g x)) (r : HdQ C X hds hs l) :
      HdQ C X (.ExceptHandler (some (.Name x p1)) none (b₀ :: su) p2 :: hds) (⟨mt, none, g⟩ :: hs) ((c, none, suR C none g) :: l)
  | named {x n : Str} {i : Nat} {c : Value} {mt : Nat → Option Bool} {g : PX → Env → RS} {b₀ : Stmt} {su : List Stmt} {p1 p2 : Pos} {hds : List ExceptHandler} {hs : List Hd} {l : List (Value × Option Nat × X3.Su)} (hN : X.N.Nodup) (hc : Names X x c) (hm : ∀ c' b, mt c' = some b → PySem.W.exmOne X.K (.ref (C.G.CA c')) c = some b)
      (hsu : ∀ (a : Addr) (ob : Obj) (cls : Value) (d : Option Addr) (pl : List (Addr × Obj)) (x : PX) (Hx : Hp), L2N.Zn cls d ob → (∃ vs, ob.data = .fields vs) → RepX C.G Hx x cls d → QSs { C with Hx := Hx, fx := some (i, .ref a) } W0 (X.suite a ((a, ob) :: pl)) (b₀ :: su) (g x)) (r : HdQ C X hds hs l)
      (hi : X.N[i]? = some n := by rfl) (hl : X.env.kindOf n = some .local := by rfl) :
      HdQ C X (.ExceptHandler (some (.Name x p1)) (some n) (b₀ :: su) p2 :: hds) (⟨mt, some i, g⟩ :: hs) ((c, some i, suR C (some i) g) :: l)
section
variable {C : Fc} {W : WX} {D : Ends} {m : Bool} {X : Cx} {e : Expr} {body : List Stmt} {h₀ : ExceptHandler} {hds : List ExceptHandler} {pos p : Pos} {σ : L2.St} {H H₀ : Hp} {F : List Addr} {ρ : Env} {hs : List Hd} {l : List (Value × Option Nat × X3.Su)}
theorem aft_calm {r : RS} (h : Aft C W0 D (calmS r)) : Aft C W0 D r := by
  cases r with
  | er x ρ => exact (show False from h).elim
  | nx ρ => exact h
  | rt o => exact h
  | bk ρ => exact h
  | ct ρ => exact h
  | no => exact h
theorem HdQ.ok (h : HdQ C X hds hs l) : X3.HdOk X hds l := by
  induction h with
  | nil => exact .nil
  | @bare x c mt g b₀ su p1 p2 hds hs l hc hm hsu r ih =>
    refine .bare hc (fun a ob cls d pl hz hf => ⟨fun pins s σ H D I q => ?_⟩) ih
    obtain ⟨x, Hx, rx, H₀, F, ρ, S, q⟩ := q
    exact (hsu a ob cls d pl x Hx hz hf rx).run pins s σ H D I ⟨H₀, F, ρ, S, aft_calm q⟩
  | @named x n i c mt g b₀ su p1 p2 hds hs l hN hc hm hsu r hi hl ih =>
    refine .named hN hi hl hc (fun a ob cls d pl hz hf => ⟨fun pins s σ H D I q => ?_⟩) ih
    obtain ⟨x, Hx, rx, H₀, F, ρ, S, q⟩ := q
    exact (hsu a ob cls d pl x Hx hz hf rx).run pins s σ H D I ⟨H₀, F, ρ, S, aft_calm q⟩
theorem SR.goneAt (S : SR C H₀ F ρ σ H) (i : Nat) (x : Option V) (hx : fxOk C i) : ∃ F', SR C H₀ F' (ρ.set i none) (σ.set i x) H := by
  obtain ⟨F', S1⟩ := S.drop i
  refine ⟨F', ?_⟩
  by_cases hl : i < ρ.length
  · exact S1.any x (List.getElem?_set_self hl) hx
  · have e : σ.set i x = σ := List.set_eq_of_length_le (by have := S.env.length; omega)
    rw [e]
    exact S1
/-- another slot is fixed -/
theorem SR.fixed (S : SR C H₀ F ρ σ H) {Hx : Hp} {f : Option (Nat × V)} (h : Same Hx H₀) (k : ∀ i v, f = some (i, v) → σ[i]? = some (some v)) : SR { C with Hx := Hx, fx := f } H₀ F ρ σ H := ⟨S.e, S.z, S.n, S.hz, S.env, S.nd, S.fr, k, h⟩
theorem aft_su (hfx : C.fx = none) {r : RS} {Hx : Hp} (hh : Same C.Hx Hx) (h : Aft C W D (calmS r)) : Aft { C with Hx := Hx, fx := none } W0 D (calmS r) := by
  have un : ∀ {ρ σ H H₀' F}, SR { C with Hx := Hx, fx := none } H₀' F ρ σ H → SR C H₀' F ρ σ H := fun {ρ σ H H₀' F} T => ⟨T.e, T.z, T.n, T.hz, T.env, T.nd, T.fr, fun i v z => (by rw [hfx] at z; cases z), hh.trans T.hx⟩
  cases r with
  | nx ρ' => exact fun σ' H' H₀' F' T => h σ' H' H₀' F' (un T)
  | bk ρ' => exact fun σ' H' H₀' F' T => h σ' H' H₀' F' (un T)
  | ct ρ' => exact fun σ' H' H₀' F' T => h σ' H' H₀' F' (un T)
  | rt o => exact h
  | er z ρ' => exact h
  | no => exact h
theorem aft_su2 (hfx : C.fx = none) {r : RS} {Hx : Hp} {i : Nat} {v : V} (hh : Same C.Hx Hx) (h : Aft C W D (goneS i (calmS r))) : Aft { C with Hx := Hx, fx := some (i, v) } W0 (X3.Ends.gone D i) (calmS r) := by
  have un : ∀ {ρ σ H H₀' F}, SR { C with Hx := Hx, fx := some (i, v) } H₀' F ρ σ H → ∃ F', SR C H₀' F' (ρ.set i none) (σ.set i none) H := fun {ρ σ H H₀' F} T =>
    SR.goneAt (C := C) (⟨T.e, T.z, T.n, T.hz, T.env, T.nd, T.fr, fun i v z => (by rw [hfx] at z; cases z), hh.trans T.hx⟩) i none fun j v z => (by rw [hfx] at z; cases z)
  cases r with
  | nx ρ' => exact fun σ' H' H₀' F' T => let ⟨F2, T2⟩ := un T; h _ H' H₀' F2 T2
  | bk ρ' => exact fun σ' H' H₀' F' T => let ⟨F2, T2⟩ := un T; h _ H' H₀' F2 T2
  | ct ρ' => exact fun σ' H' H₀' F' T => let ⟨F2, T2⟩ := un T; h _ H' H₀' F2 T2
  | rt o => exact h
  | er z ρ' => exact h
  | no => exact h
theorem handle_go (hfx : C.fx = none) (hq : HdQ C X hds hs l) : ∀ {x : PX} {cls : Value} {d : Option Addr}, SR C H₀ F ρ σ H → RepX C.G H₀ x cls d → Aft C W D (handle hs x ρ) → X3.wH X.K W D l cls d σ H := by
  induction hq with
  | nil =>
    intro x cls d S rx h
    exact h cls d σ H H₀ F S rx
  | @bare xn c mt g b₀ su p1 p2 hds hs l hc hm hsu r ih =>
    intro x cls d S rx h
    unfold handle at h
    dsimp only at h
    cases em : mt x.c with
    | none => rw [em] at h; exact h.elim
    | some b =>
      rw [em] at h
      refine ⟨b, by rw [rx.1]; exact hm _ _ em, fun hb a ha => ?_, fun hb => ?_⟩
      · subst hb
        exact ⟨x, H₀, rx, H₀, F, ρ, S.fixed (Same.refl _) (fun i v z => nomatch z), aft_su hfx S.hx h⟩
      · subst hb
        exact ih S rx h
  | @named xn n i c mt g b₀ su p1 p2 hds hs l hN hc hm hsu r hi hl ih =>
    intro x cls d S rx h
    unfold handle at h
    dsimp only at h
    cases em : mt x.c with
    | none => rw [em] at h; exact h.elim
    | some b =>
      rw [em] at h
      refine ⟨b, by rw [rx.1]; exact hm _ _ em, fun hb a ha => ?_, fun hb => ?_⟩
      · subst hb
        dsimp only at h
        obtain ⟨F2, S2⟩ := S.goneAt i (some (.ref a)) fun j v z => (by rw [hfx] at z; cases z)
        by_cases hil : i < ρ.length
        rotate_left
        · rw [if_neg hil] at h
          exact h.elim
        rw [if_pos hil] at h
        have hil : i < σ.length := by rw [← S.env.length]; exact hil
        refine ⟨x, H₀, rx, H₀, F2, _, S2.fixed (Same.refl _) (fun j v z => ?_), aft_su2 hfx S.hx h⟩
        have z : (i, V.ref a) = (j, v) := Option.some.inj z
        cases z
        exact List.getElem?_set_self hil
      · subst hb
        exact ih S rx h
theorem qTry {f : Env → RS} (hst : X.stack = X.env :: X.outer) (hfr : X.env.frame = some X.env.locals) (hfx : C.fx = none) (tk : L2N.Takes X W)
    (hb : ∀ (W : WX) (pl : List (Addr × Obj)) (xe : Value → Shared → Prop), L2N.Takes (X.tr pl xe) W → PassesOwn (model X.prog X.w) X.A X.env xe → QSs C W (X.tr pl xe) body f)
    (hq : HdQ C X (h₀ :: hds) hs l) : QS C W X (.Try body (h₀ :: hds) [] [] pos) (sTry f hs) := by
  refine PS.imp (X3.ps_tryH (tb := fun W => tS C W f) hst hfr tk hb hq.ok) fun D σ H h => ?_
  obtain ⟨H₀, F, ρ, S, h⟩ := h
  refine ⟨H₀, F, ρ, S, ?_⟩
  unfold sTry at h
  cases q : f ρ with
  | er x ρ' =>
    rw [q] at h
    exact fun cls d σ' H' H₀' F' S' rx => handle_go hfx hq S' rx h
  | nx ρ' => rw [q] at h; exact h
  | rt o => rw [q] at h; exact h
  | bk ρ' => rw [q] at h; exact h
  | ct ρ' => rw [q] at h; exact h
  | no => rw [q] at h; exact h
/-! ### in a suite: the exception's fields, isinstance -/
section
variable {a : Addr} {ob : Obj} {cls : Value} {d : Option Addr} {pl : List (Addr × Obj)} {x : PX} {i : Nat} {xn : Str}
/-- a fixed slot's value -/
theorem qFixed {W : WX} {Hx : Hp} {X' : Cx} {Q : VK} (hN : X'.N[i]? = some xn) (S : SR { C with Hx := Hx, fx := some (i, .ref a) } H₀ F ρ σ H) : σ[i]? = some (some (.ref a)) := S.fx i _ rfl
def eXf (ok : Nat → Bool) (x : PX) (fl : Str) : Env → R PV := fun _ => if ok x.c = true then R.of (x.fs.lookup fl) else .no
theorem qXf {W : WX} {Hx : Hp} {fl : Str} {ok : Nat → Bool} (T : ∀ c, ok c = true → XfC X.K (C.G.CA c) ∧ PySem.W.findIn X.K (.ref (C.G.CA c)) fl = some none) (hz : L2N.Zn cls d ob) (hf : ∃ vs, ob.data = .fields vs) (rx : RepX C.G Hx x cls d)
    (hN : X.N[i]? = some xn := by rfl) (hv : Vis X.env.scope xn := by first | exact Or.inl rfl | exact Or.inr (Or.inl rfl) | exact Or.inr (Or.inr rfl)) (hd : (xn == ("__debug__" : Str)) = false := by decide)
    (hcd : (xn == ("__classdict__" : Str)) = false := by decide) (hb : attributeBase (.Name xn p) fl X.env (eval (.Name xn p) X.env) = eval (.Name xn p) X.env := by rfl) :
    QE { C with Hx := Hx, fx := some (i, .ref a) } W m (X.suite a ((a, ob) :: pl)) (.Attribute (.Name xn p) fl pos) (eXf ok x fl) := by
  have hE : PE (X.suite a ((a, ob) :: pl)) (.Name xn p) (tVar i) := pe_var (X := X.suite a ((a, ob) :: pl)) hN hv hd hcd
  cases hok : ok x.c with
  | false =>
    refine ⟨fun pins s σ H Q I h => ?_⟩
    obtain ⟨H₀, F, ρ, S, h⟩ := h
    unfold eXf at h
    rw [hok, if_neg Bool.false_ne_true] at h
    exact h.elim
  | true =>
    obtain ⟨T1, T2⟩ := T _ hok
    refine PE.imp (pe_xf T1 T2 hz.zc hf hE hb) fun σ H Q h => ?_
    obtain ⟨H₀, F, ρ, S, h⟩ := h
    unfold eXf at h
    rw [hok, if_pos rfl] at h
    refine ⟨.ref a, S.fx i _ rfl, rfl, rx.1, ?_⟩
    cases el : x.fs.lookup fl with
    | none => rw [el] at h; exact h.elim
    | some p =>
      rw [el] at h
      rcases rx.2 with ⟨e1, _⟩ | ⟨dd, vs, e1, e2, e3⟩
      · rw [e1] at el; cases el
      · obtain ⟨v, ev, rv⟩ := e3.get el
        refine ⟨dd, vs, v, e1, S.z _ _ (S.hx _ _ e2), ev, h v H H₀ (Ext.refl S.z) ?_⟩
        exact Rep.mono (z_md fun a ha => (S.fr a ha).2) (Rep.mono S.hx rv)
def eXi (ib : Nat → Option Bool) (x : PX) : Env → R PV := fun _ => R.of ((ib x.c).map .bl)
theorem qXi {W : WX} {Hx : Hp} {T : Str} {p1 p2 p3 : Pos} {A : Addr} {ib : Nat → Option Bool} (hm : X.mg "isinstance" = none) (hT : X.mg T = some (.ref A)) (hi : ∀ c b, ib c = some b → X3.ExI X.K (C.G.CA c) ∧ PySem.W.kitOne X.K (.ref (C.G.CA c)) (.ref A) = some b)
    (hz : L2N.Zn cls d ob) (hf : ∃ vs, ob.data = .fields vs) (rx : RepX C.G Hx x cls d)
    (hN : X.N[i]? = some xn := by rfl) (hv : Vis X.env.scope xn := by first | exact Or.inl rfl | exact Or.inr (Or.inl rfl) | exact Or.inr (Or.inr rfl)) (hd : (xn == ("__debug__" : Str)) = false := by decide)
    (hcd : (xn == ("__classdict__" : Str)) = false := by decide) (hg : Gl X "isinstance" := by rfl) (hgT : Gl X T := by rfl) (hdT : (T == ("__debug__" : Str)) = false := by decide)
    (he : starEach (.Name xn p1 :: .Name T p2 :: []) X.env = (false, eval (.Name xn p1) X.env) :: starEach [.Name T p2] X.env := by rfl) (hpl : (backTo pos (starEach [.Name T p2] X.env)).any (·.1) = false := by rfl)
    (hs1 : starEach [.Name T p2] X.env = [(false, eval (.Name T p2) X.env)] := by rfl) :
    QE { C with Hx := Hx, fx := some (i, .ref a) } W m (X.suite a ((a, ob) :: pl)) (.Call (.Name "isinstance" p3) [.Name xn p1, .Name T p2] [] pos) (eXi ib x) := by
  have hE : PE (X.suite a ((a, ob) :: pl)) (.Name xn p1) (tVar i) := pe_var (X := X.suite a ((a, ob) :: pl)) hN hv hd hcd
  cases hok : ib x.c with
  | none =>
    refine ⟨fun pins s σ H Q I h => ?_⟩
    obtain ⟨H₀, F, ρ, S, h⟩ := h
    unfold eXi at h
    rw [hok] at h
    exact h.elim
  | some b =>
    obtain ⟨T1, T2⟩ := hi _ _ hok
    have hgE : PE (X.suite a ((a, ob) :: pl)) (.Name T p2) (tC (.ref A)) := pe_glob (X := X.suite a ((a, ob) :: pl)) hgT hT rfl hdT
    have hA : PA (X.suite a ((a, ob) :: pl)) [.Name xn p1, .Name T p2] (tCons (tVar i) (tCons (tC (.ref A)) tNil)) := pa_cons hE (pa_cons hgE pa_nil hs1) he
    have hcl : cls = .ref (C.G.CA x.c) := rx.1
    obtain ⟨fs, hfs⟩ : ∃ fs : List (Str × V), ∀ H₀ : Hp, Same Hx H₀ → ∀ dd, d = some dd → H₀ dd = some (.xd fs) := by
      rcases rx.2 with ⟨_, e1⟩ | ⟨dd, vs, e1, e2, e3⟩
      · exact ⟨[], fun H₀ _ dd z => by rw [e1] at z; cases z⟩
      · exact ⟨vs, fun H₀ z dd' z' => by rw [e1] at z'; cases z'; exact z _ _ e2⟩
    have hz' : Zc (.ref (C.G.CA x.c)) d ob := by rw [← hcl]; exact hz.zc
    have hcr := X3.call_isX (X := X) (a := a) (fs := fs) (pn := pl) T1 hz' hf
    refine PE.imp (pe_callB (X := X.suite a ((a, ob) :: pl)) hcr hg hm bt_isi hA (by decide) (by decide) he hpl) fun σ H Q h => ?_
    obtain ⟨H₀, F, ρ, S, h⟩ := h
    unfold eXi at h
    rw [hok] at h
    refine ⟨.ref a, S.fx i _ rfl, ⟨fun dd z => S.z _ _ (hfs _ S.hx dd z), .ref A, .ref A, b, rfl, fun u ru => ru, T2, ?_⟩⟩
    exact h (.bl b) H H₀ (Ext.refl S.z) (by simp only [Rep])
end
end
end L3

end
section
/-! L3. 9: what is owned is changed in place -/
namespace L3
open PySem PySem.Spec PyProof.Rows L2
inductive Stp where
  | ix (j : Nat) | fl (f : Str)
def putO (f : Str) (v : OV) : List (Str × OV) → List (Str × OV)
  | [] => [(f, v)]
  | (g, x) :: r => if g = f then (g, v) :: r else (g, x) :: putO f v r
def getP : List Stp → OV → Option OV
  | [], o => some o
  | .ix j :: π, .own l => (l[j]?).bind (getP π)
  | .fl f :: π, .obj _ fs => (fs.lookup f).bind (getP π)
  | _, _ => none
def setP : List Stp → OV → OV → OV
  | [], _, n => n
  | .ix j :: π, .own l, n => (match l[j]? with
    | some o => .own (l.set j (setP π o n))
    | none => .own l)
  | .fl f :: π, .obj c fs, n => (match fs.lookup f with
    | some o => .obj c (putO f (setP π o n) fs)
    | none => .obj c fs)
  | _, o, _ => o
/-- the value at a path -/
def AtP (H : Hp) : V → List Stp → V → Prop
  | v, [], w => v = w
  | v, .ix j :: π, w => ∃ a xs x, v = .ref a ∧ H a = some (.lst xs) ∧ xs[j]? = some x ∧ AtP H x π w
  | v, .fl f :: π, w => ∃ a c dx fs x, v = .ref a ∧ H a = some (.ins c dx fs) ∧ fs.lookup f = some x ∧ AtP H x π w
section
variable {G : Gc} {H₀ H H' : Hp}
theorem AtP.mono (e : Same H H') : ∀ {π : List Stp} {v w : V}, AtP H v π w → AtP H' v π w
  | [], _, _, h => h
  | .ix j :: π, v, w, h => by
    obtain ⟨a, xs, x, h1, h2, h3, h4⟩ := h
    exact ⟨a, xs, x, h1, e _ _ h2, h3, AtP.mono e h4⟩
  | .fl f :: π, v, w, h => by
    obtain ⟨a, c, dx, fs, x, h1, h2, h3, h4⟩ := h
    exact ⟨a, c, dx, fs, x, h1, e _ _ h2, h3, AtP.mono e h4⟩
theorem AtP.det : ∀ {π : List Stp} {v w w' : V}, AtP H v π w → AtP H v π w' → w = w'
  | [], _, _, _, h, k => (show _ = _ from h).symm.trans k
  | .ix j :: π, v, w, w', h, k => by
    obtain ⟨a, xs, x, h1, h2, h3, h4⟩ := h
    obtain ⟨a', xs', x', k1, k2, k3, k4⟩ := k
    subst h1
    cases k1
    rw [h2] at k2
    cases k2
    rw [h3] at k3
    cases k3
    exact AtP.det h4 k4
  | .fl f :: π, v, w, w', h, k => by
    obtain ⟨a, c, dx, fs, x, h1, h2, h3, h4⟩ := h
    obtain ⟨a', c', dx', fs', x', k1, k2, k3, k4⟩ := k
    subst h1
    cases k1
    rw [h2] at k2
    cases k2
    rw [h3] at k3
    cases k3
    exact AtP.det h4 k4
theorem AtP.snoc {s : Stp} {u : V} : ∀ {π : List Stp} {v w : V}, AtP H v π w → AtP H w [s] u → AtP H v (π ++ [s]) u
  | [], v, w, h, k => by
    have h : v = w := h
    subst h
    exact k
  | .ix j :: π, v, w, h, k => by
    obtain ⟨a, xs, x, h1, h2, h3, h4⟩ := h
    exact ⟨a, xs, x, h1, h2, h3, AtP.snoc h4 k⟩
  | .fl f :: π, v, w, h, k => by
    obtain ⟨a, c, dx, fs, x, h1, h2, h3, h4⟩ := h
    exact ⟨a, c, dx, fs, x, h1, h2, h3, AtP.snoc h4 k⟩
theorem getP_snoc {s : Stp} : ∀ {π : List Stp} {o sub : OV}, getP π o = some sub → getP (π ++ [s]) o = getP [s] sub
  | [], o, sub, h => by cases h; rfl
  | .ix j :: π, o, sub, h => by
    cases o with
    | own l =>
      show ((l[j]?).bind (getP (π ++ [s]))) = _
      have h : (l[j]?).bind (getP π) = some sub := h
      cases e : l[j]? with
      | none => rw [e] at h; cases h
      | some o => rw [e] at h; exact getP_snoc (π := π) h
    | sh p => cases h
    | obj c fs => cases h
  | .fl f :: π, o, sub, h => by
    cases o with
    | obj c fs =>
      show ((fs.lookup f).bind (getP (π ++ [s]))) = _
      have h : (fs.lookup f).bind (getP π) = some sub := h
      cases e : fs.lookup f with
      | none => rw [e] at h; cases h
      | some o => rw [e] at h; exact getP_snoc (π := π) h
    | sh p => cases h
    | own l => cases h
/-- what a change below must keep -/
def Upd (G : Gc) (H₀ H : Hp) (F Fs : List Addr) (vs : V) (K : Hp → List Addr → OV → Prop) : Prop :=
  ∀ H' sub' Fs', (∀ b ∈ F, b ∉ Fs → H' b = H b) → OwnR G H₀ H' sub' vs Fs' → Fs'.Nodup → (∀ b ∈ Fs', b ∈ Fs ∨ b ∉ F) → ∃ F', K H' F' sub' ∧ F'.Nodup ∧ ∀ b ∈ F', (b ∈ F ∧ b ∉ Fs) ∨ b ∈ Fs'
theorem OwnRs.upd : ∀ {l : List OV} {xs : List V} {F : List Addr} {j : Nat} {o : OV}, OwnRs G H₀ H l xs F → l[j]? = some o → F.Nodup → ∃ x Fj, xs[j]? = some x ∧ OwnR G H₀ H o x Fj ∧ Fj.Nodup ∧ (∀ b ∈ Fj, b ∈ F) ∧ Upd G H₀ H F Fj x fun H' F' o' => OwnRs G H₀ H' (l.set j o') xs F'
  | [], xs, F, j, o, h, e, nd => by simp at e
  | q :: l, xs, F, 0, o, h, e, nd => by
    simp only [OwnRs] at h
    obtain ⟨x, ys, F1, F2, h1, h2, h3, h4⟩ := h
    subst h1 h2
    simp at e
    subst e
    obtain ⟨n1, n2, n3⟩ := List.nodup_append.mp nd
    refine ⟨x, F1, rfl, h3, n1, fun b hb => List.mem_append_left _ hb, fun H' o' Fs' hk r nd' hm => ?_⟩
    refine ⟨Fs' ++ F2, ?_, List.nodup_append.mpr ⟨nd', n2, fun a ha b hb e => ?_⟩, fun b hb => ?_⟩
    · simp only [List.set_cons_zero, OwnRs]
      exact ⟨x, ys, Fs', F2, rfl, rfl, r, OwnRs.mono (Same.refl _) (fun b hb => hk b (List.mem_append_right _ hb) fun z => n3 b z b hb rfl) h4⟩
    · subst e
      rcases hm a ha with z | z
      · exact n3 a z a hb rfl
      · exact z (List.mem_append_right _ hb)
    · rcases List.mem_append.mp hb with z | z
      · exact .inr z
      · exact .inl ⟨List.mem_append_right _ z, fun y => n3 b y b z rfl⟩
  | q :: l, xs, F, j + 1, o, h, e, nd => by
    simp only [OwnRs] at h
    obtain ⟨x, ys, F1, F2, h1, h2, h3, h4⟩ := h
    subst h1 h2
    obtain ⟨n1, n2, n3⟩ := List.nodup_append.mp nd
    obtain ⟨w, Fj, e1, e2, e3, e4, e5⟩ := OwnRs.upd (j := j) h4 (by simpa using e) n2
    refine ⟨w, Fj, by simpa using e1, e2, e3, fun b hb => List.mem_append_right _ (e4 b hb), fun H' o' Fs' hk r nd' hm => ?_⟩
    obtain ⟨F', k1, k2, k3⟩ := e5 H' o' Fs' (fun b hb hn => hk b (List.mem_append_right _ hb) hn) r nd' fun b hb => (hm b hb).imp id fun z y => z (List.mem_append_right _ y)
    refine ⟨F1 ++ F', ?_, List.nodup_append.mpr ⟨n1, k2, fun a ha b hb e => ?_⟩, fun b hb => ?_⟩
    · simp only [List.set_cons_succ, OwnRs]
      exact ⟨x, ys, F1, F', rfl, rfl, OwnR.mono (Same.refl _) (fun b hb => hk b (List.mem_append_left _ hb) fun z => n3 b hb b (e4 b z) rfl) h3, k1⟩
    · subst e
      rcases k3 a hb with z | z
      · exact n3 a ha a z.1 rfl
      · rcases hm a z with y | y
        · exact n3 a ha a (e4 a y) rfl
        · exact y (List.mem_append_left _ ha)
    · rcases List.mem_append.mp hb with z | z
      · exact .inl ⟨List.mem_append_left _ z, fun y => n3 b z b (e4 b y) rfl⟩
      · exact (k3 b z).imp (fun y => ⟨List.mem_append_right _ y.1, y.2⟩) id
theorem OwnRf.upd : ∀ {l : List (Str × OV)} {xs : List (Str × V)} {F : List Addr} {f : Str} {o : OV}, OwnRf G H₀ H l xs F → l.lookup f = some o → F.Nodup → ∃ x Fj, xs.lookup f = some x ∧ OwnR G H₀ H o x Fj ∧ Fj.Nodup ∧ (∀ b ∈ Fj, b ∈ F) ∧ Upd G H₀ H F Fj x fun H' F' o' => OwnRf G H₀ H' (putO f o' l) xs F'
  | [], xs, F, j, o, h, e, nd => by simp at e
  | (g, q) :: l, xs, F, f, o, h, e, nd => by
    simp only [OwnRf] at h
    obtain ⟨x, ys, F1, F2, h1, h2, h3, h4⟩ := h
    subst h1 h2
    obtain ⟨n1, n2, n3⟩ := List.nodup_append.mp nd
    by_cases hg : g = f
    · subst hg
      have hb : (g == g) = true := beq_self_eq_true g
      simp only [List.lookup, hb, Option.some.injEq] at e ⊢
      subst e
      refine ⟨x, F1, rfl, h3, n1, fun b hb => List.mem_append_left _ hb, fun H' o' Fs' hk r nd' hm => ?_⟩
      refine ⟨Fs' ++ F2, ?_, List.nodup_append.mpr ⟨nd', n2, fun a ha b hb e => ?_⟩, fun b hb => ?_⟩
      · simp only [putO, if_true, OwnRf]
        exact ⟨x, ys, Fs', F2, rfl, rfl, r, OwnRf.mono (Same.refl _) (fun b hb => hk b (List.mem_append_right _ hb) fun z => n3 b z b hb rfl) h4⟩
      · subst e
        rcases hm a ha with z | z
        · exact n3 a z a hb rfl
        · exact z (List.mem_append_right _ hb)
      · rcases List.mem_append.mp hb with z | z
        · exact .inr z
        · exact .inl ⟨List.mem_append_right _ z, fun y => n3 b y b z rfl⟩
    · have hb : (f == g) = false := beq_eq_false_iff_ne.mpr (Ne.symm hg)
      simp only [List.lookup, hb] at e ⊢
      obtain ⟨w, Fj, e1, e2, e3, e4, e5⟩ := OwnRf.upd h4 e n2
      refine ⟨w, Fj, e1, e2, e3, fun b hb => List.mem_append_right _ (e4 b hb), fun H' o' Fs' hk r nd' hm => ?_⟩
      obtain ⟨F', k1, k2, k3⟩ := e5 H' o' Fs' (fun b hb hn => hk b (List.mem_append_right _ hb) hn) r nd' fun b hb => (hm b hb).imp id fun z y => z (List.mem_append_right _ y)
      refine ⟨F1 ++ F', ?_, List.nodup_append.mpr ⟨n1, k2, fun a ha b hb e => ?_⟩, fun b hb => ?_⟩
      · simp only [putO, if_neg hg, OwnRf]
        exact ⟨x, ys, F1, F', rfl, rfl, OwnR.mono (Same.refl _) (fun b hb => hk b (List.mem_append_left _ hb) fun z => n3 b hb b (e4 b z) rfl) h3, k1⟩
      · subst e
        rcases k3 a hb with z | z
        · exact n3 a ha a z.1 rfl
        · rcases hm a z with y | y
          · exact n3 a ha a (e4 a y) rfl
          · exact y (List.mem_append_left _ ha)
      · rcases List.mem_append.mp hb with z | z
        · exact .inl ⟨List.mem_append_left _ z, fun y => n3 b z b (e4 b y) rfl⟩
        · exact (k3 b z).imp (fun y => ⟨List.mem_append_right _ y.1, y.2⟩) id
theorem OwnR.upd : ∀ (π : List Stp) {o sub : OV} {v : V} {F : List Addr}, OwnR G H₀ H o v F → getP π o = some sub → F.Nodup → ∃ vs Fs, OwnR G H₀ H sub vs Fs ∧ Fs.Nodup ∧ (∀ b ∈ Fs, b ∈ F) ∧ AtP H v π vs ∧ Upd G H₀ H F Fs vs fun H' F' sub' => OwnR G H₀ H' (setP π o sub') v F'
  | [], o, sub, v, F, h, e, nd => by
    cases e
    exact ⟨v, F, h, nd, fun _ hb => hb, rfl, fun H' o' Fs' hk r nd' hm => ⟨Fs', r, nd', fun b hb => .inr hb⟩⟩
  | .ix j :: π, o, sub, v, F, h, e, nd => by
    cases o with
    | sh p => cases e
    | obj c fs => cases e
    | own l =>
      have e : (l[j]?).bind (getP π) = some sub := e
      cases ej : l[j]? with
      | none => rw [ej] at e; cases e
      | some oj =>
        rw [ej] at e
        simp only [OwnR] at h
        obtain ⟨a, xs, F', h1, h2, h3, h4⟩ := h
        subst h2
        obtain ⟨na, nd'⟩ := List.nodup_cons.mp nd
        obtain ⟨x, Fj, p1, p2, p3, p4, p5⟩ := OwnRs.upd h4 ej nd'
        obtain ⟨vs, Fs, q1, q2, q3, q4, q5⟩ := OwnR.upd π p2 e p3
        refine ⟨vs, Fs, q1, q2, fun b hb => List.mem_cons_of_mem _ (p4 b (q3 b hb)), ⟨a, xs, x, h1, h3, p1, q4⟩, fun H' sub' Fs' hk r ndr hm => ?_⟩
        obtain ⟨F1, r1, r2, r3⟩ := q5 H' sub' Fs' (fun b hb hn => hk b (List.mem_cons_of_mem _ (p4 b hb)) hn) r ndr fun b hb => (hm b hb).imp id fun z y => z (List.mem_cons_of_mem _ (p4 b y))
        obtain ⟨F2, s1, s2, s3⟩ := p5 H' (setP π oj sub') F1 (fun b hb hn => hk b (List.mem_cons_of_mem _ hb) fun z => hn (q3 b z)) r1 r2 fun b hb => by
          rcases r3 b hb with z | z
          · exact .inl z.1
          · rcases hm b z with y | y
            · exact .inl (q3 b y)
            · exact .inr fun w => y (List.mem_cons_of_mem _ w)
        have ab : a ∉ Fs := fun z => na (p4 a (q3 a z))
        have aF2 : a ∉ F2 := fun z => by
          rcases s3 a z with y | y
          · exact na y.1
          · rcases r3 a y with w | w
            · exact na (p4 a w.1)
            · rcases hm a w with u | u
              · exact ab u
              · exact u List.mem_cons_self
        refine ⟨a :: F2, ?_, List.nodup_cons.mpr ⟨aF2, s2⟩, fun b hb => ?_⟩
        · show OwnR G H₀ H' (match l[j]? with | some o => OV.own (l.set j (setP π o sub')) | none => OV.own l) v (a :: F2)
          rw [ej]
          simp only [OwnR]
          exact ⟨a, xs, F2, h1, rfl, by rw [hk a List.mem_cons_self ab]; exact h3, s1⟩
        · rcases List.mem_cons.mp hb with z | z
          · rw [z]
            exact .inl ⟨List.mem_cons_self, ab⟩
          · rcases s3 b z with y | y
            · exact .inl ⟨List.mem_cons_of_mem _ y.1, fun w => y.2 (q3 b w)⟩
            · exact (r3 b y).imp (fun w => ⟨List.mem_cons_of_mem _ (p4 b w.1), w.2⟩) id
  | .fl f :: π, o, sub, v, F, h, e, nd => by
    cases o with
    | sh p => cases e
    | own l => cases e
    | obj c fs =>
      have e : (fs.lookup f).bind (getP π) = some sub := e
      cases ej : fs.lookup f with
      | none => rw [ej] at e; cases e
      | some oj =>
        rw [ej] at e
        simp only [OwnR] at h
        obtain ⟨a, dx, xs, F', h1, h2, h3, h4⟩ := h
        subst h2
        obtain ⟨na, nd'⟩ := List.nodup_cons.mp nd
        obtain ⟨x, Fj, p1, p2, p3, p4, p5⟩ := OwnRf.upd h4 ej nd'
        obtain ⟨vs, Fs, q1, q2, q3, q4, q5⟩ := OwnR.upd π p2 e p3
        refine ⟨vs, Fs, q1, q2, fun b hb => List.mem_cons_of_mem _ (p4 b (q3 b hb)), ⟨a, _, dx, xs, x, h1, h3, p1, q4⟩, fun H' sub' Fs' hk r ndr hm => ?_⟩
        obtain ⟨F1, r1, r2, r3⟩ := q5 H' sub' Fs' (fun b hb hn => hk b (List.mem_cons_of_mem _ (p4 b hb)) hn) r ndr fun b hb => (hm b hb).imp id fun z y => z (List.mem_cons_of_mem _ (p4 b y))
        obtain ⟨F2, s1, s2, s3⟩ := p5 H' (setP π oj sub') F1 (fun b hb hn => hk b (List.mem_cons_of_mem _ hb) fun z => hn (q3 b z)) r1 r2 fun b hb => by
          rcases r3 b hb with z | z
          · exact .inl z.1
          · rcases hm b z with y | y
            · exact .inl (q3 b y)
            · exact .inr fun w => y (List.mem_cons_of_mem _ w)
        have ab : a ∉ Fs := fun z => na (p4 a (q3 a z))
        have aF2 : a ∉ F2 := fun z => by
          rcases s3 a z with y | y
          · exact na y.1
          · rcases r3 a y with w | w
            · exact na (p4 a w.1)
            · rcases hm a w with u | u
              · exact ab u
              · exact u List.mem_cons_self
        refine ⟨a :: F2, ?_, List.nodup_cons.mpr ⟨aF2, s2⟩, fun b hb => ?_⟩
        · show OwnR G H₀ H' (match fs.lookup f with | some o => OV.obj c (putO f (setP π o sub') fs) | none => OV.obj c fs) v (a :: F2)
          rw [ej]
          simp only [OwnR]
          exact ⟨a, dx, xs, F2, h1, rfl, by rw [hk a List.mem_cons_self ab]; exact h3, s1⟩
        · rcases List.mem_cons.mp hb with z | z
          · rw [z]
            exact .inl ⟨List.mem_cons_self, ab⟩
          · rcases s3 b z with y | y
            · exact .inl ⟨List.mem_cons_of_mem _ y.1, fun w => y.2 (q3 b w)⟩
            · exact (r3 b y).imp (fun w => ⟨List.mem_cons_of_mem _ (p4 b w.1), w.2⟩) id
theorem EnvR.upd : ∀ {ρ : Env} {σ : L2.St} {F : List Addr} {i : Nat} {π : List Stp} {o sub : OV}, EnvR G H₀ H ρ σ F → ρ[i]? = some (some o) → getP π o = some sub → F.Nodup →
    ∃ v vs Fs, σ[i]? = some (some v) ∧ OwnR G H₀ H sub vs Fs ∧ Fs.Nodup ∧ (∀ b ∈ Fs, b ∈ F) ∧ AtP H v π vs ∧ Upd G H₀ H F Fs vs fun H' F' sub' => EnvR G H₀ H' (ρ.set i (some (setP π o sub'))) σ F'
  | [], σ, F, i, π, o, sub, h, e, g, nd => by simp at e
  | none :: ρ, σ, F, 0, π, o, sub, h, e, g, nd => by simp at e
  | none :: ρ, σ, F, i + 1, π, o, sub, h, e, g, nd => by
    obtain ⟨x, τ, h1, h2⟩ := h
    subst h1
    obtain ⟨v, vs, Fs, e1, e2, e3, e4, e5, e6⟩ := EnvR.upd (i := i) h2 (by simpa using e) g nd
    refine ⟨v, vs, Fs, by simpa using e1, e2, e3, e4, e5, fun H' sub' Fs' hk r nd' hm => ?_⟩
    obtain ⟨F', k1, k2, k3⟩ := e6 H' sub' Fs' hk r nd' hm
    exact ⟨F', ⟨x, τ, rfl, k1⟩, k2, k3⟩
  | some o' :: ρ, σ, F, 0, π, o, sub, h, e, g, nd => by
    obtain ⟨v, τ, F1, F2, h1, h2, h3, h4⟩ := h
    subst h1 h2
    simp at e
    subst e
    obtain ⟨n1, n2, n3⟩ := List.nodup_append.mp nd
    obtain ⟨vs, Fs, q1, q2, q3, q4, q5⟩ := OwnR.upd π h3 g n1
    refine ⟨v, vs, Fs, rfl, q1, q2, fun b hb => List.mem_append_left _ (q3 b hb), q4, fun H' sub' Fs' hk r nd' hm => ?_⟩
    obtain ⟨F', k1, k2, k3⟩ := q5 H' sub' Fs' (fun b hb hn => hk b (List.mem_append_left _ hb) hn) r nd' fun b hb => (hm b hb).imp id fun z y => z (List.mem_append_left _ y)
    refine ⟨F' ++ F2, ⟨v, τ, F', F2, rfl, rfl, k1, EnvR.mono (Same.refl _) (fun b hb => hk b (List.mem_append_right _ hb) fun z => n3 b (q3 b z) b hb rfl) h4⟩, List.nodup_append.mpr ⟨k2, n2, fun a ha b hb e => ?_⟩, fun b hb => ?_⟩
    · subst e
      rcases k3 a ha with z | z
      · exact n3 a z.1 a hb rfl
      · rcases hm a z with y | y
        · exact n3 a (q3 a y) a hb rfl
        · exact y (List.mem_append_right _ hb)
    · rcases List.mem_append.mp hb with z | z
      · exact (k3 b z).imp (fun y => ⟨List.mem_append_left _ y.1, y.2⟩) id
      · exact .inl ⟨List.mem_append_right _ z, fun y => n3 b (q3 b y) b z rfl⟩
  | some o' :: ρ, σ, F, i + 1, π, o, sub, h, e, g, nd => by
    obtain ⟨v0, τ, F1, F2, h1, h2, h3, h4⟩ := h
    subst h1 h2
    obtain ⟨n1, n2, n3⟩ := List.nodup_append.mp nd
    obtain ⟨v, vs, Fs, e1, e2, e3, e4, e5, e6⟩ := EnvR.upd (i := i) h4 (by simpa using e) g n2
    refine ⟨v, vs, Fs, by simpa using e1, e2, e3, fun b hb => List.mem_append_right _ (e4 b hb), e5, fun H' sub' Fs' hk r nd' hm => ?_⟩
    obtain ⟨F', k1, k2, k3⟩ := e6 H' sub' Fs' (fun b hb hn => hk b (List.mem_append_right _ hb) hn) r nd' fun b hb => (hm b hb).imp id fun z y => z (List.mem_append_right _ y)
    refine ⟨F1 ++ F', ⟨v0, τ, F1, F', rfl, rfl, OwnR.mono (Same.refl _) (fun b hb => hk b (List.mem_append_left _ hb) fun z => n3 b hb b (e4 b z) rfl) h3, k1⟩, List.nodup_append.mpr ⟨n1, k2, fun a ha b hb e => ?_⟩, fun b hb => ?_⟩
    · subst e
      rcases k3 a hb with z | z
      · exact n3 a ha a z.1 rfl
      · rcases hm a z with y | y
        · exact n3 a ha a (e4 a y) rfl
        · exact y (List.mem_append_left _ ha)
    · rcases List.mem_append.mp hb with z | z
      · exact .inl ⟨List.mem_append_left _ z, fun y => n3 b z b (e4 b y) rfl⟩
      · exact (k3 b z).imp (fun y => ⟨List.mem_append_right _ y.1, y.2⟩) id
end
end L3

end
section
/-! L3. 10: paths to what is owned; append, stores -/
namespace L3
open PySem PySem.Spec PyProof.Rows L2
abbrev Pth := Nat × List Stp
def atE (ρ : Env) (q : Pth) : Option OV := match ρ[q.1]? with
  | some (some o) => getP q.2 o
  | _ => none
def upE (ρ : Env) (q : Pth) (n : OV) : Env := match ρ[q.1]? with
  | some (some o) => ρ.set q.1 (some (setP q.2 o n))
  | _ => ρ
section
variable {C : Fc} {W : WX} {D : Ends} {m : Bool} {X : Cx} {o e b : Expr} {es : List Expr} {pos p : Pos} {σ : L2.St} {H H₀ : Hp} {F : List Addr} {ρ : Env} {x : Str} {i : Nat}
theorem SR.at (S : SR C H₀ F ρ σ H) {q : Pth} {sub : OV} (h : atE ρ q = some sub) : ∃ t vs Fs, σ[q.1]? = some (some t) ∧ OwnR C.G H₀ H sub vs Fs ∧ Fs.Nodup ∧ (∀ b ∈ Fs, b ∈ F) ∧ AtP H t q.2 vs ∧
    ∀ a ho Fs0 sub' Fs', Fs = a :: Fs0 → OwnR C.G H₀ (upd H a ho) sub' vs Fs' → Fs'.Nodup → (∀ b ∈ Fs', b ∈ Fs ∨ (b ∉ F ∧ C.He b = none ∧ H₀ b = none)) → ∃ F', SR C H₀ F' (upE ρ q sub') σ (upd H a ho) := by
  unfold atE at h
  cases e : ρ[q.1]? with
  | none => rw [e] at h; cases h
  | some oo =>
    rw [e] at h
    cases oo with
    | none => cases h
    | some o =>
      obtain ⟨v, vs, Fs, e1, e2, e3, e4, e5, e6⟩ := EnvR.upd (π := q.2) S.env e h S.nd
      refine ⟨v, vs, Fs, e1, e2, e3, e4, e5, fun a ho Fs0 sub' Fs' ea r nd hm => ?_⟩
      have aF : a ∈ F := e4 a (by rw [ea]; exact List.mem_cons_self)
      have aFs : a ∈ Fs := by rw [ea]; exact List.mem_cons_self
      obtain ⟨F', k1, k2, k3⟩ := e6 (upd H a ho) sub' Fs' (fun b _ hn => upd_ne fun z => hn (z ▸ aFs)) r nd fun b hb => (hm b hb).imp id fun z => z.1
      unfold upE
      rw [e]
      refine ⟨F', fun c u q => ?_, fun c u q => ?_, S.n, S.hz, k1, k2, fun b hb => ?_, S.fx, S.hx⟩
      · rw [upd_ne fun z => by rw [z, (S.fr a aF).1] at q; cases q]
        exact S.e c u q
      · rw [upd_ne fun z => by rw [z, (S.fr a aF).2] at q; cases q]
        exact S.z c u q
      · rcases k3 b hb with z | z
        · exact S.fr b z.1
        · rcases hm b z with y | y
          · exact S.fr b (e4 b y)
          · exact y.2
/-! ### paths -/
def tP (C : Fc) (W : WX) (g : Env → R Pth) : TE := fun σ H Q => ∃ H₀ F ρ, SR C H₀ F ρ σ H ∧ Goes C.G W (g ρ) σ H H₀ fun q => ∀ v t H' H₀', Ext H₀ H H₀' H' → σ[q.1]? = some (some t) → AtP H' t q.2 v → Q v H'
abbrev QP (C : Fc) (W : WX) (X : Cx) (e : Expr) (g : Env → R Pth) : Prop := PE X e (tP C W g)
def pthR (ρ : Env) (q : Pth) : R Pth := match atE ρ q with
  | some (.own _) => .ok q
  | some (.obj _ _) => .ok q
  | _ => .no
def pVar (i : Nat) : Env → R Pth := fun ρ => pthR ρ (i, [])
theorem pthR_some {q q' : Pth} (h : pthR ρ q = .ok q') : q' = q ∧ ∃ sub, atE ρ q = some sub := by
  unfold pthR at h
  cases e : atE ρ q with
  | none => rw [e] at h; cases h
  | some o =>
    rw [e] at h
    cases o with
    | sh p => cases h
    | own l => cases h; exact ⟨rfl, _, rfl⟩
    | obj c fs => cases h; exact ⟨rfl, _, rfl⟩
theorem pthR_calm {q : Pth} {x : PX} : pthR ρ q ≠ .er x := by
  unfold pthR
  split <;> (intro z; cases z)
theorem qpVar (i : Nat) {x : Str} (hN : X.N[i]? = some x := by rfl) (hv : Vis X.env.scope x := by first | exact Or.inl rfl | exact Or.inr (Or.inl rfl) | exact Or.inr (Or.inr rfl)) (hd : (x == ("__debug__" : Str)) = false := by decide)
    (hcd : (x == ("__classdict__" : Str)) = false := by decide) : QP C W X (.Name x pos) (pVar i) := by
  refine PE.imp (pe_var hN hv hd hcd) fun σ H Q h => ?_
  obtain ⟨H₀, F, ρ, S, h⟩ := h
  unfold pVar at h
  cases e : pthR ρ (i, []) with
  | er x => exact absurd e pthR_calm
  | no => rw [e] at h; exact h.elim
  | ok q =>
    obtain ⟨rfl, sub, hs⟩ := pthR_some e
    rw [e] at h
    obtain ⟨t, vs, Fs, e1, _, _, _, e5, _⟩ := S.at hs
    exact ⟨t, e1, h t t H H₀ (Ext.refl S.z) e1 rfl⟩
/-- b[e] on the way -/
def pIx (g : Env → R Pth) (f : Env → R PV) : Env → R Pth := fun ρ => (g ρ).bind fun q => (f ρ).bind fun p => match atE ρ q, p with
  | some (.own l), .int k => (match ixN l.length k with
    | some j => pthR ρ (q.1, q.2 ++ [.ix j])
    | none => .no)
  | _, _ => .no
theorem atE_snoc {q : Pth} {sub : OV} {s : Stp} (h : atE ρ q = some sub) : atE ρ (q.1, q.2 ++ [s]) = getP [s] sub := by
  unfold atE at h ⊢
  cases e : ρ[q.1]? with
  | none => rw [e] at h; cases h
  | some oo =>
    rw [e] at h
    cases oo with
    | none => cases h
    | some o => exact getP_snoc h
theorem OwnRs.get {G : Gc} {H₀ H : Hp} : ∀ {l : List OV} {xs : List V} {F : List Addr} {j : Nat} {o : OV}, OwnRs G H₀ H l xs F → l[j]? = some o → ∃ x Fj, xs[j]? = some x ∧ OwnR G H₀ H o x Fj ∧ ∀ b ∈ Fj, b ∈ F
  | [], xs, F, j, o, h, e => by simp at e
  | q :: l, xs, F, 0, o, h, e => by
    simp only [OwnRs] at h
    obtain ⟨x, ys, F1, F2, h1, h2, h3, h4⟩ := h
    subst h1 h2
    simp at e
    subst e
    exact ⟨x, F1, rfl, h3, fun b hb => List.mem_append_left _ hb⟩
  | q :: l, xs, F, j + 1, o, h, e => by
    simp only [OwnRs] at h
    obtain ⟨x, ys, F1, F2, h1, h2, h3, h4⟩ := h
    subst h1 h2
    obtain ⟨w, Fj, e1, e2, e3⟩ := OwnRs.get (j := j) h4 (by simpa using e)
    exact ⟨w, Fj, by simpa using e1, e2, fun b hb => List.mem_append_right _ (e3 b hb)⟩
theorem OwnRs.length {G : Gc} {H₀ H : Hp} : ∀ {l : List OV} {xs : List V} {F : List Addr}, OwnRs G H₀ H l xs F → l.length = xs.length
  | [], xs, F, h => by simp only [OwnRs] at h; rw [h.1]; rfl
  | q :: l, xs, F, h => by
    simp only [OwnRs] at h
    obtain ⟨x, ys, F1, F2, h1, h2, h3, h4⟩ := h
    subst h1
    simp only [List.length_cons, OwnRs.length h4]
theorem qpIx {g : Env → R Pth} {f : Env → R PV} (hb : QP C W X b g) (hi : QE C W m X e f) (hs : PlainIx e := by exact fun _ _ => rfl) : QP C W X (.Subscript b e pos) (pIx g f) := by
  refine PE.imp (pe_ix ix_list hb hi hs) fun σ H Q h => ?_
  show tP C W g σ H fun x H1 => tE C W m f σ H1 fun y H2 => rIxL X.K x y H2 Q
  obtain ⟨H₀, F, ρ, S, h⟩ := h
  unfold pIx at h
  rw [Goes.bind] at h
  refine ⟨H₀, F, ρ, S, h.imp fun q eq h v t H1 H₁ E1 et ev => ?_⟩
  rw [Goes.bind] at h
  rw [tE_iff]
  have S1 := S.ext E1
  refine ⟨H₁, F, ρ, S1, (h.later E1).imp fun p _ h w H2 H₂ E2 rw' => ?_⟩
  have S2 := S1.ext E2
  cases ea : atE ρ q with
  | none => rw [ea] at h; exact (show False from h).elim
  | some sub =>
    rw [ea] at h
    match sub, p, ea, h, rw' with
    | .own l, .int k, ea, h, rw' =>
      dsimp only at h
      cases ej : ixN l.length k with
      | none => rw [ej] at h; exact h.elim
      | some j =>
        rw [ej] at h
        dsimp only at h
        cases ep : pthR ρ (q.1, q.2 ++ [.ix j]) with
        | er x => exact absurd ep pthR_calm
        | no => rw [ep] at h; exact h.elim
        | ok q' =>
          obtain ⟨rfl, sub', hs'⟩ := pthR_some ep
          rw [ep] at h
          obtain ⟨t', vs, Fs, e1, e2, e3, e4, e5, _⟩ := S2.at ea
          have et2 : t' = t := by rw [et] at e1; cases e1; rfl
          subst et2
          have ev2 : v = vs := AtP.det (ev.mono E2.s) e5
          subst ev2
          simp only [OwnR] at e2
          obtain ⟨a, xs, F', h1, h2, h3, h4⟩ := e2
          rw [atE_snoc ea] at hs'
          have hl : l[j]? = some sub' := by
            have z : (l[j]?).bind (getP []) = some sub' := hs'
            cases q : l[j]? with
            | none => rw [q] at z; cases z
            | some o => rw [q] at z; exact z
          obtain ⟨x, Fj, p1, p2, p3⟩ := h4.get hl
          simp only [Rep] at rw'
          refine ⟨a, xs, k, x, h1, rw', SqL.of h3, ?_, ?_⟩
          · unfold atI
            rw [← h4.length, ej]
            exact p1
          · exact h x t' H2 H₂ (E1.trans E2) et (AtP.snoc e5 ⟨a, xs, x, h1, h3, p1, rfl⟩)
    | .sh p', p, ea, h, rw' => exact (show False from h).elim
    | .obj c fs, p, ea, h, rw' => exact (show False from h).elim
    | .own l, .non, ea, h, rw' => exact (show False from h).elim
    | .own l, .bl _, ea, h, rw' => exact (show False from h).elim
    | .own l, .str _, ea, h, rw' => exact (show False from h).elim
    | .own l, .lst _, ea, h, rw' => exact (show False from h).elim
    | .own l, .scr _, ea, h, rw' => exact (show False from h).elim
    | .own l, .tup _, ea, h, rw' => exact (show False from h).elim
    | .own l, .ins _ _, ea, h, rw' => exact (show False from h).elim
/-! ### o.append(e) -/
def apR (q : Pth) (n : OV) (ρ : Env) : RS := match atE ρ q with
  | some (.own l) => if l.length < sizeLine then .nx (upE ρ q (.own (l ++ [n]))) else .no
  | _ => .no
def sApp (g : Env → R Pth) (f : Env → R (OV × Env)) : Env → RS := fun ρ => (g ρ).to ρ fun q => match atE ρ q with
  | some (.own _) => (f ρ).to ρ fun r => apR q r.1 r.2
  | _ => .no
theorem app_step {q : Pth} {n : OV} {t v w : V} {Fo : List Addr} (S : SR C H₀ F ρ σ H) (r : OwnR C.G H₀ H n w Fo) (nd : (Fo ++ F).Nodup) (fr : ∀ a ∈ Fo, C.He a = none ∧ H₀ a = none) (et : σ[q.1]? = some (some t)) (ev : AtP H t q.2 v)
    (h : Aft C W D (apR q n ρ)) : ∃ a xs, v = .ref a ∧ H a = some (.lst xs) ∧ xs.length < sizeLine ∧ D.nx σ (upd H a (.lst (xs ++ [w]))) ∧ a ∈ F := by
  unfold apR at h
  cases ea : atE ρ q with
  | none => rw [ea] at h; exact h.elim
  | some sub =>
    rw [ea] at h
    cases sub with
    | sh p => exact h.elim
    | obj c fs => exact h.elim
    | own l =>
      dsimp only at h
      by_cases hl : l.length < sizeLine
      · rw [if_pos hl] at h
        obtain ⟨t', vs, Fs, e1, e2, e3, e4, e5, e6⟩ := S.at ea
        have et2 : t' = t := by rw [et] at e1; cases e1; rfl
        subst et2
        have ev2 : v = vs := AtP.det ev e5
        subst ev2
        simp only [OwnR] at e2
        obtain ⟨a, xs, F', h1, h2, h3, h4⟩ := e2
        obtain ⟨n1, n2, n3⟩ := List.nodup_append.mp nd
        subst h2
        obtain ⟨na, nd'⟩ := List.nodup_cons.mp e3
        have aFo : a ∉ Fo := fun z => n3 a z a (e4 a List.mem_cons_self) rfl
        have keep1 : ∀ b ∈ F', upd H a (.lst (xs ++ [w])) b = H b := fun b hb => upd_ne fun z => na (z ▸ hb)
        have keep2 : ∀ b ∈ Fo, upd H a (.lst (xs ++ [w])) b = H b := fun b hb => upd_ne fun z => aFo (z ▸ hb)
        have o2 : OwnRs C.G H₀ (upd H a (.lst (xs ++ [w]))) (l ++ [n]) (xs ++ [w]) (F' ++ Fo) := OwnRs.snoc (OwnR.mono (Same.refl _) keep2 r) (OwnRs.mono (Same.refl _) keep1 h4)
        obtain ⟨F2, S2⟩ := e6 a (.lst (xs ++ [w])) F' (.own (l ++ [n])) (a :: (F' ++ Fo)) rfl (by simp only [OwnR]; exact ⟨a, _, _, h1, rfl, upd_same, o2⟩)
          (List.nodup_cons.mpr ⟨fun z => (List.mem_append.mp z).elim na aFo, List.nodup_append.mpr ⟨nd', n1, fun x hx y hy e => n3 y hy x (e4 x (List.mem_cons_of_mem _ hx)) e.symm⟩⟩)
          fun b hb => by
            rcases List.mem_cons.mp hb with z | z
            · exact .inl (by rw [z]; exact List.mem_cons_self)
            · rcases List.mem_append.mp z with z | z
              · exact .inl (List.mem_cons_of_mem _ z)
              · exact .inr ⟨fun y => n3 b z b y rfl, fr b z⟩
        exact ⟨a, xs, h1, h3, by rw [← h4.length]; exact hl, h σ _ H₀ F2 S2, e4 a List.mem_cons_self⟩
      · rw [if_neg hl] at h
        exact h.elim
theorem qApp {g : Env → R Pth} {f : Env → R (OV × Env)} {apos cpos : Pos} (ho : QP C W X o g) (he : QM C W X e f) (hsw : swapsWith (.Call (.Attribute o "append" apos) [e] [] cpos) none pos.line X.env = pure false := by rfl)
    (hbase : attributeBase o "append" X.env (eval o X.env) = eval o X.env := by rfl)
    (hfew : ((backTo cpos (starEach (e :: []) X.env)).all (fun x => !x.1) && (backToKw cpos (keywordEach [] X.env)).all (fun x => x.1.isSome)
      && decide ((e :: ([] : List Expr)).length + ([] : List Keyword).length + (if ([] : List Keyword).isEmpty then 0 else 1) < 30)) = true := by rfl)
    (hline : (apos.endLine == cpos.line) = true := by rfl) (hs : starEach (e :: []) X.env = (false, eval e X.env) :: starEach [] X.env := by rfl) (hplain : (backTo cpos (starEach [] X.env)).any (·.1) = false := by rfl) :
    QS C W X (.Expr (.Call (.Attribute o "append" apos) [e] [] cpos) pos) (sApp g f) := by
  have ha : PA X [e] (tCons (tM C W f) tNil) := pa_cons he pa_nil hs
  refine PS.imp (ps_expr (pe_bm PySem.F.plainAttrs_list PySem.F.slot_list_append PySem.F.type_list_append mt_append ho ha hbase hfew hline hs hplain) hsw) fun D σ H h => ?_
  show tP C W g σ H fun x H1 => tyV X.K "list" x H1 ∧ tM C W f σ H1 fun w H2 => rAppend x [w] H2 fun _ H3 => D.nx σ H3
  obtain ⟨H₀, F, ρ, S, h⟩ := h
  refine ⟨H₀, F, ρ, S, (Aft.to S h).imp fun q eq h v t H1 H₁ E1 et ev => ?_⟩
  have S1 := S.ext E1
  cases ea : atE ρ q with
  | none => rw [ea] at h; exact h.elim
  | some sub =>
    rw [ea] at h
    cases sub with
    | sh p => exact h.elim
    | obj c fs => exact h.elim
    | own l =>
      have ty : tyV X.K "list" v H1 := by
        obtain ⟨t', vs, Fs, e1, e2, e3, e4, e5, e6⟩ := S1.at ea
        have et2 : t' = t := by rw [et] at e1; cases e1; rfl
        subst et2
        have ev2 : v = vs := AtP.det ev e5
        subst ev2
        simp only [OwnR] at e2
        obtain ⟨a, xs, F', h1, h2, h3, h4⟩ := e2
        subst h1
        exact .inl ⟨rfl, xs, SqL.of h3⟩
      refine ⟨ty, H₁, F, ρ, S1, (Aft.to S1 h).imp fun r er h w H2 H₂ Fo Fr E2 S2 ro nd fr => ?_⟩
      obtain ⟨a, xs, h1, h2, h3, h4, _⟩ := app_step S2 ro nd fr et (ev.mono E2.s) h
      exact ⟨a, xs, w, h1, rfl, h2, h3, h4⟩
/-! ### o[i] = e -/
theorem OwnRs.put {G : Gc} {H₀ H : Hp} {n : OV} {w : V} {Fo : List Addr} (r : OwnR G H₀ H n w Fo) (ndo : Fo.Nodup) : ∀ {l : List OV} {xs : List V} {F : List Addr} (j : Nat), OwnRs G H₀ H l xs F → F.Nodup → (∀ b ∈ Fo, b ∉ F) → ∃ F', OwnRs G H₀ H (l.set j n) (xs.set j w) F' ∧ F'.Nodup ∧ ∀ b ∈ F', b ∈ F ∨ b ∈ Fo
  | [], xs, F, j, h, nd, ap => by
    simp only [OwnRs] at h
    obtain ⟨h1, h2⟩ := h
    subst h1 h2
    exact ⟨[], by simp [OwnRs], List.nodup_nil, fun b hb => by cases hb⟩
  | q :: l, xs, F, 0, h, nd, ap => by
    simp only [OwnRs] at h
    obtain ⟨x, ys, F1, F2, h1, h2, h3, h4⟩ := h
    subst h1 h2
    refine ⟨Fo ++ F2, by simp only [List.set_cons_zero, OwnRs]; exact ⟨w, ys, Fo, F2, rfl, rfl, r, h4⟩, List.nodup_append.mpr ⟨ndo, (List.nodup_append.mp nd).2.1, fun a ha b hb e => ap a ha (List.mem_append_right _ (e ▸ hb))⟩, fun b hb => ?_⟩
    exact (List.mem_append.mp hb).elim .inr fun z => .inl (List.mem_append_right _ z)
  | q :: l, xs, F, j + 1, h, nd, ap => by
    simp only [OwnRs] at h
    obtain ⟨x, ys, F1, F2, h1, h2, h3, h4⟩ := h
    subst h1 h2
    obtain ⟨n1, n2, n3⟩ := List.nodup_append.mp nd
    obtain ⟨F', k1, k2, k3⟩ := OwnRs.put r ndo j h4 n2 fun b hb z => ap b hb (List.mem_append_right _ z)
    refine ⟨F1 ++ F', by simp only [List.set_cons_succ, OwnRs]; exact ⟨x, _, F1, F', rfl, rfl, h3, k1⟩, List.nodup_append.mpr ⟨n1, k2, fun a ha b hb e => ?_⟩, fun b hb => ?_⟩
    · subst e
      rcases k3 a hb with z | z
      · exact n3 a ha a z rfl
      · exact ap a z (List.mem_append_left _ ha)
    · rcases List.mem_append.mp hb with z | z
      · exact .inl (List.mem_append_left _ z)
      · exact (k3 b z).imp (List.mem_append_right _) id
theorem OwnRf.put {G : Gc} {H₀ H : Hp} {n : OV} {w : V} {Fo : List Addr} {f : Str} (r : OwnR G H₀ H n w Fo) (ndo : Fo.Nodup) : ∀ {l : List (Str × OV)} {xs : List (Str × V)} {F : List Addr}, OwnRf G H₀ H l xs F → F.Nodup → (∀ b ∈ Fo, b ∉ F) → ∃ F', OwnRf G H₀ H (putO f n l) (putF f w xs) F' ∧ F'.Nodup ∧ ∀ b ∈ F', b ∈ F ∨ b ∈ Fo
  | [], xs, F, h, nd, ap => by
    simp only [OwnRf] at h
    obtain ⟨h1, h2⟩ := h
    subst h1 h2
    exact ⟨Fo, by simp only [putO, putF, OwnRf]; exact ⟨w, [], Fo, [], rfl, by simp, r, rfl, rfl⟩, ndo, fun b hb => .inr hb⟩
  | (g, q) :: l, xs, F, h, nd, ap => by
    simp only [OwnRf] at h
    obtain ⟨x, ys, F1, F2, h1, h2, h3, h4⟩ := h
    subst h1 h2
    obtain ⟨n1, n2, n3⟩ := List.nodup_append.mp nd
    by_cases hg : g = f
    · refine ⟨Fo ++ F2, by simp only [putO, putF, if_pos hg, OwnRf]; exact ⟨w, ys, Fo, F2, rfl, rfl, r, h4⟩, List.nodup_append.mpr ⟨ndo, n2, fun a ha b hb e => ap a ha (List.mem_append_right _ (e ▸ hb))⟩, fun b hb => ?_⟩
      exact (List.mem_append.mp hb).elim .inr fun z => .inl (List.mem_append_right _ z)
    · obtain ⟨F', k1, k2, k3⟩ := OwnRf.put r ndo h4 n2 fun b hb z => ap b hb (List.mem_append_right _ z)
      refine ⟨F1 ++ F', by simp only [putO, putF, if_neg hg, OwnRf]; exact ⟨x, _, F1, F', rfl, rfl, h3, k1⟩, List.nodup_append.mpr ⟨n1, k2, fun a ha b hb e => ?_⟩, fun b hb => ?_⟩
      · subst e
        rcases k3 a hb with z | z
        · exact n3 a ha a z rfl
        · exact ap a z (List.mem_append_left _ ha)
      · rcases List.mem_append.mp hb with z | z
        · exact .inl (List.mem_append_left _ z)
        · exact (k3 b z).imp (List.mem_append_right _) id
theorem OwnRf.length {G : Gc} {H₀ H : Hp} : ∀ {l : List (Str × OV)} {xs : List (Str × V)} {F : List Addr}, OwnRf G H₀ H l xs F → l.length = xs.length
  | [], xs, F, h => by simp only [OwnRf] at h; rw [h.1]; rfl
  | (g, q) :: l, xs, F, h => by
    simp only [OwnRf] at h
    obtain ⟨x, ys, F1, F2, h1, h2, h3, h4⟩ := h
    subst h1
    simp only [List.length_cons, OwnRf.length h4]
/-- what is held aside stays apart -/
theorem aside {n : OV} {w : V} {Fo : List Addr} {H' H₀' : Hp} (r : OwnR C.G H₀ H n w Fo) (fr : ∀ a ∈ Fo, C.He a = none ∧ H₀ a = none) (E : Ext H₀ H H₀' H') : OwnR C.G H₀' H' n w Fo ∧ ∀ a ∈ Fo, C.He a = none ∧ H₀' a = none := by
  refine ⟨OwnR.mono E.s0 (fun a ha => ?_) r, fun a ha => ⟨(fr a ha).1, ?_⟩⟩
  · obtain ⟨u, e⟩ := r.there a ha
    rw [e, E.s a u e]
  · obtain ⟨u, e⟩ := r.there a ha
    rw [E.n a (ne_none_of e)]
    exact (fr a ha).2
def stR (q : Pth) (p : PV) (n : OV) (ρ : Env) : RS := match atE ρ q, p with
  | some (.own l), .int k => (match ixN l.length k with
    | some j => .nx (upE ρ q (.own (l.set j n)))
    | none => .no)
  | _, _ => .no
def sSt (g : Env → R Pth) (fi : Env → R PV) (f : Env → R (OV × Env)) : Env → RS := fun ρ => (f ρ).to ρ fun r => (g r.2).to r.2 fun q => (fi r.2).to r.2 fun p => stR q p r.1 r.2
theorem st_step {q : Pth} {p : PV} {n : OV} {t v w y : V} {Fo : List Addr} (S : SR C H₀ F ρ σ H) (r : OwnR C.G H₀ H n w Fo) (nd : (Fo ++ F).Nodup) (fr : ∀ a ∈ Fo, C.He a = none ∧ H₀ a = none) (et : σ[q.1]? = some (some t)) (ev : AtP H t q.2 v) (ry : Rep C.G (md m H₀ H F) p y)
    (h : Aft C W D (stR q p n ρ)) : rSetL v y w H fun H' => D.nx σ H' := by
  unfold stR at h
  cases ea : atE ρ q with
  | none => rw [ea] at h; exact (show False from h).elim
  | some sub =>
    rw [ea] at h
    match sub, p, ea, h, ry with
    | .own l, .int k, ea, h, ry =>
      dsimp only at h
      cases ej : ixN l.length k with
      | none => rw [ej] at h; exact h.elim
      | some j =>
        rw [ej] at h
        obtain ⟨t', vs, Fs, e1, e2, e3, e4, e5, e6⟩ := S.at ea
        have et2 : t' = t := by rw [et] at e1; cases e1; rfl
        subst et2
        have ev2 : v = vs := AtP.det ev e5
        subst ev2
        simp only [OwnR] at e2
        obtain ⟨a, xs, F', h1, h2, h3, h4⟩ := e2
        simp only [Rep] at ry
        obtain ⟨n1, n2, n3⟩ := List.nodup_append.mp nd
        subst h2
        obtain ⟨na, nd'⟩ := List.nodup_cons.mp e3
        have aFo : a ∉ Fo := fun z => n3 a z a (e4 a List.mem_cons_self) rfl
        have keep1 : ∀ b ∈ F', upd H a (.lst (xs.set j w)) b = H b := fun b hb => upd_ne fun z => na (z ▸ hb)
        have keep2 : ∀ b ∈ Fo, upd H a (.lst (xs.set j w)) b = H b := fun b hb => upd_ne fun z => aFo (z ▸ hb)
        obtain ⟨F1, k1, k2, k3⟩ := OwnRs.put (H := upd H a (.lst (xs.set j w))) (OwnR.mono (Same.refl _) keep2 r) n1 j (OwnRs.mono (Same.refl _) keep1 h4) nd' fun b hb z => n3 b hb b (e4 b (List.mem_cons_of_mem _ z)) rfl
        obtain ⟨F2, S2⟩ := e6 a (.lst (xs.set j w)) F' (.own (l.set j n)) (a :: F1) rfl (by simp only [OwnR]; exact ⟨a, _, _, h1, rfl, upd_same, k1⟩)
          (List.nodup_cons.mpr ⟨fun z => (k3 a z).elim na aFo, k2⟩)
          fun b hb => by
            rcases List.mem_cons.mp hb with z | z
            · exact .inl (by rw [z]; exact List.mem_cons_self)
            · rcases k3 b z with z | z
              · exact .inl (List.mem_cons_of_mem _ z)
              · exact .inr ⟨fun y => n3 b z b y rfl, fr b z⟩
        exact ⟨a, xs, k, j, h1, ry, h3, by rw [← h4.length]; exact ej, h σ _ H₀ F2 S2⟩
    | .sh p', p, ea, h, rw' => exact (show False from h).elim
    | .obj c fs, p, ea, h, rw' => exact (show False from h).elim
    | .own l, .non, ea, h, rw' => exact (show False from h).elim
    | .own l, .bl _, ea, h, rw' => exact (show False from h).elim
    | .own l, .str _, ea, h, rw' => exact (show False from h).elim
    | .own l, .lst _, ea, h, rw' => exact (show False from h).elim
    | .own l, .scr _, ea, h, rw' => exact (show False from h).elim
    | .own l, .tup _, ea, h, rw' => exact (show False from h).elim
    | .own l, .ins _ _, ea, h, rw' => exact (show False from h).elim
theorem nd_keep {Fo F : List Addr} (nd : (Fo ++ F).Nodup) : (Fo ++ F).Nodup := nd
theorem qSt {ie : Expr} {g : Env → R Pth} {fi : Env → R PV} {f : Env → R (OV × Env)} (he : QM C W X e f) (ho : QP C W X o g) (hi : QE C W m X ie fi) (ha : ∀ v, assign (.Subscript o ie p) X.env v = (do
      let ov ← holding [v] (eval o X.env)
      let iv ← holding [v, ov] (eval ie X.env)
      standAt p
      holding [v, ov, iv] (setItem ov iv v)
      release [v, ov, iv] []) := by intro _; rfl) (hs : swapsWithSole [.Subscript o ie p] e pos.line X.env = pure false := by rfl) (hw : swappedStores [.Subscript o ie p] e X.env = pure none := by rfl)
    (h1 : (assignEach [.Subscript o ie p] X.env).map (·.2) = [assign (.Subscript o ie p) X.env] := by rfl) : QS C W X (.Assign [.Subscript o ie p] e pos) (sSt g fi f) := by
  refine PS.imp (ps_asg he (pg_sub ho hi set_list ha) hs hw h1) fun D σ H h => ?_
  show tM C W f σ H fun w H1 => tP C W g σ H1 fun v H2 => tE C W m fi σ H2 fun y H3 => rSetL v y w H3 fun H4 => D.nx σ H4
  obtain ⟨H₀, F, ρ, S, h⟩ := h
  refine ⟨H₀, F, ρ, S, (Aft.to S h).imp fun r _ h w H1 H₁ Fo Fr E1 S1 ro nd fr => ?_⟩
  refine ⟨H₁, Fr, r.2, S1, (Aft.to S1 h).imp fun q _ h v t H2 H₂ E2 et ev => ?_⟩
  have S2 := S1.ext E2
  obtain ⟨ro2, fr2⟩ := aside ro fr E2
  show tE C W m fi σ H2 fun y H3 => rSetL v y w H3 fun H4 => D.nx σ H4
  rw [tE_iff]
  refine ⟨H₂, Fr, r.2, S2, (Aft.to S2 h).imp fun p _ h y H3 H₃ E3 ry => ?_⟩
  obtain ⟨ro3, fr3⟩ := aside ro2 fr2 E3
  exact st_step (S2.ext E3) ro3 nd fr3 et (ev.mono E3.s) ry h
/-! ### o.f = e -/
def flR (q : Pth) (ok : Nat → Bool) (fl : Str) (n : OV) (ρ : Env) : RS := match atE ρ q with
  | some (.obj c fs) => if ok c = true ∧ fs.length < 1000 then .nx (upE ρ q (.obj c (putO fl n fs))) else .no
  | _ => .no
def sFl (g : Env → R Pth) (ok : Nat → Bool) (fl : Str) (f : Env → R (OV × Env)) : Env → RS := fun ρ => (f ρ).to ρ fun r => (g r.2).to r.2 fun q => flR q ok fl r.1 r.2
theorem qFl {g : Env → R Pth} {f : Env → R (OV × Env)} {ok : Nat → Bool} {fl : Str} (hK : X.K = C.G.K) (T : ∀ c, ok c = true → Cls C.G.K (C.G.CA c) ∧ NoAttr C.G.K (C.G.CA c) fl) (he : QM C W X e f) (ho : QP C W X o g) (hs : swapsWith e (some (.Attribute o fl p)) pos.line X.env = pure false := by rfl) : QS C W X (.Assign [.Attribute o fl p] e pos) (sFl g ok fl f) := by
  refine PS.imp (ps_fld ho he hs) fun D σ H h => ?_
  show tM C W f σ H fun w H1 => tP C W g σ H1 fun v H2 => ∃ a Ca dx fs, v = .ref a ∧ H2 a = some (.ins Ca dx fs) ∧ Cls X.K Ca ∧ NoAttr X.K Ca fl ∧ fs.length < 1000 ∧ D.nx σ (upd H2 a (.ins Ca dx (putF fl w fs)))
  obtain ⟨H₀, F, ρ, S, h⟩ := h
  refine ⟨H₀, F, ρ, S, (Aft.to S h).imp fun r _ h w H1 H₁ Fo Fr E1 S1 ro nd fr => ?_⟩
  refine ⟨H₁, Fr, r.2, S1, (Aft.to S1 h).imp fun q _ h v t H2 H₂ E2 et ev => ?_⟩
  have S2 := S1.ext E2
  obtain ⟨ro2, fr2⟩ := aside ro fr E2
  unfold flR at h
  cases ea : atE r.2 q with
  | none => rw [ea] at h; exact h.elim
  | some sub =>
    rw [ea] at h
    cases sub with
    | sh p => exact h.elim
    | own l => exact h.elim
    | obj c fs =>
      dsimp only at h
      by_cases hk : ok c = true ∧ fs.length < 1000
      · rw [if_pos hk] at h
        obtain ⟨T1, T2⟩ := T c hk.1
        obtain ⟨t', vs, Fs, e1, e2, e3, e4, e5, e6⟩ := S2.at ea
        have et2 : t' = t := by rw [et] at e1; cases e1; rfl
        subst et2
        have ev2 : v = vs := AtP.det ev e5
        subst ev2
        simp only [OwnR] at e2
        obtain ⟨a, dx, xs, F', h1, h2, h3, h4⟩ := e2
        obtain ⟨n1, n2, n3⟩ := List.nodup_append.mp nd
        subst h2
        obtain ⟨na, nd'⟩ := List.nodup_cons.mp e3
        have aFo : a ∉ Fo := fun z => n3 a z a (e4 a List.mem_cons_self) rfl
        have keep1 : ∀ b ∈ F', upd H2 a (.ins (C.G.CA c) dx (putF fl w xs)) b = H2 b := fun b hb => upd_ne fun z => na (z ▸ hb)
        have keep2 : ∀ b ∈ Fo, upd H2 a (.ins (C.G.CA c) dx (putF fl w xs)) b = H2 b := fun b hb => upd_ne fun z => aFo (z ▸ hb)
        obtain ⟨F1, k1, k2, k3⟩ := OwnRf.put (f := fl) (H := upd H2 a (.ins (C.G.CA c) dx (putF fl w xs))) (OwnR.mono (Same.refl _) keep2 ro2) n1 (OwnRf.mono (Same.refl _) keep1 h4) nd' fun b hb z => n3 b hb b (e4 b (List.mem_cons_of_mem _ z)) rfl
        obtain ⟨F2, S3⟩ := e6 a (.ins (C.G.CA c) dx (putF fl w xs)) F' (.obj c (putO fl r.1 fs)) (a :: F1) rfl (by simp only [OwnR]; exact ⟨a, dx, _, _, h1, rfl, upd_same, k1⟩)
          (List.nodup_cons.mpr ⟨fun z => (k3 a z).elim na aFo, k2⟩)
          fun b hb => by
            rcases List.mem_cons.mp hb with z | z
            · exact .inl (by rw [z]; exact List.mem_cons_self)
            · rcases k3 b z with z | z
              · exact .inl (List.mem_cons_of_mem _ z)
              · exact .inr ⟨fun y => n3 b z b y rfl, fr2 b z⟩
        exact ⟨a, _, dx, xs, h1, h3, by rw [hK]; exact T1, by rw [hK]; exact T2, by rw [← h4.length]; exact hk.2, h σ _ H₂ F2 S3⟩
      · rw [if_neg hk] at h
        exact h.elim
end
end L3

end
section
/-! L3. 11: new lists by operators; defs -/
namespace L3
open PySem PySem.Spec PyProof.Rows L2
section
variable {C : Fc} {W : WX} {D : Ends} {m : Bool} {X : Cx} {a b e : Expr} {es : List Expr} {pos p : Pos} {σ : L2.St} {H H₀ : Hp} {F : List Addr} {ρ : Env} {x : Str} {i : Nat} {fa fb : Env → R PV} {fas : Env → R (List PV)}
/-- an operator that makes a new list -/
def Op2F (Γ : Gc) (r : R2) (g : PV → PV → R (List PV)) : Prop := ∀ (H₀ H : Hp) (p q : PV) (l : List PV) (x y : V) (Q : VK), Same H₀ H → Rep Γ H₀ p x → Rep Γ H₀ q y → g p q = .ok l →
  (∀ xs a, H a = none → Reps Γ H₀ l xs → Q (.ref a) (upd H a (.lst xs))) → r x y H Q
def fOp (g : PV → PV → R (List PV)) (fa fb : Env → R PV) : Env → R OV := fun ρ => (fa ρ).bind fun p => (fb ρ).bind fun q => (g p q).bind fun l => .ok (.own (l.map .sh))
theorem qOpF {op : Operator} {r : R2} {g : PV → PV → R (List PV)} (ho : OpR X (binaryOp op) r) (hg : ∀ p q x, g p q ≠ .er x) (hr : Op2F C.G r g) (ha : QE C W true X a fa) (hb : QE C W true X b fb) : QF C W X (.BinOp a op b pos) (fOp g fa fb) := by
  refine PE.imp (pe_op ho ha hb) fun σ H Q h => ?_
  show tE C W true fa σ H fun x H1 => tE C W true fb σ H1 fun y H2 => r x y H2 Q
  rw [tF_iff] at h
  rw [tE_iff]
  obtain ⟨H₀, F, ρ, S, h⟩ := h
  unfold fOp at h
  rw [Goes.bind] at h
  refine ⟨H₀, F, ρ, S, h.imp fun p _ h v H1 H₁ E1 r1 => ?_⟩
  rw [Goes.bind] at h
  rw [tE_iff]
  refine ⟨H₁, F, ρ, S.ext E1, (h.later E1).imp fun q _ h w H2 H₂ E2 r2 => ?_⟩
  rw [Goes.bind] at h
  have E := E1.trans E2
  cases e : g p q with
  | er x => exact absurd e (hg p q x)
  | no => rw [e] at h; exact h.elim
  | ok l =>
    rw [e] at h
    refine hr H₂ H2 p q l v w Q E2.z (Rep.mono E2.s0 r1) r2 e fun xs a ha r => ?_
    obtain ⟨E3, o3, n3, f3⟩ := own_new (C := C) E2.z ha r
    exact h _ _ _ _ (E.trans E3) o3 n3 fun c hc => ⟨Same.free E.s (f3 c hc).1, (f3 c hc).2⟩
def mulL : PV → PV → R (List PV)
  | .lst l, .int k => if -(2 ^ 63) ≤ k ∧ k < 2 ^ 63 ∧ l.length * k.toNat ≤ sizeLine then .ok (List.replicate k.toNat l).flatten else .no
  | _, _ => .no
def addL : PV → PV → R (List PV)
  | .lst a, .lst b => if a.length + b.length ≤ sizeLine then .ok (a ++ b) else .no
  | _, _ => .no
theorem mulL_ok {G : Gc} : Op2F G rRep mulL := by
  intro H₀ H p q l x y Q zz rp rq e k
  unfold mulL at e
  split at e
  · simp only [Rep] at rp rq
    obtain ⟨a, xs, h1, h2, h3⟩ := rp
    split at e
    · rename_i hc
      cases e
      exact ⟨a, _, xs, h1, rq, zz _ _ h2, hc.1, hc.2.1, by rw [← h3.length]; exact hc.2.2, fun r hr => k _ r hr (h3.rep _)⟩
    · cases e
  · cases e
theorem addL_ok {G : Gc} : Op2F G rCat addL := by
  intro H₀ H p q l x y Q zz rp rq e k
  unfold addL at e
  split at e
  · simp only [Rep] at rp rq
    obtain ⟨a, xs, h1, h2, h3⟩ := rp
    obtain ⟨b, ys, g1, g2, g3⟩ := rq
    split at e
    · rename_i hc
      cases e
      exact ⟨a, b, xs, ys, h1, g1, zz _ _ h2, zz _ _ g2, by rw [← h3.length, ← g3.length]; exact hc, fun r hr => k _ r hr (h3.append g3)⟩
    · cases e
  · cases e
theorem qMulF (ha : QE C W true X a fa) (hb : QE C W true X b fb) : QF C W X (.BinOp a .Mult b pos) (fOp mulL fa fb) := qOpF op_rep (fun p q x => by unfold mulL; split <;> first | exact R.not_er | (intro z; cases z)) mulL_ok ha hb
theorem qAddF (ha : QE C W true X a fa) (hb : QE C W true X b fb) : QF C W X (.BinOp a .Add b pos) (fOp addL fa fb) := qOpF op_cat (fun p q x => by unfold addL; split <;> first | exact R.not_er | (intro z; cases z)) addL_ok ha hb
/-- what has no list in it leaves what is only looked at -/
def eFlat (f : Env → R PV) : Env → R PV := fun ρ => (f ρ).bind fun p => if p.flat = true then .ok p else .no
theorem qFlat (h : QE C W false X a fa) : QE C W m X a (eFlat fa) := by
  refine PE.imp h fun σ H Q h => ?_
  rw [tE_iff] at h ⊢
  obtain ⟨H₀, F, ρ, S, h⟩ := h
  unfold eFlat at h
  rw [Goes.bind] at h
  refine ⟨H₀, F, ρ, S, h.imp fun p _ h v H1 H₁ E1 r1 => ?_⟩
  by_cases hf : p.flat = true
  · rw [if_pos hf] at h
    have S1 := S.ext E1
    have hF : ∀ a ∈ F, ∀ o, vw H₁ H1 F a = some o → isLI o := fun a ha o e => by
      obtain ⟨u, e1, e2⟩ := S1.env.kind a ha
      unfold vw at e
      rw [if_pos ha, e1] at e
      cases e
      exact e2
    have r2 := Rep.mask hF hf r1
    have z : Same (mask (vw H₁ H1 F) F) H₁ := fun c o e => by
      unfold mask at e
      split at e
      · cases e
      · rename_i hc
        unfold vw at e
        rw [if_neg hc] at e
        exact e
    exact h v H1 H₁ E1 (Rep.mono (z_md fun a ha => (S1.fr a ha).2) (Rep.mono z r2))
  · rw [if_neg hf] at h
    exact h.elim
/-! ### calls in a suite -/
theorem qCallH {k : Nat} {f : Addr} {fd : FuncData} {ns : List Str} {Fn : List PV → R OV} (Fo : L2H.FnH X.prog X.w X.K X.mg X.base (L2N.CX X.prog X.w) k f fd ns (spP C.G Fn)) (hr : L2H.RoomH k X.A) (hc : L2H.HotC X) (tk : L2N.Takes X W) (hm : X.mg x = some (.ref f)) (hk : PySem.W.keepIn X.K (.ref f) = true) (hb : Binds X.K fd ns [])
    (ha : QA C W m X (e :: es) fas) (hg : Gl X x := by rfl) (hdb : (x == ("__debug__" : Str)) = false := by decide) (he : starEach (e :: es) X.env = (false, eval e X.env) :: starEach es X.env := by rfl) (hpl : (backTo pos (starEach es X.env)).any (·.1) = false := by rfl) :
    QF C W X (.Call (.Name x p) (e :: es) [] pos) (fCall m Fn [] fas) := by
  refine PE.imp (L2H.pe_callH (E := WE W) Fo hr hc hg hm hk hb (fun σ => L2N.passAt tk σ) ha hdb he hpl) fun σ H Q h => ?_
  show tAs C W m fas σ H fun vs H1 => spP C.G Fn vs H1 Q (WE W σ)
  rw [tF_iff] at h
  rw [tA_iff]
  obtain ⟨H₀, F, ρ, S, h⟩ := h
  unfold fCall at h
  rw [Goes.bind] at h
  refine ⟨H₀, F, ρ, S, h.imp fun ps _ h vs H1 H₁ E1 r1 => ?_⟩
  rw [List.append_nil] at h
  exact call_go (S.ext E1) r1 ((h.later E1).imp fun o _ h v H' H₀' Fv E ro nd fr => h v H' H₀' Fv (E1.trans E) ro nd fun a ha => ⟨Same.free E1.s (fr a ha).1, (fr a ha).2⟩)
/-- in a suite nothing is raised -/
theorem takes0 {X : Cx} : L2N.Takes X W0 := fun u s' ⟨_, _, _, _, _, _, _, _, _, _, _, _, _, _, _, _, w⟩ => w.elim
end
/-! ### defs -/
def startE (n : Nat) (ps : List PV) : Env := ps.map (fun p => some (.sh p)) ++ List.replicate (n - ps.length) none
def outS : RS → R OV
  | .nx _ => .ok (.sh .non)
  | .rt o => .ok o
  | .er x _ => .er x
  | _ => .no
def defF (n np : Nat) (f : Env → RS) : List PV → R OV := fun ps => if ps.length = np then outS (f (startE n ps)) else .no
theorem env_none {G : Gc} {H₀ H : Hp} : ∀ k : Nat, EnvR G H₀ H (List.replicate k none) (List.replicate k none) []
  | 0 => ⟨rfl, rfl⟩
  | k + 1 => ⟨none, _, rfl, env_none k⟩
theorem env_start {G : Gc} {H₀ H : Hp} {k : Nat} : ∀ {ps : List PV} {vs : List V}, Reps G H₀ ps vs → EnvR G H₀ H (ps.map (fun p => some (.sh p)) ++ List.replicate k none) (vs.map some ++ List.replicate k none) []
  | [], vs, r => by simp only [Reps] at r; subst r; exact env_none k
  | p :: ps, vs, r => by
    simp only [Reps] at r
    obtain ⟨x, ys, h1, h2, h3⟩ := r
    subst h1
    exact ⟨x, _, [], [], rfl, rfl, by simp only [OwnR]; exact ⟨h2, trivial⟩, env_start h3⟩
section
variable {P : Program} {w : World} {Γ : Gc} {mg : Str → Option Value} {base : Heap} {x qual : Str} {params : Arguments} {body : List Stmt} {scope : Scope} {dvs : List V} {kws : List (Str × V)} {fa : Addr} {fd : FuncData} {N ns : List Str} {k n np c : Nat} {f : Env → RS}
theorem goes_outS {C : Fc} {W : WX} {Q : VK} {σ : L2.St} {H H₀ : Hp} {r : RS} (hz : C.Hz = H₀) (he : C.He = H) (hW : ∀ cls d σ' H', W cls d σ H' → W cls d σ' H')
    (h : Goes C.G W (outS r) σ H H₀ fun o => ∀ v H' H₀' Fv, Ext H₀ H H₀' H' → OwnR C.G H₀' H' o v Fv → Fv.Nodup → (∀ a ∈ Fv, H a = none ∧ H₀' a = none) → Q v H') :
    Aft C W { nx := fun _ H' => Q .non H', rt := Q } r := by
  subst hz he
  cases r with
  | nx ρ => exact fun σ' H' H₀' F S => h .non H' H₀' [] S.entry (by simp [OwnR, Rep]) List.nodup_nil fun a ha => (by cases ha)
  | rt o => exact fun v H' H₀' Fv E ro nd fr => h v H' H₀' Fv E ro nd fr
  | bk ρ => exact (show False from h).elim
  | ct ρ => exact (show False from h).elim
  | er z ρ => exact fun cls d σ' H' H₀' F S rx => hW _ _ _ _ (h cls d H' H₀' S.entry rx)
  | no => exact h.elim
/-- THE RULE of a def -/
theorem qDef (Fd : FunD Γ.K x qual params body scope dvs kws fa fd) (S : FnScope N ns scope) (hn : N.length = n) (hnp : ns.length = np)
    (hbody : ∀ (cdv : Value) (A : Around) (outer : List PySem.Env) (s : Shared) (H : Hp) (E : XK) (C : Fc), C.G = Γ → C.fx = none → Room k (A.deeper (envOfC qual scope s.heap.objs.size fa cdv)) →
      L2N.Takes (cxOf (L2N.CX P w) P w Γ.K mg base N qual scope fa cdv A outer s H E) (fun cls d _ H => E cls d H) → PassesOwn (model P w) (A.deeper (envOfC qual scope s.heap.objs.size fa cdv)) (envOfC qual scope s.heap.objs.size fa cdv) (cxOf (L2N.CX P w) P w Γ.K mg base N qual scope fa cdv A outer s H E).xe →
      QSs C (fun cls d _ H => E cls d H) (cxOf (L2N.CX P w) P w Γ.K mg base N qual scope fa cdv A outer s H E) body f) :
    FnOk P w Γ.K mg base (L2N.CX P w) (k + 1) fa fd ns (spP Γ (defF n np f)) := by
  refine Fd.ok S (fun vs H Q E h => ?_) fun cdv A outer s H vs Q E hr h => ?_
  · obtain ⟨H₀, ps, hz, r, h⟩ := h
    unfold defF at h
    by_cases hl : ps.length = np
    · rw [← r.length, hl, hnp]
    · rw [if_neg hl] at h
      exact h.elim
  · obtain ⟨H₀, ps, hz, r, h⟩ := h
    unfold defF at h
    by_cases hl : ps.length = np
    · rw [if_pos hl] at h
      have tk : L2N.Takes (cxOf (L2N.CX P w) P w Γ.K mg base N qual scope fa cdv A outer s H E) (fun cls d _ H => E cls d H) := L2N.takes_of rfl rfl rfl rfl
      refine ⟨_, hbody cdv A outer s H E ⟨Γ, H, H₀, none, fun _ => none⟩ rfl rfl hr tk PassesOwn.leaving, H₀, [], startE n ps, ⟨Same.refl _, hz, fun _ _ => rfl, Same.refl _, ?_, List.nodup_nil, fun a ha => (by cases ha), fun i v z => (by cases z), fun a o z => (by cases z)⟩, goes_outS rfl rfl (fun _ _ _ _ z => z) h⟩
      unfold startE L2.start
      rw [hn, r.length]
      exact env_start r
    · rw [if_neg hl] at h
      exact h.elim
/-- the same within a suite -/
theorem qDefH (Fd : FunD Γ.K x qual params body scope dvs kws fa fd) (S : FnScope N ns scope) (hn : N.length = n) (hnp : ns.length = np)
    (hbody : ∀ (cdv : Value) (A : Around) (outer : List PySem.Env) (s : Shared) (H : Hp) (E : XK) (q : Addr × Obj) (C : Fc), C.G = Γ → C.fx = none → L2H.HotC (L2H.cxH (L2N.CX P w) P w Γ.K mg base N qual scope fa cdv A outer s H E q) → L2H.RoomH k (A.deeper (envOfC qual scope s.heap.objs.size fa cdv)) →
      L2N.Takes (L2H.cxH (L2N.CX P w) P w Γ.K mg base N qual scope fa cdv A outer s H E q) (fun cls d _ H => E cls d H) →
      QSs C (fun cls d _ H => E cls d H) (L2H.cxH (L2N.CX P w) P w Γ.K mg base N qual scope fa cdv A outer s H E q) body f) :
    L2H.FnH P w Γ.K mg base (L2N.CX P w) (k + 1) fa fd ns (spP Γ (defF n np f)) := by
  obtain ⟨oc, od, dV, kV, doc, pm, an, cdv, ct, osl, rfl, lk, hcd, _, _⟩ := Fd.ex
  refine L2H.fn_ofH lk hcd S (fun vs H Q E h => ?_) fun A outer s H vs Q E q hot hr h => ?_
  · obtain ⟨H₀, ps, hz, r, h⟩ := h
    unfold defF at h
    by_cases hl : ps.length = np
    · rw [← r.length, hl, hnp]
    · rw [if_neg hl] at h
      exact h.elim
  · obtain ⟨H₀, ps, hz, r, h⟩ := h
    unfold defF at h
    by_cases hl : ps.length = np
    · rw [if_pos hl] at h
      have tk : L2N.Takes (L2H.cxH (L2N.CX P w) P w Γ.K mg base N qual scope fa cdv A outer s H E q) (fun cls d _ H => E cls d H) := L2N.takes_of rfl rfl rfl rfl
      refine ⟨_, hbody cdv A outer s H E q ⟨Γ, H, H₀, none, fun _ => none⟩ rfl rfl ⟨q, hot, List.mem_cons_self⟩ hr tk, H₀, [], startE n ps, ⟨Same.refl _, hz, fun _ _ => rfl, Same.refl _, ?_, List.nodup_nil, fun a ha => (by cases ha), fun i v z => (by cases z), fun a o z => (by cases z)⟩, goes_outS rfl rfl (fun _ _ _ _ z => z) h⟩
      unfold startE L2.start
      rw [hn, r.length]
      exact env_start r
    · rw [if_neg hl] at h
      exact h.elim
/-! an __init__: its first slot is the new instance -/
def outI (c : Nat) : RS → R (List (Str × OV))
  | .nx (some (.obj c' fs) :: _) => if c' = c then .ok fs else .no
  | .er x (some (.obj _ _) :: _) => .er x
  | _ => .no
theorem outI_nx {c c' : Nat} {fs : List (Str × OV)} {ρ : Env} : outI c (.nx (some (.obj c' fs) :: ρ)) = if c' = c then .ok fs else .no := rfl
def initF (n np c : Nat) (f : Env → RS) : List PV → R (List (Str × OV)) := fun ps => if ps.length + 1 = np then outI c (f (some (.obj c []) :: startE (n - 1) ps)) else .no
theorem qInit (Fd : FunD Γ.K x qual params body scope dvs kws fa fd) (S : FnScope N ns scope) (hn : N.length = n) (hnp : ns.length = np)
    (hbody : ∀ (cdv : Value) (A : Around) (outer : List PySem.Env) (s : Shared) (H : Hp) (E : XK) (self : V) (C : Fc), C.G = Γ → C.fx = some (0, self) → Room k (A.deeper (envOfC qual scope s.heap.objs.size fa cdv)) →
      L2N.Takes (cxOf (L2N.CX P w) P w Γ.K mg base N qual scope fa cdv A outer s H E) (fun cls d _ H => E cls d H) → PassesOwn (model P w) (A.deeper (envOfC qual scope s.heap.objs.size fa cdv)) (envOfC qual scope s.heap.objs.size fa cdv) (cxOf (L2N.CX P w) P w Γ.K mg base N qual scope fa cdv A outer s H E).xe →
      QSs C (fun cls d _ H => E cls d H) (cxOf (L2N.CX P w) P w Γ.K mg base N qual scope fa cdv A outer s H E) body f) :
    FnOk P w Γ.K mg base (L2N.CX P w) (k + 1) fa fd ns (spI Γ c (initF n np c f)) := by
  refine Fd.ok S (fun vs H Q E h => ?_) fun cdv A outer s H vs Q E hr h => ?_
  · obtain ⟨x, dx, ws, H₀, ps, e1, hx, h0, hz, r, h⟩ := h
    unfold initF at h
    by_cases hl : ps.length + 1 = np
    · rw [e1, List.length_cons, ← r.length, hl, hnp]
    · rw [if_neg hl] at h
      exact h.elim
  · obtain ⟨x, dx, ws, H₀, ps, e1, hx, h0, hz, r, h⟩ := h
    subst e1
    unfold initF at h
    by_cases hl : ps.length + 1 = np
    · rw [if_pos hl] at h
      have tk : L2N.Takes (cxOf (L2N.CX P w) P w Γ.K mg base N qual scope fa cdv A outer s H E) (fun cls d _ H => E cls d H) := L2N.takes_of rfl rfl rfl rfl
      have dl : ∀ a o, del H x a = some o → a ≠ x ∧ H a = some o := fun a o e => by
        unfold del at e
        split at e
        · cases e
        · rename_i q
          exact ⟨q, e⟩
      have dx0 : del H x x = none := by unfold del; rw [if_pos rfl]
      let C : Fc := ⟨Γ, del H x, H₀, some (0, .ref x), fun _ => none⟩
      have S0 : SR C H₀ [x] (some (.obj c []) :: startE (n - 1) ps) (L2.start N (.ref x :: ws)) H := by
        refine ⟨fun a o e => (dl a o e).2, hz, fun _ _ => rfl, Same.refl _, ?_, by simp, fun a ha => ?_, fun i v z => ?_, fun a o z => (by cases z)⟩
        · unfold startE L2.start
          have e2 : N.length - (V.ref x :: ws).length = n - 1 - ps.length := by
            rw [hn, List.length_cons, r.length]
            omega
          rw [e2]
          refine ⟨.ref x, ws.map some ++ List.replicate (n - 1 - ps.length) none, [x], [], rfl, rfl, ?_, env_start r⟩
          simp only [OwnR, OwnRf]
          exact ⟨x, dx, [], [], rfl, rfl, hx, rfl, rfl⟩
        · rw [List.mem_singleton.mp ha]
          exact ⟨dx0, h0⟩
        · have z : (0, V.ref x) = (i, v) := Option.some.inj z
          cases z
          rfl
      refine ⟨_, hbody cdv A outer s H E (.ref x) C rfl rfl hr tk PassesOwn.leaving, H₀, [x], _, S0, ?_⟩
      -- the new instance still stands in the first slot
      have self : ∀ {c' : Nat} {fs : List (Str × OV)} {ρ' : Env} {σ' : L2.St} {H' H₀' : Hp} {F' : List Addr}, SR C H₀' F' (some (.obj c' fs) :: ρ') σ' H' → ∃ Fo : List Addr, OwnR Γ H₀' H' (.obj c' fs) (.ref x) Fo ∧ Fo.Nodup ∧ (∀ a ∈ Fo, del H x a = none ∧ H₀' a = none) ∧ H₀' x = none ∧ Ext H₀ (del H x) H₀' (del H' x) := by
        intro c' fs ρ' σ' H' H₀' F' T
        obtain ⟨v, Fo, Fr, g1, g2, g3, g4, g5⟩ := EnvR.take (i := 0) T.env rfl T.nd
        have g6 := T.fx 0 _ rfl
        rw [g1] at g6
        have ev : v = .ref x := by cases g6; rfl
        subst ev
        have fr : ∀ a ∈ Fo, del H x a = none ∧ H₀' a = none := fun a ha => T.fr a (g5 a (.inl ha))
        have xF : x ∈ Fo := by
          simp only [OwnR] at g2
          obtain ⟨a, dx', vs', F1, k1, k2, _⟩ := g2
          cases k1
          rw [k2]
          exact List.mem_cons_self
        have x0 := (fr x xF).2
        refine ⟨Fo, g2, (List.nodup_append.mp g4).1, fr, x0, fun a o e => ?_, T.hz, fun a o e => ?_, T.n⟩
        · obtain ⟨q1, _⟩ := dl a o e
          unfold del
          rw [if_neg q1]
          exact T.e a o e
        · unfold del
          rw [if_neg fun q => by rw [q, x0] at e; cases e]
          exact T.z a o e
      generalize f (some (.obj c []) :: startE (n - 1) ps) = r at h
      cases r with
      | nx ρ' =>
        match ρ', h with
        | some (.obj c' fs) :: ρ', h =>
          intro σ' H' H₀' F' T
          obtain ⟨Fo, g2, g3, g4, g5, g6⟩ := self T
          by_cases hc : c' = c
          · subst hc
            have h : match (outI c' (.nx (some (.obj c' fs) :: ρ'))) with
              | .ok fs => ∀ H' H₀' Fv, Ext H₀ (del H x) H₀' (del H' x) → OwnR Γ H₀' H' (.obj c' fs) (.ref x) Fv → Fv.Nodup → (∀ a ∈ Fv, (a = x ∨ H a = none) ∧ H₀' a = none) → Q .non H'
              | .er z => ∀ cls d H' H₀', Ext H₀ (del H x) H₀' (del H' x) → RepX Γ H₀' z cls d → E cls d H'
              | .no => False := h
            rw [outI_nx, if_pos rfl] at h
            refine h H' H₀' Fo g6 g2 g3 fun a ha => ⟨?_, (g4 a ha).2⟩
            have z := (g4 a ha).1
            unfold del at z
            split at z
            · rename_i q; exact .inl q
            · exact .inr z
          · have h : match (outI c (.nx (some (.obj c' fs) :: ρ'))) with
              | .ok fs => ∀ H' H₀' Fv, Ext H₀ (del H x) H₀' (del H' x) → OwnR Γ H₀' H' (.obj c fs) (.ref x) Fv → Fv.Nodup → (∀ a ∈ Fv, (a = x ∨ H a = none) ∧ H₀' a = none) → Q .non H'
              | .er z => ∀ cls d H' H₀', Ext H₀ (del H x) H₀' (del H' x) → RepX Γ H₀' z cls d → E cls d H'
              | .no => False := h
            rw [outI_nx, if_neg hc] at h
            exact h.elim
        | [], h => exact (show False from h).elim
        | none :: _, h => exact (show False from h).elim
        | some (.sh _) :: _, h => exact (show False from h).elim
        | some (.own _) :: _, h => exact (show False from h).elim
      | er z ρ' =>
        match ρ', h with
        | some (.obj c' fs) :: ρ', h =>
          intro cls d σ' H' H₀' F' T rx
          obtain ⟨Fo, g2, g3, g4, g5, g6⟩ := self T
          have h : ∀ cls d H' H₀', Ext H₀ (del H x) H₀' (del H' x) → RepX Γ H₀' z cls d → E cls d H' := h
          exact h cls d H' H₀' g6 rx
        | [], h => exact (show False from h).elim
        | none :: _, h => exact (show False from h).elim
        | some (.sh _) :: _, h => exact (show False from h).elim
        | some (.own _) :: _, h => exact (show False from h).elim
      | rt o => exact (show False from h).elim
      | bk ρ' => exact (show False from h).elim
      | ct ρ' => exact (show False from h).elim
      | no => exact (show False from h).elim
    · rw [if_neg hl] at h
      exact h.elim
end
end L3

end
section
/-! L3. 12: xs.append(y); z = list(y) -/
namespace L3
open PySem PySem.Spec PyProof.Rows L2
def shs : List OV → Option (List PV)
  | [] => some []
  | .sh p :: l => (shs l).map (p :: ·)
  | _ :: _ => none
def sAppList (g : Env → R Pth) (j i : Nat) (f : Env → RS) : Env → RS := fun ρ => (g ρ).to ρ fun q => match atE ρ q, ρ[j]? with
  | some (.own l), some (some (.own its)) => (match shs its with
    | some _ => sSeq (apR q (.own its)) (fun ρ' => f (ρ'.set i (some (.own its)))) (ρ.set j none)
    | none => .no)
  | _, _ => .no
theorem shs_ok {G : Gc} {H₀ H : Hp} : ∀ {l : List OV} {ps : List PV} {xs : List V} {F : List Addr}, shs l = some ps → OwnRs G H₀ H l xs F → Reps G H₀ ps xs ∧ l = ps.map .sh
  | [], ps, xs, F, e, h => by cases e; simp only [OwnRs] at h; rw [h.1]; exact ⟨Reps.nil, rfl⟩
  | .sh p :: l, ps, xs, F, e, h => by
    simp only [shs] at e
    cases q : shs l with
    | none => rw [q] at e; cases e
    | some qs =>
      rw [q] at e
      cases e
      simp only [OwnRs, OwnR] at h
      obtain ⟨x, ys, F1, F2, h1, h2, h3, h4⟩ := h
      obtain ⟨r1, r2⟩ := shs_ok q h4
      subst h1
      exact ⟨Reps.cons h3.1 r1, by rw [r2]; rfl⟩
  | .own _ :: l, ps, xs, F, e, h => by cases e
  | .obj _ _ :: l, ps, xs, F, e, h => by cases e
section
variable {C : Fc} {W : WX} {X : Cx} {o : Expr} {rest : List Stmt} {y z : Str} {i j : Nat} {pos pos2 apos cpos py py2 pz pl pc : Pos}
theorem qAppList {g : Env → R Pth} {f : Env → RS} (hK : X.K = C.G.K) (hx : fxOk C i) (hN : X.N.Nodup) (hm : X.mg "list" = none) (ho : QP C W X o g) (hr : QSs C W X rest f)
    (hj : X.N[j]? = some y := by rfl) (hi : X.N[i]? = some z := by rfl) (hv : Vis X.env.scope y := by first | exact Or.inl rfl | exact Or.inr (Or.inl rfl) | exact Or.inr (Or.inr rfl)) (hl : Loc X.env.scope z := by first | exact Or.inl rfl | exact Or.inr rfl)
    (hf : X.fn z = true ∨ X.env.scope.names.lookup z = some .local := by first | exact .inl rfl | exact .inr rfl)
    (hd : (y == ("__debug__" : Str)) = false := by decide) (hcd : (y == ("__classdict__" : Str)) = false := by decide) (hgl : Gl X "list" := by rfl)
    (hsw : swapsWith (.Call (.Attribute o "append" apos) [.Name y py] [] cpos) none pos.line X.env = pure false := by rfl)
    (hbase : attributeBase o "append" X.env (eval o X.env) = eval o X.env := by rfl)
    (hfew : ((backTo cpos (starEach (.Name y py :: []) X.env)).all (fun x => !x.1) && (backToKw cpos (keywordEach [] X.env)).all (fun x => x.1.isSome)
      && decide ((.Name y py :: ([] : List Expr)).length + ([] : List Keyword).length + (if ([] : List Keyword).isEmpty then 0 else 1) < 30)) = true := by rfl)
    (hline : (apos.endLine == cpos.line) = true := by rfl) (hs : starEach (.Name y py :: []) X.env = (false, eval (.Name y py) X.env) :: starEach [] X.env := by rfl) (hplain : (backTo cpos (starEach [] X.env)).any (·.1) = false := by rfl)
    (hs2 : starEach (.Name y py2 :: []) X.env = (false, eval (.Name y py2) X.env) :: starEach [] X.env := by rfl) (hpl2 : (backTo pc (starEach [] X.env)).any (·.1) = false := by rfl)
    (hsw2 : swapsWith (.Call (.Name "list" pl) [.Name y py2] [] pc) (some (.Name z pz)) pos2.line X.env = pure false := by rfl) :
    QSs C W X (.Expr (.Call (.Attribute o "append" apos) [.Name y py] [] cpos) pos :: .Assign [.Name z pz] (.Call (.Name "list" pl) [.Name y py2] [] pc) pos2 :: rest) (sAppList g j i f) := by
  have hy1 : PE X (.Name y py) (tVar j) := pe_var hj hv hd hcd
  have hy2 : PE X (.Name y py2) (tVar j) := pe_var hj hv hd hcd
  have ha1 : PA X [.Name y py] (tCons (tVar j) tNil) := pa_cons hy1 pa_nil hs
  have ha2 : PA X [.Name y py2] (tCons (tVar j) tNil) := pa_cons hy2 pa_nil hs2
  have s1 := ps_expr (pe_bm PySem.F.plainAttrs_list PySem.F.slot_list_append PySem.F.type_list_append mt_append ho ha1 hbase hfew hline hs hplain) hsw
  have s2 := ps_set (pos' := pz) (pos := pos2) hN hi hl (pe_callTy (p := pl) (pos := pc) call_list_of hgl hm bt_list ha2 (by decide) (by decide) hs2 hpl2) hsw2 hf
  refine PSs.imp (pss_cons s1 (pss_cons s2 hr)) fun D σ H h => ?_
  show tP C W g σ H fun x H1 => tyV X.K "list" x H1 ∧ ∃ v, σ[j]? = some (some v) ∧ rAppend x [v] H1 fun _ H2 => ∃ v, σ[j]? = some (some v) ∧ ∃ p ys, [v] = [.ref p] ∧ (SqL X.K H2 p ys ∨ SqT X.K H2 p ys) ∧ ∀ l, H2 l = none → tS C W f D (σ.set i (some (.ref l))) (upd H2 l (.lst ys))
  obtain ⟨H₀, F, ρ, S, h⟩ := h
  refine ⟨H₀, F, ρ, S, (Aft.to S h).imp fun q eq h v t H1 H₁ E1 et ev => ?_⟩
  have S1 := S.ext E1
  cases ea : atE ρ q with
  | none => rw [ea] at h; exact (show False from h).elim
  | some sub =>
    rw [ea] at h
    cases ej : ρ[j]? with
    | none => rw [ej] at h; cases sub <;> exact (show False from h).elim
    | some oj =>
      rw [ej] at h
      match sub, oj, ea, ej, h with
      | .own l, some (.own its), ea, ej, h =>
        dsimp only at h
        cases es : shs its with
        | none => rw [es] at h; exact h.elim
        | some ps =>
          rw [es] at h
          dsimp only at h
          have ty : tyV X.K "list" v H1 := by
            obtain ⟨t', vs, Fs, e1, e2, e3, e4, e5, e6⟩ := S1.at ea
            have et2 : t' = t := by rw [et] at e1; cases e1; rfl
            subst et2
            have ev2 : v = vs := AtP.det ev e5
            subst ev2
            simp only [OwnR] at e2
            obtain ⟨a, xs, F', h1, h2, h3, h4⟩ := e2
            subst h1
            exact .inl ⟨rfl, xs, SqL.of h3⟩
          obtain ⟨w, Fo, Fr, k1, k2, k3, k4, k5⟩ := S1.env.take ej S1.nd
          have S2 : SR { C with Hx := H₁ } H₁ Fr (ρ.set j none) σ H1 := ⟨S1.e, S1.z, S1.n, S1.hz, k3, (List.nodup_append.mp k4).2.1, fun a ha => S1.fr a (k5 a (.inr ha)), S1.fx, Same.refl _⟩
          have k2' := k2
          simp only [OwnR] at k2'
          obtain ⟨b, ys, F', g1, g2, g3, g4⟩ := k2'
          obtain ⟨r1, r2⟩ := shs_ok es g4
          -- what stands behind the append
          have hA : Aft { C with Hx := H₁ } W { nx := fun σ' H' => σ' = σ → ∀ l, H' l = none → Same H₁ H' → tS C W f D (σ'.set i (some (.ref l))) (upd H' l (.lst ys)), rt := D.rt, bk := D.bk, ct := D.ct } (apR q (.own its) (ρ.set j none)) := by
            unfold sSeq at h
            cases er : apR q (.own its) (ρ.set j none) with
            | nx ρ' =>
              rw [er] at h
              intro σ' H' H₀' F' T e l hl zz
              obtain ⟨E2, o2, n2, f2⟩ := own_new (C := C) T.z hl (Reps.mono T.hx r1)
              have T2 := (T.unx S1.hx).ext E2
              obtain ⟨F2, T3⟩ := T2.put (i := i) o2 n2 (fun a ha => ⟨Same.free T.e (f2 a ha).1, (f2 a ha).2, fun z => by
                obtain ⟨u, e⟩ := T.env.there a z
                rw [(f2 a ha).1] at e
                cases e⟩) hx
              rw [r2] at h
              exact ⟨_, F2, _, T3, h⟩
            | rt o => exfalso; revert er; unfold apR; split <;> first | (intro z; cases z; done) | (split <;> (intro z; cases z))
            | bk ρ' => exfalso; revert er; unfold apR; split <;> first | (intro z; cases z; done) | (split <;> (intro z; cases z))
            | ct ρ' => exfalso; revert er; unfold apR; split <;> first | (intro z; cases z; done) | (split <;> (intro z; cases z))
            | er x ρ' => exfalso; revert er; unfold apR; split <;> first | (intro z; cases z; done) | (split <;> (intro z; cases z))
            | no => rw [er] at h; exact h.elim
          obtain ⟨a, xs, p1, p2, p3, p4, p5⟩ := app_step S2 k2 k4 (fun a ha => S1.fr a (k5 a (.inl ha))) et ev hA
          refine ⟨ty, w, k1, a, xs, w, p1, rfl, p2, p3, w, k1, b, ys, by rw [g1], .inl (SqL.of ?_), fun l hl => p4 rfl l hl fun c u e => ?_⟩
          · have nb : b ≠ a := fun z => (List.nodup_append.mp k4).2.2 b (by rw [g2]; exact List.mem_cons_self) a p5 z
            rw [upd_ne nb]
            exact g3
          · have nc : c ≠ a := fun z => by rw [z, (S2.fr a p5).2] at e; cases e
            rw [upd_ne nc]
            exact S1.z c u e
      | .sh p, oj, ea, ej, h => exact (show False from h).elim
      | .obj c fs, oj, ea, ej, h => exact (show False from h).elim
      | .own l, none, ea, ej, h => exact (show False from h).elim
      | .own l, some (.sh p), ea, ej, h => exact (show False from h).elim
      | .own l, some (.obj c fs), ea, ej, h => exact (show False from h).elim
end
end L3

end
section
/-! L3. 13: the head's facts -/
namespace X4
open PySem PySem.Spec PyProof.Rows L2 He
abbrev Ck := PySem.W.Frag → Bool
/-- an own error class: its name, its field, its __init__ -/
structure SupD where
  x : Str
  f : Str
  qual : Str
  params : Arguments
  body : List Stmt
  scope : Scope
abbrev SupW := Option (Str × Str × Arguments × FuncBody × Scope × Addr × Addr)
def supW (K : PySem.W.Frag) (x : Str) : SupW := match K.lookup (ma K (ga K x) "__init__") with
  | some ⟨_, _, .func fd, _⟩ => some (fd.name, fd.qualname, fd.params, fd.body, fd.scope, fd.globals, fd.builtins)
  | _ => none
def SupD.val (d : SupD) : SupW := some ("__init__", d.qual, d.params, .stmts d.body, d.scope, mainGlobals, builtinsNs)
def supCl : List (Str × Addr) → Value → Value → Value → Option (Addr × Addr)
  | [(n, cc)], .none, .none, .ref cda => if n = "__class__" then some (cc, cda) else none
  | _, _, _, _ => none
theorem supCl_ok {cl : List (Str × Addr)} {dV kV cd : Value} {cc cda : Addr} (h : supCl cl dV kV cd = some (cc, cda)) : cl = [(("__class__" : Str), cc)] ∧ dV = .none ∧ kV = .none ∧ cd = .ref cda := by
  unfold supCl at h
  split at h
  · split at h
    · rename_i hn
      subst hn
      cases h
      exact ⟨rfl, rfl, rfl, rfl⟩
    · cases h
  · cases h
def supFn (K : PySem.W.Frag) (qual mfile : Str) (C fI : Addr) : Bool := match K.lookup fI with
  | some ⟨_, _, .func fd, _⟩ => (match supCl fd.closure fd.defaults fd.kwdefaults fd.code with
    | some (cc, cda) => PySem.W.codeIn K (.ref cda) qual && ((match K.lookup cda with
        | some ⟨_, _, .fields vs, _⟩ => (match (vs[2]? : Option Value) with
          | some (Value.str file _) => mfile == file
          | _ => false)
        | _ => false) && (match K.lookup cc with
        | some ⟨_, _, .cell (some (.ref D)), _⟩ => decide (D = C)
        | _ => false))
    | none => false)
  | _ => false
def supCls (K : PySem.W.Frag) (C : Addr) : Bool := match K.lookup C with
  | some ⟨.type "type", _, .cls cd, sl⟩ => (match cd.mro, sl.toList with
    | .ref C' :: bm, [_, _, _, _, some (.builtin n), _] => C' == C && n == "ValueError.__new__" && !cd.hasDel && cd.hasDict && PySem.HandSPX.refsVE bm
    | _, _ => false)
  | _ => false
def supB (mfile : Str) (d : SupD) : Ck := fun K => supCls K (ga K d.x) && (eqO (PySem.W.findIn K (.ref (ga K d.x)) "__setattr__") (some (some (.builtin "object.__setattr__"))) && (eqO (PySem.W.findIn K (.ref (ga K d.x)) d.f) (some none) && (eqO (PySem.W.findIn K (.ref (ga K d.x)) "__init__") (some (some (.ref (ma K (ga K d.x) "__init__")))) &&
  (decide (PySem.W.typeIn K (.ref (ma K (ga K d.x) "__init__")) = some (.type "function")) && (decide (PySem.W.subIn K (.ref (ga K d.x)) (.type "ValueError") = some true) && (decide (PySem.W.mroIn K (ga K d.x) (.ref (ga K d.x)) = some true) && (eqO (PySem.W.ks_superIn K (ga K d.x) (ga K d.x) "__init__") (some (some (.builtin "ValueError.__init__"))) &&
  (eqO (PySem.W.nsIn K cStatics "thirdparty.any") (some none) && (eqO (PySem.W.nsIn K mainGlobals "super") (some none) && supFn K d.qual mfile (ga K d.x) (ma K (ga K d.x) "__init__"))))))))))
theorem supCls_ok {K : PySem.W.Frag} {C : Addr} (q : supCls K C = true) : ∃ nm q N bs bm sn sub ab col dd k0 k1 k2 k3 k5, K.lookup C = some (excClassObj nm q C N bs bm true sn sub ab col dd k0 k1 k2 k3 k5 "ValueError.__new__") ∧ PySem.HandSPX.refsVE bm = true := by
  unfold supCls at q
  split at q
  · rename_i dd cd sl ho
    split at q
    · rename_i C' bm k0 k1 k2 k3 n k5 hm hs
      simp only [Bool.and_eq_true, beq_iff_eq, Bool.not_eq_true'] at q
      obtain ⟨⟨⟨⟨rfl, rfl⟩, hdel⟩, hdd⟩, ht⟩ := q
      obtain ⟨nm, bs, mro, ns, qn, hd, sn, sub, ab, col, del⟩ := cd
      dsimp only at hm hdel hdd
      subst hm hdel hdd
      have hsl : sl = #[k0, k1, k2, k3, some (.builtin "ValueError.__new__"), k5] := by
        obtain ⟨l⟩ := sl
        simp only at hs
        rw [hs]
      subst hsl
      exact ⟨nm, qn, ns, bs, bm, sn, sub, ab, col, dd, k0, k1, k2, k3, k5, ho, ht⟩
    · cases q
  · cases q
theorem sup_ok {prog : Program} {K : PySem.W.Frag} {d : SupD} {mfile : Str} {p1 p2 p3 p4 p5 p6 p7 p8 q1 q2 q3 q4 : Pos} {msg : Str} {k : Nat} (e : supW K d.x = d.val) (c : supB mfile d K = true) (hp : d.params = X3.supA p1 p2 d.f) (hb : d.body = X3.supB msg d.f k p3 p4 p5 p6 p7 p8 q1 q2 q3 q4) (hs : d.scope = X3.supS d.f)
    (hmf : prog.main.file = mfile) (htop : (prog.main.scope.names.lookup ("super" : Str)).isSome = false) (hne : (d.f == ("self" : Str)) = false ∧ (d.f == ("super" : Str)) = false ∧ (d.f == ("__class__" : Str)) = false ∧ (d.f == ("__debug__" : Str)) = false) (hbn : X3.BindS d.f) (hline : X3.LineS msg k p3 p4 p5 p6 p7) :
    X3.SupC prog K (ga K d.x) (ma K (ga K d.x) "__init__") d.f := by
  obtain ⟨x, f, qual, params, body, scope⟩ := d
  dsimp only at hp hb hs hne hbn
  subst hp hb hs
  obtain ⟨c1, c⟩ := ba c
  obtain ⟨c2, c⟩ := ba c
  obtain ⟨c3, c⟩ := ba c
  obtain ⟨c4, c⟩ := ba c
  obtain ⟨c5, c⟩ := ba c
  obtain ⟨c6, c⟩ := ba c
  obtain ⟨c7, c⟩ := ba c
  obtain ⟨c8, c⟩ := ba c
  obtain ⟨c9, c⟩ := ba c
  obtain ⟨c10, c11⟩ := ba c
  refine ⟨supCls_ok c1, eqO_ok c2, eqO_ok c3, eqO_ok c4, of_decide_eq_true c5, of_decide_eq_true c6, of_decide_eq_true c7, eqO_ok c8, eqO_ok c9, eqO_ok c10, htop, hne, hbn, ?_⟩
  unfold supW at e
  unfold supFn at c11
  dsimp only at e c11
  cases q : K.lookup (ma K (ga K x) "__init__") with
  | none => rw [q] at c11; cases c11
  | some o =>
    obtain ⟨oc, od, dt, osl⟩ := o
    rw [q] at c11 e
    cases dt with
    | func fd =>
      obtain ⟨n1, n2, n3, n4, n5, n6, n7, n8, n9, n10, n11, n12, n13, n14, n15⟩ := fd
      have e2 : (some (n1, n2, n3, n4, n5, n6, n15) : SupW) = some (("__init__" : Str), qual, X3.supA p1 p2 f, FuncBody.stmts (X3.supB msg f k p3 p4 p5 p6 p7 p8 q1 q2 q3 q4), X3.supS f, mainGlobals, builtinsNs) := e
      simp only [Option.some.injEq, Prod.mk.injEq] at e2
      obtain ⟨h1, h2, h3, h4, h5, h6, h7⟩ := e2
      subst h1 h2 h3 h4 h5 h6 h7
      dsimp only at c11
      cases qc : supCl n7 n8 n9 n13 with
      | none => rw [qc] at c11; cases c11
      | some cq =>
        obtain ⟨cc, cda⟩ := cq
        rw [qc] at c11
        obtain ⟨g1, g2, g3, g4⟩ := supCl_ok qc
        subst g1 g2 g3 g4
        obtain ⟨b2, b⟩ := ba c11
        obtain ⟨b3, b4⟩ := ba b
        refine ⟨_, msg, k, oc, od, n10, n11, n12, cda, cc, n14, osl, p1, p2, p3, p4, p5, p6, p7, p8, q1, q2, q3, q4, rfl, b2, hline, ?_, ?_⟩
        · split at b3
          · rename_i z1 z2 vs z3 hk
            split at b3
            · rename_i file tf hv
              exact ⟨_, _, _, vs, file, tf, hk, hv, by rw [hmf]; exact b3⟩
            · cases b3
          · cases b3
        · split at b4
          · rename_i z1 z2 D z3 hk
            have eD : D = ga K x := of_decide_eq_true b4
            subst eD
            exact ⟨_, _, _, hk⟩
          · cases b4
    | _ => cases c11
/-! the Hook -/
def asX (g : Addr → Option Obj) : Nat → List Addr
  | 0 => [mainGlobals, cStatics]
  | n + 1 => growD g (asX g n)
abbrev AlX : Type := Bool × List FnW × List SupW
def obsX (fs : List Ck) (fn : List DefD) (sx : List SupD) (K : PySem.W.Frag) : AlX := ((fs.all fun f => f K) && fn.all fun d => d.ok K, fn.map fun d => fnW K d.at_, sx.map fun d => supW K d.x)
def valX (fn : List DefD) (sx : List SupD) : AlX := (true, fn.map DefD.val, sx.map SupD.val)
def SaysX (fs : List Ck) (fn : List DefD) (sx : List SupD) (K : PySem.W.Frag) : Prop := obsX fs fn sx K = valX fn sx
def obsXG (n : Nat) (fs : List Ck) (fn : List DefD) (sx : List SupD) (g : Addr → Option Obj) : AlX := obsX fs fn sx (frG g (asX g n))
def hookX (n : Nat) (fs : List Ck) (fn : List DefD) (sx : List SupD) : PySem.W.Hook where
  α := AlX
  obs := fun s => obsXG n fs fn sx s.heap.get?
  val := fun _ => valX fn sx
  says := fun _ h => ∃ K : PySem.W.Frag, K.In h ∧ SaysX fs fn sx K
  of := fun _ _ e => ⟨_, frG_in, e⟩
  keeps := fun _ _ _ ⟨K, hK, c⟩ k => ⟨K, PySem.W.Frag.In.keeps hK k, c⟩
theorem obsXG_eq {n : Nat} {fs : List Ck} {fn : List DefD} {sx : List SupD} {g : Addr → Option Obj} {s : Shared} (h : ∀ a, g a = s.heap.get? a) : obsXG n fs fn sx g = (hookX n fs fn sx).obs s := by
  have e : g = s.heap.get? := funext h
  rw [e] <;> rfl
section
variable {fs : List Ck} {fn : List DefD} {sx : List SupD} {K : PySem.W.Frag}
theorem SaysX.fact (c : SaysX fs fn sx K) (i : Nat) {f : Ck} (h : fs[i]? = some f := by rfl) : f K = true := by
  have c1 := (ba (show ((fs.all fun f => f K) && fn.all fun d => d.ok K) = true from congrArg (fun z : AlX => z.1) c)).1
  exact List.all_eq_true.mp c1 f (List.mem_of_getElem? h)
theorem SaysX.def_ (c : SaysX fs fn sx K) (i : Nat) {d : DefD} (h : fn[i]? = some d := by rfl) : ∃ fd, FunD K d.name d.qual d.params d.body d.scope (d.dvs K) (d.kws K) (fAd K d.at_) fd := by
  have c2 := (ba (show ((fs.all fun f => f K) && fn.all fun d => d.ok K) = true from congrArg (fun z : AlX => z.1) c)).2
  have e : fn.map (fun d => fnW K d.at_) = fn.map DefD.val := congrArg (fun z : AlX => z.2.1) c
  have e2 : (fn.map fun d => fnW K d.at_)[i]? = (fn.map DefD.val)[i]? := by rw [e]
  rw [List.getElem?_map, List.getElem?_map, h] at e2
  exact DefD.funD (Option.some.inj e2) (List.all_eq_true.mp c2 d (List.mem_of_getElem? h))
theorem SaysX.sup (c : SaysX fs fn sx K) (i : Nat) {d : SupD} (h : sx[i]? = some d := by rfl) : supW K d.x = d.val := by
  have e : sx.map (fun d => supW K d.x) = sx.map SupD.val := congrArg (fun z : AlX => z.2.2) c
  have e2 : (sx.map fun d => supW K d.x)[i]? = (sx.map SupD.val)[i]? := by rw [e]
  rw [List.getElem?_map, List.getElem?_map, h] at e2
  exact Option.some.inj e2
end
/-! single facts -/
def fa (f : Fa) : Ck := fun K => f.ok K
/-- a value by its address -/
def tupAt (a : PySem.W.Frag → Addr) (vs : List Dv) : Ck := fun K => match K.lookup (a K) with
  | some ⟨.type c, _, .seq its _, _⟩ => decide (c = "tuple") && (decide (its.size ≤ sizeLine) && relAll (vs.map (Dv.v K)) its.toList)
  | _ => false
theorem tupAt_ok {K : PySem.W.Frag} {a : PySem.W.Frag → Addr} {vs : List Dv} (h : tupAt a vs K = true) (H : Hp) : SqT K H (a K) (vs.map (Dv.v K)) := by
  unfold tupAt at h
  cases q : K.lookup (a K) with
  | none =>
    rw [q] at h
    cases h
  | some o =>
    obtain ⟨oc, od, dt, osl⟩ := o
    rw [q] at h
    cases oc with
    | type c =>
      cases dt with
      | seq its n =>
        obtain ⟨h1, h2⟩ := ba (show (decide (c = "tuple") && (decide (its.size ≤ sizeLine) && relAll (vs.map (Dv.v K)) its.toList)) = true from h)
        obtain ⟨h3, h4⟩ := ba h2
        exact .inr ⟨_, its, n, q, congrArg Value.type (of_decide_eq_true h1), rfl, of_decide_eq_true h3, relAll_ok h4⟩
      | _ => cases h
    | _ => cases dt <;> cases h
def exiB (K : PySem.W.Frag) (D : Addr) : Bool := (PySem.W.clsIn K D).isSome && (eqO (PySem.W.findIn K (.ref D) "__getattribute__") (some (some (.builtin "BaseException.__getattribute__"))) && (eqO (PySem.W.findIn K (.ref D) "__getattr__") (some none) && (decide (PySem.W.subIn K (.ref D) (.type "BaseException") = some true) &&
  (eqO (PySem.W.findIn K (.ref D) "__class__") (some (some (.builtin "object.__class__"))) && (eqO (PySem.W.specialIn K (.builtin "object.__class__") "__get__") (some (some (.builtin "getset_descriptor.__get__"))) && (decide (PySem.W.takesIn K (.builtin "object.__class__") = some true) && decide (PySem.W.mroIn K D (.type "object") = some true)))))))
theorem exi_ok {K : PySem.W.Frag} {D : Addr} (c : exiB K D = true) : X3.ExI K D := by
  obtain ⟨c1, c⟩ := ba c
  obtain ⟨c2, c⟩ := ba c
  obtain ⟨c3, c⟩ := ba c
  obtain ⟨c4, c⟩ := ba c
  obtain ⟨c5, c⟩ := ba c
  obtain ⟨c6, c⟩ := ba c
  obtain ⟨c7, c8⟩ := ba c
  exact ⟨c1, eqO_ok c2, eqO_ok c3, of_decide_eq_true c4, eqO_ok c5, eqO_ok c6, of_decide_eq_true c7, of_decide_eq_true c8⟩
def iscB (K : PySem.W.Frag) (x : Str) : Bool := (Fa.cls x).ok K && (eqO (PySem.W.findIn K (.ref (ga K x)) "__class__") (some (some (.builtin "object.__class__"))) && (eqO (PySem.W.specialIn K (.builtin "object.__class__") "__get__") (some (some (.builtin "getset_descriptor.__get__"))) && (decide (PySem.W.takesIn K (.builtin "object.__class__") = some true) && decide (PySem.W.mroIn K (ga K x) (.type "object") = some true))))
theorem isc_ok {K : PySem.W.Frag} {x : Str} (c : iscB K x = true) : L3.IsC K (ga K x) := by
  obtain ⟨c1, c⟩ := ba c
  obtain ⟨c2, c⟩ := ba c
  obtain ⟨c3, c⟩ := ba c
  obtain ⟨c4, c5⟩ := ba c
  exact ⟨cls_ok c1, eqO_ok c2, eqO_ok c3, of_decide_eq_true c4, of_decide_eq_true c5⟩
def kitB2 (v u : PySem.W.Frag → Value) (b : Bool) : Ck := fun K => decide (PySem.W.kitOne K (v K) (u K) = some b)
def exmB (x y : Str) (b : Bool) : Ck := fun K => decide (PySem.W.exmOne K (.ref (ga K x)) (.ref (ga K y)) = some b)
def raisB (x : Str) : Ck := fun K => decide (PySem.W.subIn K (.ref (ga K x)) (.type "BaseException") = some true) && decide (PySem.W.typeIn K (.ref (ga K x)) = some (.type "type"))
theorem rais_ok {X : Cx} {x : Str} (c : raisB x X.K = true) : Raises X (.ref (ga X.K x)) := by
  obtain ⟨c1, c2⟩ := ba c
  exact raises_own (of_decide_eq_true c1) (of_decide_eq_true c2)
/-! the end -/
theorem walk_X {l : PySem.W.OpenLaw} {n k : Nat} {q : Program} {loose : List Str} {XP : (Str → Option Value) → Heap → Prop} {YP : World → Heap → Prop} {d : DefRec} {x : Str} {Fn : List L3.PV → L3.R L3.OV}
    (hn : l.most = some n) (hn2 : n ≤ sizeLine) (hdf : d.params.defaults = []) (hr : Room k callerA)
    (F : ∀ (w : World) (mg : Str → Option Value) (fa : Addr) (h : Heap), YP w h → h.Ns mainGlobals mg → mg d.name = some (.ref fa) →
      ∃ (Γ : L3.Gc) (fd : FuncData), Γ.K.In h ∧ (∀ (s : Shared) (u : Value), BindsTo s fd ⟨[u], []⟩ [(x, u)]) ∧ ∀ base : Heap, Γ.K.In base → base.Ns mainGlobals mg → FnOk l.prog w Γ.K mg base (L2N.CX l.prog w) k fa fd [x] (L3.spP Γ Fn))
    (hF : ∀ ns : List Int, ns.length ≤ n → (∀ z ∈ ns, Builtin.Int.intBits z ≤ 1048576) → Fn [.scr (ns.map .int)] = .ok (.sh (.bl true))) :
    PySem.W.WalkO q loose XP YP l.row.toRowW d [] (fun f vs => PySem.call f vs) := by
  refine Att.attach_callB hn hdf fun w s₀ s₁ mg mb fa o pm cd doc a vs ns G Y ho hd hcd hmg hobj hints hlen hbits hg => ?_
  obtain ⟨Γ, fd, KX, hb, hFn⟩ := F w mg fa _ Y G.T.g hmg
  refine law_call KX G.T.g G.T.b G.T.builtins G.T.nolimit hg hobj hints (Nat.le_trans hlen hn2) hr hFn hb (fun H hO hS => ?_) fun H e s' hc => ?_
  · refine ⟨H, [.scr (ns.map .int)], Same.refl _, ?_, ?_⟩
    · refine L3.Reps.one ?_
      simp only [L3.Rep]
      refine ⟨a, _, rfl, hS, ?_⟩
      clear hlen hbits hints hS
      induction ns with
      | nil => exact L3.Reps.nil
      | cons i ns ih => exact L3.Reps.cons (by simp only [L3.Rep]) ih
    · rw [hF ns hlen hbits]
      intro v H' H₀' Fv E r nd fr
      simp only [L3.OwnR, L3.Rep] at r
      exact r.1
  · obtain ⟨_, _, _, _, _, _, _, _, _, _, _, _, z⟩ := hc
    exact z
end X4

end
section
/-! L3. 14: own ==, list(range(..)), small helps -/
namespace L3
open PySem PySem.Spec PyProof.Rows L2
/-! ### != by an own __eq__ -/
section
open PySem.W
variable {prog : Program} {w : World} {A : Around} {E : Value → Shared → Prop} {s : Shared} {K : Frag} {x C L f : Addr} {h₀ : Heap} {m : Str → Option Value} {ox : Obj} {od : Option Obj} {b tb : Value}
theorem ne_body {Q : Fin → Shared → Prop} (hu : A.units < cLine) (X : K.In s.heap) (I : InstAt s.heap x ox C od) (hs : findIn K (.ref C) "__eq__" = some (some (.ref f))) (hf : isFn K (.ref f) = true)
    (h : wpAny (model prog w) A (call (.ref f) [.ref x, b]) (fun v s' => ∃ k, v = .bool k ∧ Q (.done (.ret (.bool (!k)))) s') E s) : wpAny (model prog w) A (Builtin.«object.__ne__» ⟨[.ref x, b], []⟩) Q E s := by
  unfold Builtin.«object.__ne__»
  repeat (first | with_reducible refine wpAny_cRoomFor hu ?_ | (with_reducible refine ifBound_K (args := [b]) X I hs hf (wpAny_mono h (fun v s' q => ?_) fun _ _ e => e)) | wp_step)
  obtain ⟨k, rfl, q⟩ := q
  repeat (first | with_reducible refine wpAny_truthy_bool ?_ | wp_step)
  exact q
theorem ne_K {Q : Value → Shared → Prop} (hu : A.units + 1 < cLine) (Fr0 : Fr h₀ L s.heap m) (X₀ : K.In h₀) (I : InstAt s.heap x ox C od) (hb : Looks (model prog w) s.heap (typeOf b) tb) (hn : notFirst K C tb = true)
    (hs : findIn K (.ref C) "__eq__" = some (some (.ref f))) (hf : isFn K (.ref f) = true) (hne : findIn K (.ref C) "__ne__" = some (some (.builtin "object.__ne__"))) (hob : subIn K (.ref C) (.type "object") = some true)
    (h : wpAny (model prog w) A.in1 (call (.ref f) [.ref x, b]) (fun v s' => ∃ k, v = .bool k ∧ Q (.bool (!k)) s') E s) : wpAny (model prog w) A (richCompare .NotEq (.ref x) b) Q E s := by
  have X := X₀.keeps Fr0.keep
  have hu0 : A.units < cLine := Nat.lt_of_succ_lt hu
  have one : wpAny (model prog w) A (tryCompare (.ref x) (cmpInfo .NotEq).2.1 b) (fun r s' => ∃ v, r = some v ∧ Q v s') E s := by
    show wpAny (model prog w) A (tryCompare (.ref x) "__ne__" b) (fun r s' => ∃ v, r = some v ∧ Q v s') E s
    unfold tryCompare
    refine wpAny_bind ?_
    simp only [callSpecialIfBound?, bindSpecialIfBound?]
    refine wpAny_holding (wpAny_bind (wpAny_bind (wpAny_bind (I.type.here ((looks_findIn X hne).here ?_)))))
    simp only [F.cmp_object.ne.bind]
    refine wpAny_bind (wpAny_askSetting (wpAny_ite ?_))
    have hc : wpAny (model prog w) A (call (.builtin "object.__ne__") [.ref x, b]) (fun v s' => ∃ k, v = .bool k ∧ Q (.bool k) s') E s := by
      refine wpAny_call (codeAny_call_builtin F.cmp_object.ne.plain F.cmpEntry_ne ?_)
      simp only [checkBuiltinCall, F.cmpKind_ne, F.cmpSplit_ne]
      have LI : Looks (model prog w) s.heap (isInstance (.ref x) (.type "object")) true := I.type.andThen (looks_subIn X hob)
      refine wpAny_bind (LI.here ?_)
      have ha := F.cmpArgs_ne (.ref x) b
      cases hsig : Manifest.signature? "object.__ne__" with
      | none =>
        refine wpAny_pure ?_
        exact ne_body (A := A.in1) (by show A.units + 1 < cLine; exact hu) X I hs hf (wpAny_mono h (fun v s' q => (let ⟨k, e, q⟩ := q; ⟨k, e, ⟨!k, rfl, q⟩⟩)) fun _ _ e => e)
      | some sig =>
        simp only [argsOk, hsig] at ha
        have h2 : Bind.checkArgs "object.__ne__" sig ⟨[.ref x, b], []⟩ = pure () := ha
        show wpAny _ _ (Bind.checkArgs "object.__ne__" sig ⟨[.ref x, b], []⟩) _ _ _
        rw [h2]
        refine wpAny_pure ?_
        exact ne_body (A := A.in1) (by show A.units + 1 < cLine; exact hu) X I hs hf (wpAny_mono h (fun v s' q => (let ⟨k, e, q⟩ := q; ⟨k, e, ⟨!k, rfl, q⟩⟩)) fun _ _ e => e)
    have fin : wpAny (model prog w) A (call (.builtin "object.__ne__") ([.ref x] ++ [b]) >>= fun v => pure (some v)) (fun r s' => wpAny (model prog w) A (match r with
        | some .notImplemented => pure none
        | none => pure none
        | some v => pure (some v)) (fun r s' => ∃ v, r = some v ∧ Q v s') E s') E s := wpAny_bind (wpAny_mono hc (fun v s' q => (by obtain ⟨k, rfl, q⟩ := q; exact wpAny_pure (wpAny_pure ⟨_, rfl, q⟩))) fun _ _ h' => h')
    split
    · exact wpAny_bind (wpAny_pure (wpAny_pure fin))
    · exact wpAny_tryCatch (wpAny_bind (wpAny_pure (wpAny_pure fin)))
  unfold richCompare
  simp only [oneThing_ref]
  refine wpAny_holding (wpAny_bind (wpAny_cRoomFor hu0 ?_))
  refine wpAny_bind (I.type.here (wpAny_bind (hb.here ?_)))
  split
  · rename_i q
    have e : subIn K tb (.ref C) = some false := by
      rcases Bool.or_eq_true_iff.mp hn with e | e
      · rw [beq_iff_eq.mp e] at q; simp at q
      · exact beq_iff_eq.mp e
    refine wpAny_bind ((looks_subIn X e).here ?_)
    simp only [Bool.false_eq_true, if_false]
    refine wpAny_bind (wpAny_mono one (fun r s' z => ?_) fun _ _ e => e)
    obtain ⟨v, rfl, hq⟩ := z
    exact wpAny_pure hq
  · refine wpAny_bind (wpAny_pure ?_)
    simp only [Bool.false_eq_true, if_false]
    refine wpAny_bind (wpAny_mono one (fun r s' z => ?_) fun _ _ e => e)
    obtain ⟨v, rfl, hq⟩ := z
    exact wpAny_pure hq
end
/-- what an own == must have -/
structure EqC (K : PySem.W.Frag) (Ca f : Addr) : Prop where
  eq : PySem.W.findIn K (.ref Ca) "__eq__" = some (some (.ref f))
  fn : PySem.W.isFn K (.ref f) = true
  ne : PySem.W.findIn K (.ref Ca) "__ne__" = some (some (.builtin "object.__ne__"))
  ob : PySem.W.subIn K (.ref Ca) (.type "object") = some true
  tu : PySem.W.subIn K (.type "tuple") (.ref Ca) = some false
def rEqO (K : PySem.W.Frag) (Ca : Addr) (sp : Sp) (neg : Bool) : R2 := fun x y H Q => ∃ a b dx fs, x = .ref a ∧ y = .ref b ∧ H a = some (.ins Ca dx fs) ∧ ((∃ dy gs, H b = some (.ins Ca dy gs)) ∨ ∃ xs, SqT K H b xs) ∧
  sp [x, y] H (fun v H' => ∃ k, v = .bl k ∧ Q (.bl (if neg then !k else k)) H') fun _ _ _ => False
section
variable {X : Cx} {Ca f : Addr} {fd : FuncData} {ns : List Str} {k : Nat} {sp : Sp}
theorem type_of_y {pins : List (Addr × Obj)} {σ : L2.St} {H : Hp} {s : Shared} {b : Addr} (T : EqC X.K Ca f) (I : Inv X pins σ H s) (h : (∃ dy gs, H b = some (.ins Ca dy gs)) ∨ ∃ xs, SqT X.K H b xs) :
    ∃ tb, PySem.W.Looks (model X.prog X.w) s.heap (typeOf (.ref b)) tb ∧ PySem.W.notFirst X.K Ca tb = true := by
  rcases h with ⟨dy, gs, h⟩ | ⟨xs, h⟩
  · obtain ⟨mA, J, _⟩ := ins_get I.hok h
    obtain ⟨od, J, _⟩ := J.look
    exact ⟨_, J.type, by simp [PySem.W.notFirst]⟩
  · obtain ⟨its, rv, pl, hz⟩ := I.tuple h
    obtain ⟨o, ho, hc, _⟩ := pl
    exact ⟨.type "tuple", fun A Q E s' kk q => wpAny_typeOf_ref (kk _ _ ho) (by rw [hc]; exact q), by simp [PySem.W.notFirst, T.tu]⟩
theorem run_eqO {A : Around} {pins : List (Addr × Obj)} {σ : L2.St} {H : Hp} {s : Shared} {a b : Addr} {Q : VK} (Fo : FnOk X.prog X.w X.K X.mg X.base (L2N.CX X.prog X.w) k f fd ns sp) (hr : Room k A) (hfr : A.frames = X.A.frames) (hb : Binds X.K fd ns []) (I : Inv X pins σ H s)
    (h : sp [.ref a, .ref b] H (fun v H' => ∃ k, v = .bl k ∧ Q (.bl k) H') fun _ _ _ => False) :
    wpAny (model X.prog X.w) A (call (.ref f) [.ref a, .ref b]) (fun u s' => ∃ k H', u = .bool k ∧ Inv X pins σ H' s' ∧ Q (.bl k) H') X.xe s := by
  have e0 : Env0 X.prog X.w X.K X.mg X.base A X.stack s H := by
    have e := I.env0
    exact ⟨by rw [hfr]; exact e.frames, e.mod, e.bs, e.bsz, e.funs, e.frf, e.hok, e.bare⟩
  have hl := Fo.len _ _ _ _ h
  have r2 : Vals [V.ref a, V.ref b] [Value.ref a, Value.ref b] := .cons rfl (.cons rfl .nil)
  refine wpAny_call (codeAny_mono (Fo.run A X.stack s H ⟨[.ref a, .ref b], []⟩ [.ref a, .ref b] [.ref a, .ref b] _ _ hr e0 (by
    have := hb s [.ref a, .ref b] I.kIn (by simpa using hl)
    simpa using this) r2 h) fun r s' hq => ?_)
  cases r with
  | error e =>
    obtain ⟨_, _, _, _, _, _, _, _, _, _, _, _, z⟩ := hq
    exact z.elim
  | ok fl =>
    cases fl with
    | ret u =>
      obtain ⟨z, H', I', rz, k, ez, q⟩ := I.after hq
      subst ez
      cases rz
      exact ⟨k, H', rfl, I', q⟩
    | next => exact False.elim hq
    | brk => exact False.elim hq
    | cont => exact False.elim hq
theorem op_eqO (T : EqC X.K Ca f) (Fo : FnOk X.prog X.w X.K X.mg X.base (L2N.CX X.prog X.w) k f fd ns sp) (hr : Room k X.A) (hb : Binds X.K fd ns []) : OpR X (compareOp .Eq) (rEqO X.K Ca sp false) := by
  intro pins s σ H x y v u Q I rx ry h
  obtain ⟨a, b, dx, fs, rfl, rfl, ha, hy, h⟩ := h
  cases rx
  cases ry
  obtain ⟨mA, J, _⟩ := ins_get I.hok ha
  obtain ⟨od, J, _⟩ := J.look
  obtain ⟨m, hF⟩ := I.fr
  obtain ⟨tb, L1, L2⟩ := type_of_y T I hy
  show wpAny (model X.prog X.w) X.A (richCompare .Eq (.ref a) (.ref b)) (EP X pins σ Q) X.xe s
  refine PySem.W.cmp_K (op := .Eq) hr.units0 hF I.ok.mod.kin J L1 L2 T.eq T.fn ?_
  refine wpAny_mono (run_eqO Fo hr rfl hb I h) (fun v s' q => ?_) fun _ _ e => e
  obtain ⟨k, H', rfl, I', q⟩ := q
  exact ⟨.bl k, H', I', rfl, q⟩
theorem op_neO (T : EqC X.K Ca f) (Fo : FnOk X.prog X.w X.K X.mg X.base (L2N.CX X.prog X.w) k f fd ns sp) (hr : Room (k + 1) X.A) (hb : Binds X.K fd ns []) : OpR X (compareOp .NotEq) (rEqO X.K Ca sp true) := by
  intro pins s σ H x y v u Q I rx ry h
  obtain ⟨a, b, dx, fs, rfl, rfl, ha, hy, h⟩ := h
  cases rx
  cases ry
  obtain ⟨mA, J, _⟩ := ins_get I.hok ha
  obtain ⟨od, J, _⟩ := J.look
  obtain ⟨m, hF⟩ := I.fr
  obtain ⟨tb, L1, L2⟩ := type_of_y T I hy
  show wpAny (model X.prog X.w) X.A (richCompare .NotEq (.ref a) (.ref b)) (EP X pins σ Q) X.xe s
  refine ne_K (by have := hr.units; omega) hF I.ok.mod.kin J L1 L2 T.eq T.fn T.ne T.ob ?_
  refine wpAny_mono (run_eqO (A := X.A.in1) (Q := fun v H' => ∃ k, v = .bl k ∧ Q (.bl (!k)) H') Fo hr.in1 rfl hb I ?_) (fun v s' q => ?_) fun _ _ e => e
  · refine cast ?_ h
    congr
    funext v H'
    refine propext ⟨fun ⟨k, e, q⟩ => ⟨k, e, k, rfl, q⟩, fun ⟨k, e, k', e', q⟩ => ⟨k, e, ?_⟩⟩
    cases e'
    exact q
  · obtain ⟨k, H', rfl, I', k', e, q⟩ := q
    cases e
    exact ⟨k, rfl, .bl (!k), H', I', rfl, q⟩
end
def eqY (c : Nat) : PV → Bool
  | .ins c'' _ => decide (c'' = c)
  | .tup _ => true
  | _ => false
def eqoK (c : Nat) (Fn : List PV → R OV) (neg : Bool) (p q : PV) : R PV := match p with
  | .ins c' _ => if c' = c ∧ eqY c q = true then (match Fn [p, q] with
      | .ok (.sh (.bl b)) => .ok (.bl (if neg then !b else b))
      | _ => .no) else .no
  | _ => .no
def eEqO (neg : Bool) (c : Nat) (Fn : List PV → R OV) (fa fb : Env → R PV) : Env → R PV := fun ρ => (fa ρ).bind fun p => (fb ρ).bind fun q => eqoK c Fn neg p q
section
variable {C : Fc} {W : WX} {m : Bool} {X : Cx} {a b : Expr} {pos : Pos} {f : Addr} {fd : FuncData} {ns : List Str} {k c : Nat} {Fn : List PV → R OV} {fa fb : Env → R PV} {σ : L2.St} {H : Hp} {neg : Bool}
theorem eqo_go (hK : X.K = C.G.K) {Q : VK} (h : tE C W m (eEqO neg c Fn fa fb) σ H Q) : tE C W m fa σ H fun x H1 => tE C W m fb σ H1 fun y H2 => rEqO X.K (C.G.CA c) (spP C.G Fn) neg x y H2 Q := by
  rw [tE_iff] at h ⊢
  obtain ⟨H₀, F, ρ, S, h⟩ := h
  unfold eEqO at h
  rw [Goes.bind] at h
  refine ⟨H₀, F, ρ, S, h.imp fun p _ h1 v H1 H₁ E1 r1 => ?_⟩
  clear h
  rw [Goes.bind] at h1
  rw [tE_iff]
  have S1 := S.ext E1
  refine ⟨H₁, F, ρ, S1, (h1.later E1).imp fun q _ h w H2 H₂ E2 r2 => ?_⟩
  clear h1
  have S2 := S1.ext E2
  have r1 := Rep.mono (md_ext E2) r1
  have E := E1.trans E2
  unfold eqoK at h
  cases p with
  | ins c' fs =>
    dsimp only at h
    by_cases hc : c' = c ∧ eqY c q = true
    rotate_left
    · rw [if_neg hc] at h
      exact h.elim
    rw [if_pos hc] at h
    obtain ⟨hc1, hc2⟩ := hc
    subst hc1
    have r1' := r1
    simp only [Rep] at r1'
    obtain ⟨a', dx, vs, e1, e2, e3⟩ := r1'
    have yk : ∃ b', w = .ref b' ∧ ((∃ dy gs, H2 b' = some (.ins (C.G.CA c') dy gs)) ∨ ∃ xs, SqT X.K H2 b' xs) := by
      cases q with
      | ins c'' gs =>
        have hc3 : c'' = c' := by simpa [eqY] using hc2
        subst hc3
        have r2' := r2
        simp only [Rep] at r2'
        obtain ⟨b', dy, ws, g1, g2, g3⟩ := r2'
        exact ⟨b', g1, .inl ⟨dy, ws, md_H S2.z _ _ g2⟩⟩
      | tup l =>
        have r2' := r2
        simp only [Rep] at r2'
        obtain ⟨b', xs, g1, g2, g3⟩ := r2'
        exact ⟨b', g1, .inr ⟨xs, by rw [hK]; exact Same.seqT (md_H S2.z) g2⟩⟩
      | _ => simp [eqY] at hc2
    obtain ⟨b', g1, g2⟩ := yk
    subst e1 g1
    cases eF : Fn [.ins c' fs, q] with
    | er z => rw [eF] at h; exact h.elim
    | no => rw [eF] at h; exact h.elim
    | ok o =>
      rw [eF] at h
      match o, eF, h with
      | .sh (.bl bb), eF, h =>
        refine ⟨a', b', dx, vs, rfl, rfl, md_H S2.z _ _ e2, g2, md m H₂ H2 F, [.ins c' fs, q], md_H S2.z, Reps.cons r1 (Reps.one r2), ?_⟩
        rw [eF]
        intro v H' Hc Fv Ec ro nd fr
        obtain ⟨H₀', E', c1, c2, c3⟩ := cap S2 Ec
        simp only [OwnR, Rep] at ro
        exact ⟨bb, ro.1, h _ H' H₀' (E.trans E') (by simp only [Rep])⟩
      | .sh .non, eF, h => exact (show False from h).elim
      | .sh (.int _), eF, h => exact (show False from h).elim
      | .sh (.str _), eF, h => exact (show False from h).elim
      | .sh (.lst _), eF, h => exact (show False from h).elim
      | .sh (.scr _), eF, h => exact (show False from h).elim
      | .sh (.tup _), eF, h => exact (show False from h).elim
      | .sh (.ins _ _), eF, h => exact (show False from h).elim
      | .own _, eF, h => exact (show False from h).elim
      | .obj _ _, eF, h => exact (show False from h).elim
  | _ => exact (show False from h).elim
theorem tst_go' {f : Env → R PV} {Q : Bool → Hp → Prop} (h : tTt C W (eTst f) σ H Q) : tE C W m f σ H fun x H' => ∃ k, x = .bl k ∧ Q k H' := tst_go h
theorem qEqO (hK : X.K = C.G.K) (Fo : FnOk X.prog X.w X.K X.mg X.base (L2N.CX X.prog X.w) k f fd ns (spP C.G Fn)) (T : EqC X.K (C.G.CA c) f) (hr : Room k X.A) (hb : Binds X.K fd ns []) (ha : QE C W m X a fa) (hb' : QE C W m X b fb) (hm : behindInMarks .Eq b = false := by first | exact nomark _ | rfl) :
    QE C W m X (.Compare a [.Eq] [b] pos) (eEqO false c Fn fa fb) := PE.imp (pe_cmpR (op_eqO T Fo hr hb) ha hb' hm) fun σ H Q h => eqo_go hK h
theorem qNeO (hK : X.K = C.G.K) (Fo : FnOk X.prog X.w X.K X.mg X.base (L2N.CX X.prog X.w) k f fd ns (spP C.G Fn)) (T : EqC X.K (C.G.CA c) f) (hr : Room (k + 1) X.A) (hb : Binds X.K fd ns []) (ha : QE C W m X a fa) (hb' : QE C W m X b fb) (hm : behindInMarks .NotEq b = false := by first | exact nomark _ | rfl) :
    QE C W m X (.Compare a [.NotEq] [b] pos) (eEqO true c Fn fa fb) := PE.imp (pe_cmpR (op_neO T Fo hr hb) ha hb' hm) fun σ H Q h => eqo_go hK h
theorem tEqO (hK : X.K = C.G.K) (Fo : FnOk X.prog X.w X.K X.mg X.base (L2N.CX X.prog X.w) k f fd ns (spP C.G Fn)) (T : EqC X.K (C.G.CA c) f) (hr : Room k X.A) (hb : Binds X.K fd ns []) (ha : QE C W m X a fa) (hb' : QE C W m X b fb) (hm : behindInMarks .Eq b = false := by first | exact nomark _ | rfl) :
    QT C W X (.Compare a [.Eq] [b] pos) (eTst (eEqO false c Fn fa fb)) := PT.imp (pt_cmpR (op_eqO T Fo hr hb) ha hb' hm) fun σ H Q h => eqo_go (m := m) hK (tst_go' h)
theorem tNeO (hK : X.K = C.G.K) (Fo : FnOk X.prog X.w X.K X.mg X.base (L2N.CX X.prog X.w) k f fd ns (spP C.G Fn)) (T : EqC X.K (C.G.CA c) f) (hr : Room (k + 1) X.A) (hb : Binds X.K fd ns []) (ha : QE C W m X a fa) (hb' : QE C W m X b fb) (hm : behindInMarks .NotEq b = false := by first | exact nomark _ | rfl) :
    QT C W X (.Compare a [.NotEq] [b] pos) (eTst (eEqO true c Fn fa fb)) := PT.imp (pt_cmpR (op_neO T Fo hr hb) ha hb' hm) fun σ H Q h => eqo_go (m := m) hK (tst_go' h)
/-! ### list(range(n)) -/
def bLstR : List PV → R OV
  | [.int n] => if 0 ≤ n ∧ n ≤ 1000000 then .ok (.own ((rngP 0 n.toNat).map .sh)) else .no
  | _ => .no
theorem reps_rng {G : Gc} {Hv : Hp} {n : Int} : Reps G Hv (rngP 0 n.toNat) (rgV 0 n) := by
  unfold rngP rgV
  rw [show (n - 0).toNat = n.toNat by simp]
  generalize List.range n.toNat = l
  induction l with
  | nil => exact Reps.nil
  | cons i l ih => exact Reps.cons (by simp only [Rep]) ih
theorem qListR {e : Expr} {p pos p2 pos2 : Pos} {fe : Env → R PV} (hc : X.calm = true) (hm : X.mg "list" = none) (hm2 : X.mg "range" = none) (he : QE C W true X e fe) (hg : Gl X "list" := by rfl) (hg2 : Gl X "range" := by rfl) (na : starEach [e] X.env = (false, eval e X.env) :: starEach [] X.env := by rfl)
    (na2 : starEach [.Call (.Name "range" p2) [e] [] pos2] X.env = (false, eval (.Call (.Name "range" p2) [e] [] pos2) X.env) :: starEach [] X.env := by rfl) : QF C W X (.Call (.Name "list" p) [.Call (.Name "range" p2) [e] [] pos2] [] pos) (fB bLstR (aCons fe aNil)) := by
  refine PE.imp (pe_listRg hc hg hm (prg_1 hg2 hm2 he na) na2) fun σ H Q h => ?_
  show tE C W true fe σ H fun x H1 => ∃ n, x = .int n ∧ RgOk 0 n ∧ ∀ q, H1 q = none → Q (.ref q) (upd H1 q (.lst (rgV 0 n)))
  rw [tF_iff] at h
  rw [tE_iff]
  obtain ⟨H₀, F, ρ, S, h⟩ := h
  unfold fB aCons aNil at h
  rw [Goes.bind, Goes.bind] at h
  refine ⟨H₀, F, ρ, S, h.imp fun p _ h v H1 H₁ E1 r1 => ?_⟩
  have h : Goes C.G W (bLstR [p]) σ H H₀ fun o => ∀ v H' H₀' Fv, Ext H₀ H H₀' H' → OwnR C.G H₀' H' o v Fv → Fv.Nodup → (∀ a ∈ Fv, H a = none ∧ H₀' a = none) → Q v H' := h
  unfold bLstR at h
  cases p with
  | int n =>
    dsimp only at h
    by_cases hn : 0 ≤ n ∧ n ≤ 1000000
    · rw [if_pos hn] at h
      simp only [Rep] at r1
      refine ⟨n, r1, RgOk.of_le (Int.le_refl _) (by omega) (by omega) hn.1, fun q hq => ?_⟩
      obtain ⟨E3, o3, n3, f3⟩ := own_new (C := C) E1.z hq (reps_rng (G := C.G) (Hv := H₁) (n := n))
      exact h _ _ _ _ (E1.trans E3) o3 n3 fun c hc => ⟨Same.free E1.s (f3 c hc).1, (f3 c hc).2⟩
    · rw [if_neg hn] at h
      exact h.elim
  | _ => exact (show False from h).elim
end
/-! ### small helps -/
theorem fxo_none {G : Gc} {He Hz Hx : Hp} {i : Nat} : fxOk ⟨G, He, Hz, none, Hx⟩ i := fun _ _ z => nomatch z
theorem fxo_some {G : Gc} {He Hz Hx : Hp} {i j : Nat} {v : V} (h : j ≠ i) : fxOk ⟨G, He, Hz, some (j, v), Hx⟩ i := fun j' v' z => by
  have z : (j, v) = (j', v') := Option.some.inj z
  cases z
  exact h
theorem fxs_none {G : Gc} {He Hz Hx : Hp} {l : List Nat} : ∀ i ∈ l, fxOk ⟨G, He, Hz, none, Hx⟩ i := fun _ _ => fxo_none
theorem fxs_some {G : Gc} {He Hz Hx : Hp} {l : List Nat} {j : Nat} {v : V} (h : j ∉ l) : ∀ i ∈ l, fxOk ⟨G, He, Hz, some (j, v), Hx⟩ i := fun i hi => fxo_some fun z => h (z ▸ hi)
/-- a name that an inner block takes, as a comprehension's target -/
theorem lcNameC {C : Fc} {X : Cx} {pos : Pos} {scope : Scope} {i : Nat} {x : Str} (hx : fxOk C i) (hN : X.N.Nodup) (hi : X.N[i]? = some x) (hl : ∀ c cl, (compEnvC scope cl c X.env).scope.names.lookup x = some .cell) (hc : (scope.names.lookup x == some .cell) = true) :
    ∃ g : TG, (∀ (s : Shared) (H : Hp) (c : Addr) (cl : List (Str × Addr)) (fp : List Addr), PG (X.blk s H scope (compEnvC scope cl c X.env) fp) (.Name x pos) g) ∧ ∀ (p : PV) (v : V) (H₀ : Hp) (F : List Addr) (ρ ρ' : Env) (σ : L2.St) (H : Hp) (Q : L2.St → Hp → Prop), SR C H₀ F ρ σ H → Rep C.G H₀ p v → tgS (.nm i) p ρ = .ok ρ' → (∀ σ' F', SR C H₀ F' ρ' σ' H → (∀ vs, (∀ j ∈ (Tg.nm i).slots, j ∈ vs) → wipe σ' vs = wipe σ vs) → Q σ' H) → g v σ H Q :=
  ⟨gName i, fun s H c cl fp => pg_name hN hi (.inr (hl c cl)) (.inl hc), fun p v H₀ F ρ ρ' σ H Q S r e k => by
    simp only [tgS] at e
    cases e
    obtain ⟨F', S'⟩ := S.sh r hx
    exact k _ F' S' fun vs hv => wipe_set (hv i (by simp [Tg.slots]))⟩
/-- isinstance of a built-in class, of what is no instance of an own class -/
def tbT (t : String) : String → Option Bool := fun s => if s = "NoneType" ∨ s = "bool" ∨ s = "int" ∨ s = "str" ∨ s = "list" ∨ s = "tuple" then kitB s t else none
theorem tbT_ok {t : String} : ∀ s b, tbT t s = some b → kitB s t = some b := fun s b h => by
  unfold tbT at h
  split at h
  · exact h
  · cases h
def ibN : Nat → Option Bool := fun _ => none
theorem ibN_ok {P : Nat → Bool → Prop} : ∀ c b, ibN c = some b → P c b := fun _ _ h => nomatch h
theorem hotc {X : Cx} {a : Addr} {ob : Obj} {cls : Value} {d : Option Addr} {pl : List (Addr × Obj)} (hz : L2N.Zn cls d ob) (hf : ∃ vs, ob.data = .fields vs) : L2H.HotC (X.suite a ((a, ob) :: pl)) :=
  let ⟨vs, e⟩ := hf
  ⟨(a, ob), ⟨rfl, vs, e, hz.2.2 vs e⟩, List.mem_cons_self⟩
theorem room_mark {k : Nat} {A : Around} {h : Option Value} (r : L2H.RoomH k A) : L2H.RoomH k (A.mark h) := ⟨r.dp, r.un⟩
theorem hu_of {k : Nat} {A : Around} (r : Room k A) : A.units + 65 < cLine := by have := r.un; omega
theorem huH_of {k : Nat} {A : Around} (r : L2H.RoomH k A) : A.units + 65 < cLine := by have := r.un; omega
theorem dep_of {k : Nat} {A : Around} (r : Room k A) : A.depth + 1 < recursionLimit := by have := r.dp; omega
end L3

end
section
/-! L3. 15: the head's facts, more of them -/
namespace X4
open PySem PySem.Spec PyProof.Rows L2 He
def eqcB (x : Str) : Ck := fun K => eqO (PySem.W.findIn K (.ref (ga K x)) "__eq__") (some (some (.ref (ma K (ga K x) "__eq__")))) && (PySem.W.isFn K (.ref (ma K (ga K x) "__eq__")) && (eqO (PySem.W.findIn K (.ref (ga K x)) "__ne__") (some (some (.builtin "object.__ne__"))) &&
  (decide (PySem.W.subIn K (.ref (ga K x)) (.type "object") = some true) && decide (PySem.W.subIn K (.type "tuple") (.ref (ga K x)) = some false))))
theorem eqc_ok {K : PySem.W.Frag} {x : Str} (c : eqcB x K = true) : L3.EqC K (ga K x) (ma K (ga K x) "__eq__") := by
  obtain ⟨c1, c⟩ := ba c
  obtain ⟨c2, c⟩ := ba c
  obtain ⟨c3, c⟩ := ba c
  obtain ⟨c4, c5⟩ := ba c
  exact ⟨eqO_ok c1, c2, eqO_ok c3, of_decide_eq_true c4, of_decide_eq_true c5⟩
def xfCk (x : Str) : Ck := fun K => L2.xfB K (ga K x)
theorem xfc_ok {K : PySem.W.Frag} {x : Str} (c : xfCk x K = true) : XfC K (ga K x) := xfB_ok c
def exiC (x : Str) : Ck := fun K => exiB K (ga K x)
def kitRR (x y : Str) (b : Bool) : Ck := fun K => decide (PySem.W.kitOne K (.ref (ga K x)) (.ref (ga K y)) = some b)
def kitTR (t : String) (y : Str) (b : Bool) : Ck := fun K => decide (PySem.W.kitOne K (.type t) (.ref (ga K y)) = some b)
theorem kitRR_ok {K : PySem.W.Frag} {x y : Str} {b : Bool} (c : kitRR x y b K = true) : PySem.W.kitOne K (.ref (ga K x)) (.ref (ga K y)) = some b := of_decide_eq_true c
theorem kitTR_ok {K : PySem.W.Frag} {t : String} {y : Str} {b : Bool} (c : kitTR t y b K = true) : PySem.W.kitOne K (.type t) (.ref (ga K y)) = some b := of_decide_eq_true c
theorem exmB_ok {K : PySem.W.Frag} {x y : Str} {b : Bool} (c : exmB x y b K = true) : PySem.W.exmOne K (.ref (ga K x)) (.ref (ga K y)) = some b := of_decide_eq_true c
def tupC (x : Str) (vs : List Dv) : Ck := fun K => tupB K x vs
/-- all defs at once -/
theorem SaysX.defs {fs : List Ck} {fn : List DefD} {sx : List SupD} {K : PySem.W.Frag} (c : SaysX fs fn sx K) (h0 : 0 < fn.length) : ∃ fd : Nat → FuncData, ∀ (i : Nat) (d : DefD), fn[i]? = some d → FunD K d.name d.qual d.params d.body d.scope (d.dvs K) (d.kws K) (fAd K d.at_) (fd i) := by
  obtain ⟨f0, _⟩ := c.def_ 0 (d := fn[0]) (by rw [List.getElem?_eq_getElem h0])
  have key : ∀ i : Nat, ∃ f : FuncData, ∀ d : DefD, fn[i]? = some d → FunD K d.name d.qual d.params d.body d.scope (d.dvs K) (d.kws K) (fAd K d.at_) f := by
    intro i
    cases e : fn[i]? with
    | none => exact ⟨f0, fun d h => nomatch h⟩
    | some d0 =>
      obtain ⟨f, hf⟩ := c.def_ i e
      exact ⟨f, fun d h => by cases h; exact hf⟩
  exact ⟨fun i => (key i).choose, fun i => (key i).choose_spec⟩
theorem binds_all {K : PySem.W.Frag} {x qual : Str} {params : Arguments} {body : List Stmt} {scope : Scope} {dvs : List V} {kws : List (Str × V)} {f : Addr} {fd : FuncData} {ps : List Str} (F : FunD K x qual params body scope dvs kws f fd) (hd : dvs ≠ [])
    (h : ∀ (T : Addr) (kV doc pm : Value) (an : Option Addr) (cdv ct : Value) (us its : List Value), us.length = ps.length → its.length = dvs.length →
      ∃ k, bindArgs (PySem.W.fnOf x qual params body scope (.ref T) kV doc pm an cdv ct) ⟨us, []⟩ = seqItems? (.ref T) >>= k ∧ k (some its.toArray) = pure (ps.zip us)) : Vals [] [] ∧ Binds K fd ps [] := by
  obtain ⟨ds, h1, h2⟩ := FunD.binds1 (ps := ps) F ps.length dvs.length hd (by simp) fun T kV doc pm an cdv ct us its hu hi => by
    obtain ⟨k, e1, e2⟩ := h T kV doc pm an cdv ct us its hu hi
    exact ⟨k, e1, by rw [e2, List.drop_eq_nil_of_le (by omega), List.append_nil]⟩
  rw [List.drop_eq_nil_of_le (Nat.le_refl _)] at h1
  cases h1
  exact ⟨.nil, h2⟩
end X4

end
section
/-! L3. 16: the plain functions, reckoned by simp -/
namespace L3
open PySem PySem.Spec PyProof.Rows L2
/-- a proof by computing that simp is to name -/
theorem nr {α : Sort _} {a b : α} (h : a = b) : a = b := h
/-! ### one thing after another: every rule has its continuation by name, so that simp never looks under a binder -/
section
variable {ρ ρ' : Env} {fa fb : Env → R PV} {c d : Env → R Bool} {s t : Env → RS} {fas : Env → R (List PV)} {fo go : Env → R OV} {fm : Env → R (OV × Env)} {p q : PV} {o : OV} {i j : Nat} {x : PX}
def seqS : RS → (Env → RS) → RS
  | .nx ρ, g => g ρ
  | r, _ => r
@[simp] theorem seqS_nx : seqS (.nx ρ) s = s ρ := nr rfl
@[simp] theorem seqS_rt : seqS (.rt o) s = .rt o := nr rfl
@[simp] theorem seqS_bk : seqS (.bk ρ) s = .bk ρ := nr rfl
@[simp] theorem seqS_ct : seqS (.ct ρ) s = .ct ρ := nr rfl
@[simp] theorem seqS_er : seqS (.er x ρ) s = .er x ρ := nr rfl
@[simp] theorem sSeq_at : sSeq s t ρ = seqS (s ρ) t := by unfold sSeq; cases s ρ <;> rfl
@[simp] theorem sNx_at : sNx ρ = .nx ρ := nr rfl
@[simp] theorem sBk_at : sBk ρ = .bk ρ := nr rfl
@[simp] theorem sCt_at : sCt ρ = .ct ρ := nr rfl
def ifS : R Bool → (Env → RS) → (Env → RS) → Env → RS
  | .ok k, s, t, ρ => if k = true then s ρ else t ρ
  | .er x, _, _, ρ => .er x ρ
  | .no, _, _, _ => .no
@[simp] theorem ifS_true : ifS (.ok true) s t ρ = s ρ := nr rfl
@[simp] theorem ifS_false : ifS (.ok false) s t ρ = t ρ := nr rfl
@[simp] theorem ifS_er : ifS (.er x) s t ρ = .er x ρ := nr rfl
@[simp] theorem sIf_at : sIf c s t ρ = ifS (c ρ) s t ρ := by unfold sIf; cases c ρ <;> rfl
def setS (i : Nat) : R (OV × Env) → Env → RS
  | .ok q, _ => .nx (q.2.set i (some q.1))
  | .er x, ρ => .er x ρ
  | .no, _ => .no
@[simp] theorem setS_ok : setS i (.ok (o, ρ)) ρ' = .nx (ρ.set i (some o)) := nr rfl
@[simp] theorem setS_er : setS i (.er x) ρ' = .er x ρ' := nr rfl
@[simp] theorem sSet_at : sSet i fm ρ = setS i (fm ρ) ρ := by unfold sSet; cases fm ρ <;> rfl
def rtS : R (OV × Env) → Env → RS
  | .ok q, _ => .rt q.1
  | .er x, ρ => .er x ρ
  | .no, _ => .no
@[simp] theorem rtS_ok : rtS (.ok (o, ρ)) ρ' = .rt o := nr rfl
@[simp] theorem rtS_er : rtS (.er x) ρ' = .er x ρ' := nr rfl
@[simp] theorem sRt_at : sRt fm ρ = rtS (fm ρ) ρ := by unfold sRt; cases fm ρ <;> rfl
@[simp] theorem sRtN_at : sRtN ρ = .rt (.sh .non) := nr rfl
def doS {α : Type} : R α → Env → RS
  | .ok _, ρ => .nx ρ
  | .er x, ρ => .er x ρ
  | .no, _ => .no
@[simp] theorem doS_ok {α : Type} {a : α} : doS (.ok a) ρ = .nx ρ := nr rfl
@[simp] theorem doS_er {α : Type} : doS (.er x : R α) ρ = .er x ρ := nr rfl
@[simp] theorem sDo_at {α : Type} {f : Env → R α} : sDo f ρ = doS (f ρ) ρ := by unfold sDo; cases f ρ <;> rfl
def rzS (k : Nat) (fl : Str) : R PV → Env → RS
  | .ok p, ρ => .er ⟨k, [(fl, p)]⟩ ρ
  | .er x, ρ => .er x ρ
  | .no, _ => .no
@[simp] theorem rzS_ok {k : Nat} {fl : Str} : rzS k fl (.ok p) ρ = .er ⟨k, [(fl, p)]⟩ ρ := nr rfl
@[simp] theorem sRz_at {k : Nat} {fl : Str} : sRz k fl fa ρ = rzS k fl (fa ρ) ρ := by unfold sRz; cases fa ρ <;> rfl
@[simp] theorem sFz_at : sFz i s ρ = s (frz i ρ) := nr rfl
def tgN : R Env → Env → RS
  | .ok ρ', _ => .nx ρ'
  | .er x, ρ => .er x ρ
  | .no, _ => .no
@[simp] theorem tgN_ok : tgN (.ok ρ) ρ' = .nx ρ := nr rfl
def tgG (T : Tg) : R PV → Env → RS
  | .ok p, ρ => tgN (tgS T p ρ) ρ
  | .er x, ρ => .er x ρ
  | .no, _ => .no
@[simp] theorem tgG_ok {T : Tg} : tgG T (.ok p) ρ = tgN (tgS T p ρ) ρ := nr rfl
@[simp] theorem sTg_at {T : Tg} : sTg T fa ρ = tgG T (fa ρ) ρ := by
  unfold sTg
  cases fa ρ with
  | ok p =>
    show (tgS T p ρ).to ρ _ = tgN _ _
    cases tgS T p ρ <;> rfl
  | er x => rfl
  | no => rfl
def parS (i j : Nat) : R (List PV) → Env → RS
  | .ok [p, q], ρ => .nx ((ρ.set i (some (.sh p))).set j (some (.sh q)))
  | .ok _, _ => .no
  | .er x, ρ => .er x ρ
  | .no, _ => .no
@[simp] theorem parS_ok : parS i j (.ok [p, q]) ρ = .nx ((ρ.set i (some (.sh p))).set j (some (.sh q))) := nr rfl
@[simp] theorem sPar_at (h : ∃ p q, fas ρ = .ok [p, q]) : sPar i j fas ρ = parS i j (fas ρ) ρ := by
  obtain ⟨p, q, h⟩ := h
  unfold sPar
  rw [h]
  rfl
def forS (T : Tg) (fg : List Nat) (s : Env → RS) : R (List PV) → Env → RS
  | .ok ps, ρ => forGo T fg s ps (wipeE ρ fg)
  | .er x, ρ => .er x ρ
  | .no, _ => .no
@[simp] theorem forS_ok {T : Tg} {fg : List Nat} {ps : List PV} : forS T fg s (.ok ps) ρ = forGo T fg s ps (wipeE ρ fg) := nr rfl
@[simp] theorem sFor_at {T : Tg} {fg : List Nat} {fi : Env → R (List PV)} : sFor T fg fi s ρ = forS T fg s (fi ρ) ρ := by unfold sFor; cases fi ρ <;> rfl
@[simp] theorem sWhile_at {fu : Env → Nat} {fg : List Nat} : sWhile fu fg c s ρ = whGo fg c s (fu ρ) (wipeE ρ fg) := nr rfl
/-! expressions -/
@[simp] theorem eVar_zero {ρ : Env} : eVar 0 (some (.sh p) :: ρ) = .ok p := nr rfl
@[simp] theorem eVar_succ {x : Option OV} {ρ : Env} : eVar (i + 1) (x :: ρ) = eVar i ρ := nr rfl
@[simp] theorem eOwn_zero {ρ : Env} : eOwn 0 (some o :: ρ) = .ok o.pv := nr rfl
@[simp] theorem eOwn_succ {x : Option OV} {ρ : Env} : eOwn (i + 1) (x :: ρ) = eOwn i ρ := nr rfl
@[simp] theorem eCst_at : eCst p ρ = .ok p := nr rfl
def bin2 (g : PV → PV → R PV) : R PV → R PV → R PV
  | .ok p, .ok q => g p q
  | .ok _, r => r
  | r, _ => r
@[simp] theorem bin2_ok {g : PV → PV → R PV} : bin2 g (.ok p) (.ok q) = g p q := nr rfl
@[simp] theorem bin2_er {g : PV → PV → R PV} {r : R PV} : bin2 g (.er x) r = .er x := nr rfl
@[simp] theorem bin2_er' {g : PV → PV → R PV} : bin2 g (.ok p) (.er x) = .er x := nr rfl
@[simp] theorem eBin_at {g : PV → PV → R PV} : eBin g fa fb ρ = bin2 g (fa ρ) (fb ρ) := by
  unfold eBin
  cases fa ρ <;> cases fb ρ <;> rfl
@[simp] theorem eIdx_at : eIdx fa fb ρ = bin2 idxR (fa ρ) (fb ρ) := eBin_at
def un1 (g : PV → R PV) : R PV → R PV
  | .ok p => g p
  | r => r
@[simp] theorem un1_ok {g : PV → R PV} : un1 g (.ok p) = g p := nr rfl
@[simp] theorem un1_er {g : PV → R PV} : un1 g (.er x) = .er x := nr rfl
@[simp] theorem eUn_at {g : PV → R PV} : eUn g fa ρ = un1 g (fa ρ) := by unfold eUn; cases fa ρ <;> rfl
def tst : R PV → R Bool
  | .ok (.bl b) => .ok b
  | .ok _ => .no
  | .er x => .er x
  | .no => .no
@[simp] theorem tst_bl {b : Bool} : tst (.ok (.bl b)) = .ok b := nr rfl
@[simp] theorem tst_er : tst (.er x) = .er x := nr rfl
@[simp] theorem eTst_at : eTst fa ρ = tst (fa ρ) := by
  unfold eTst
  cases fa ρ with
  | ok p => cases p <;> rfl
  | er x => rfl
  | no => rfl
def tru1 : R PV → R Bool
  | .ok p => truthR p
  | .er x => .er x
  | .no => .no
@[simp] theorem tru1_ok : tru1 (.ok p) = truthR p := nr rfl
@[simp] theorem eTru_at : eTru fa ρ = tru1 (fa ρ) := by unfold eTru; cases fa ρ <;> rfl
def andR : R Bool → R Bool → R Bool
  | .ok k, r => if k = true then r else .ok false
  | r, _ => r
@[simp] theorem andR_true {r : R Bool} : andR (.ok true) r = r := nr rfl
@[simp] theorem andR_false {r : R Bool} : andR (.ok false) r = .ok false := nr rfl
@[simp] theorem andR_ok {b k : Bool} : andR (.ok b) (.ok k) = .ok (b && k) := by cases b <;> rfl
@[simp] theorem bAnd_at : bAnd c d ρ = andR (c ρ) (d ρ) := by unfold bAnd; cases c ρ <;> rfl
def orR : R Bool → R Bool → R Bool
  | .ok k, r => if k = true then .ok true else r
  | r, _ => r
@[simp] theorem orR_true {r : R Bool} : orR (.ok true) r = .ok true := nr rfl
@[simp] theorem orR_false {r : R Bool} : orR (.ok false) r = r := nr rfl
@[simp] theorem orR_ok {b k : Bool} : orR (.ok b) (.ok k) = .ok (b || k) := by cases b <;> rfl
@[simp] theorem bOr_at : bOr c d ρ = orR (c ρ) (d ρ) := by unfold bOr; cases c ρ <;> rfl
def notR : R Bool → R Bool
  | .ok k => .ok (!k)
  | r => r
@[simp] theorem notR_ok {b : Bool} : notR (.ok b) = .ok (!b) := nr rfl
@[simp] theorem notR_er : notR (.er x) = .er x := nr rfl
@[simp] theorem bNot_at : bNot c ρ = notR (c ρ) := by unfold bNot; cases c ρ <;> rfl
def andP : R PV → R PV → R PV
  | .ok (.bl k), r => if k = true then r else .ok (.bl false)
  | .ok _, _ => .no
  | r, _ => r
@[simp] theorem andP_true {r : R PV} : andP (.ok (.bl true)) r = r := nr rfl
@[simp] theorem andP_false {r : R PV} : andP (.ok (.bl false)) r = .ok (.bl false) := nr rfl
@[simp] theorem andP_ok {b k : Bool} : andP (.ok (.bl b)) (.ok (.bl k)) = .ok (.bl (b && k)) := by cases b <;> rfl
@[simp] theorem eAnd_at : eAnd fa fb ρ = andP (fa ρ) (fb ρ) := by
  unfold eAnd
  cases fa ρ with
  | ok p => cases p with
    | bl b => cases b <;> rfl
    | _ => rfl
  | er x => rfl
  | no => rfl
def orP : R PV → R PV → R PV
  | .ok (.bl k), r => if k = true then .ok (.bl true) else r
  | .ok _, _ => .no
  | r, _ => r
@[simp] theorem orP_true {r : R PV} : orP (.ok (.bl true)) r = .ok (.bl true) := nr rfl
@[simp] theorem orP_false {r : R PV} : orP (.ok (.bl false)) r = r := nr rfl
@[simp] theorem orP_ok {b k : Bool} : orP (.ok (.bl b)) (.ok (.bl k)) = .ok (.bl (b || k)) := by cases b <;> rfl
@[simp] theorem eOr_at : eOr fa fb ρ = orP (fa ρ) (fb ρ) := by
  unfold eOr
  cases fa ρ with
  | ok p => cases p with
    | bl b => cases b <;> rfl
    | _ => rfl
  | er x => rfl
  | no => rfl
def notP : R PV → R PV
  | .ok (.bl b) => .ok (.bl (!b))
  | .ok _ => .no
  | r => r
@[simp] theorem notP_ok {b : Bool} : notP (.ok (.bl b)) = .ok (.bl (!b)) := nr rfl
@[simp] theorem eNot_at : eNot fa ρ = notP (fa ρ) := by
  unfold eNot
  cases fa ρ with
  | ok p => cases p <;> rfl
  | er x => rfl
  | no => rfl
def ifR {α : Type} : R Bool → R α → R α → R α
  | .ok k, r, r' => if k = true then r else r'
  | .er x, _, _ => .er x
  | .no, _, _ => .no
@[simp] theorem ifR_true {α : Type} {r r' : R α} : ifR (.ok true) r r' = r := nr rfl
@[simp] theorem ifR_false {α : Type} {r r' : R α} : ifR (.ok false) r r' = r' := nr rfl
theorem ifR_ok {α : Type} {b : Bool} {u v : α} : ifR (.ok b) (.ok u) (.ok v) = .ok (if b = true then u else v) := by cases b <;> rfl
@[simp] theorem ifR_int {b : Bool} {u v : Int} : ifR (.ok b) (.ok (PV.int u)) (.ok (PV.int v)) = .ok (PV.int (if b = true then u else v)) := by cases b <;> rfl
@[simp] theorem eIf_at : eIf c fa fb ρ = ifR (c ρ) (fa ρ) (fb ρ) := by unfold eIf; cases c ρ <;> rfl
def cons2 : R PV → R (List PV) → R (List PV)
  | .ok p, .ok ps => .ok (p :: ps)
  | .ok _, r => r
  | .er x, _ => .er x
  | .no, _ => .no
@[simp] theorem cons2_ok {ps : List PV} : cons2 (.ok p) (.ok ps) = .ok (p :: ps) := nr rfl
@[simp] theorem cons2_er {r : R (List PV)} : cons2 (.er x) r = .er x := nr rfl
@[simp] theorem aNil_at : aNil ρ = .ok [] := nr rfl
@[simp] theorem aCons_at : aCons fa fas ρ = cons2 (fa ρ) (fas ρ) := by
  unfold aCons
  cases fa ρ <;> cases fas ρ <;> rfl
def app1 {α β : Type} (g : α → R β) : R α → R β
  | .ok a => g a
  | .er x => .er x
  | .no => .no
@[simp] theorem app1_ok {α β : Type} {g : α → R β} {a : α} : app1 g (.ok a) = g a := nr rfl
@[simp] theorem app1_er {α β : Type} {g : α → R β} : app1 g (.er x) = .er x := nr rfl
theorem bind_app {α β : Type} {r : R α} {g : α → R β} : r.bind g = app1 g r := by cases r <;> rfl
@[simp] theorem eTup_at : eTup fas ρ = app1 mkTup (fas ρ) := bind_app
@[simp] theorem fLst_at : fLst fas ρ = app1 mkLst (fas ρ) := bind_app
def fz1 : R OV → R PV
  | .ok o => .ok o.pv
  | .er x => .er x
  | .no => .no
@[simp] theorem fz1_ok : fz1 (.ok o) = .ok o.pv := nr rfl
@[simp] theorem fz1_er : fz1 (.er x) = .er x := nr rfl
@[simp] theorem eFz_at : eFz fo ρ = fz1 (fo ρ) := by unfold eFz; cases fo ρ <;> rfl
def sh1 : R PV → R OV
  | .ok p => .ok (.sh p)
  | .er x => .er x
  | .no => .no
@[simp] theorem sh1_ok : sh1 (.ok p) = .ok (.sh p) := nr rfl
@[simp] theorem sh1_er : sh1 (.er x) = .er x := nr rfl
@[simp] theorem fSh_at : fSh fa ρ = sh1 (fa ρ) := by unfold fSh; cases fa ρ <;> rfl
@[simp] theorem eB_at {g : List PV → R PV} : eB g fas ρ = app1 g (fas ρ) := bind_app
@[simp] theorem fB_at {g : List PV → R OV} : fB g fas ρ = app1 g (fas ρ) := bind_app
@[simp] theorem iSeq_at : iSeq fa ρ = app1 seqR (fa ρ) := bind_app
@[simp] theorem iRg_at {g : List PV → R (List PV)} : iRg g fas ρ = app1 g (fas ρ) := bind_app
@[simp] theorem tYesB_at : tYesB ρ = .ok true := nr rfl
def shM : R PV → Env → R (OV × Env)
  | .ok p, ρ => .ok (.sh p, ρ)
  | .er x, _ => .er x
  | .no, _ => .no
@[simp] theorem shM_ok : shM (.ok p) ρ = .ok (.sh p, ρ) := nr rfl
@[simp] theorem shM_er : shM (.er x) ρ = .er x := nr rfl
@[simp] theorem mSh_at : mSh fa ρ = shM (fa ρ) ρ := by unfold mSh; cases fa ρ <;> rfl
def frM : R OV → Env → R (OV × Env)
  | .ok o, ρ => .ok (o, ρ)
  | .er x, _ => .er x
  | .no, _ => .no
@[simp] theorem frM_ok : frM (.ok o) ρ = .ok (o, ρ) := nr rfl
@[simp] theorem frM_er : frM (.er x) ρ = .er x := nr rfl
@[simp] theorem mFr_at : mFr fo ρ = frM (fo ρ) ρ := by unfold mFr; cases fo ρ <;> rfl
def mvC (x : Option OV) : R (OV × Env) → R (OV × Env)
  | .ok q => .ok (q.1, x :: q.2)
  | r => r
@[simp] theorem mvC_ok {y : Option OV} : mvC y (.ok (o, ρ)) = .ok (o, y :: ρ) := nr rfl
@[simp] theorem mMv_zero {ρ : Env} : mMv 0 (some o :: ρ) = .ok (o, none :: ρ) := nr rfl
@[simp] theorem mMv_succ {y : Option OV} {ρ : Env} : mMv (i + 1) (y :: ρ) = mvC y (mMv i ρ) := by
  unfold mMv
  rw [List.getElem?_cons_succ]
  cases h : (ρ[i]? : Option (Option OV)) with
  | none => rfl
  | some z => cases z <;> simp [mvC]
def lst1 : R (List PV) → R OV
  | .ok l => .ok (.own (l.map .sh))
  | .er x => .er x
  | .no => .no
@[simp] theorem lst1_ok {l : List PV} : lst1 (.ok l) = .ok (.own (l.map .sh)) := nr rfl
def opF (g : PV → PV → R (List PV)) : R PV → R PV → R OV
  | .ok p, .ok q => lst1 (g p q)
  | .ok _, .er x => .er x
  | .ok _, .no => .no
  | .er x, _ => .er x
  | .no, _ => .no
@[simp] theorem opF_ok {g : PV → PV → R (List PV)} : opF g (.ok p) (.ok q) = lst1 (g p q) := nr rfl
@[simp] theorem fOp_at {g : PV → PV → R (List PV)} : fOp g fa fb ρ = opF g (fa ρ) (fb ρ) := by
  unfold fOp
  cases fa ρ with
  | ok p =>
    cases fb ρ with
    | ok q =>
      show (g p q).bind _ = lst1 _
      cases g p q <;> rfl
    | er x => rfl
    | no => rfl
  | er x => rfl
  | no => rfl
def flat1 : R PV → R PV
  | .ok p => if p.flat = true then .ok p else .no
  | r => r
@[simp] theorem flat1_ok (h : p.flat = true) : flat1 (.ok p) = .ok p := if_pos h
@[simp] theorem flat1_er : flat1 (.er x) = .er x := nr rfl
@[simp] theorem eFlat_at : eFlat fa ρ = flat1 (fa ρ) := by unfold eFlat; cases fa ρ <;> rfl
def call1 (m : Bool) (Fn : List PV → R OV) (dps : List PV) : R (List PV) → R OV
  | .ok ps => capR m (Fn (ps ++ dps))
  | .er x => .er x
  | .no => .no
@[simp] theorem call1_ok {m : Bool} {Fn : List PV → R OV} {dps ps : List PV} : call1 m Fn dps (.ok ps) = capR m (Fn (ps ++ dps)) := nr rfl
@[simp] theorem fCall_at {m : Bool} {Fn : List PV → R OV} {dps : List PV} : fCall m Fn dps fas ρ = call1 m Fn dps (fas ρ) := by unfold fCall; cases fas ρ <;> rfl
theorem capR_flat {m : Bool} (h : o.flat = true) : capR m (.ok o) = .ok o := if_pos (.inr h)
theorem capR_flat_er {m : Bool} (h : PV.flatf x.fs = true) : capR m (.er x) = .er x := if_pos (.inr h)
def meth1 (m : Bool) (k : Nat) (mth : Str) (Fn : List PV → R OV) (dps : List PV) : R PV → R (List PV) → R OV
  | .ok (.ins c' fs), r => if c' = k ∧ fs.lookup mth = none then (match r with
    | .ok ps => capR m (Fn (.ins c' fs :: (ps ++ dps)))
    | .er x => .er x
    | .no => .no) else .no
  | .ok _, _ => .no
  | .er x, _ => .er x
  | .no, _ => .no
@[simp] theorem meth1_ins {m : Bool} {k c' : Nat} {fs : List (Str × PV)} {mth : Str} {Fn : List PV → R OV} {dps ps : List PV} (h1 : c' = k) (h2 : fs.lookup mth = none) : meth1 m k mth Fn dps (.ok (.ins c' fs)) (.ok ps) = capR m (Fn (.ins c' fs :: (ps ++ dps))) := if_pos ⟨h1, h2⟩
@[simp] theorem fMeth_at {m : Bool} {k : Nat} {mth : Str} {Fn : List PV → R OV} {dps : List PV} : fMeth m k mth Fn dps fa fas ρ = meth1 m k mth Fn dps (fa ρ) (fas ρ) := by
  unfold fMeth
  cases fa ρ with
  | ok p =>
    cases p with
    | ins c' fs =>
      show (if _ then (fas ρ).bind _ else _) = if _ then _ else _
      cases fas ρ <;> rfl
    | _ => rfl
  | er x => rfl
  | no => rfl
def mkO (m : Bool) (k : Nat) : R (List (Str × OV)) → R OV
  | .ok fs => capR m (.ok (.obj k fs))
  | .er x => capR m (.er x)
  | .no => .no
@[simp] theorem mkO_ok {m : Bool} {k : Nat} {fs : List (Str × OV)} : mkO m k (.ok fs) = capR m (.ok (.obj k fs)) := nr rfl
@[simp] theorem mkO_er {m : Bool} {k : Nat} : mkO m k (.er x) = capR m (.er x) := nr rfl
def make1 (m : Bool) (k : Nat) (FI : List PV → R (List (Str × OV))) (dps : List PV) : R (List PV) → R OV
  | .ok ps => mkO m k (FI (ps ++ dps))
  | .er x => .er x
  | .no => .no
@[simp] theorem make1_ok {m : Bool} {k : Nat} {FI : List PV → R (List (Str × OV))} {dps ps : List PV} : make1 m k FI dps (.ok ps) = mkO m k (FI (ps ++ dps)) := nr rfl
@[simp] theorem fMake_at {m : Bool} {k : Nat} {FI : List PV → R (List (Str × OV))} {dps : List PV} : fMake m k FI dps fas ρ = make1 m k FI dps (fas ρ) := by
  unfold fMake
  cases fas ρ with
  | ok ps =>
    show capR m ((FI (ps ++ dps)).bind _) = mkO m k _
    cases FI (ps ++ dps) <;> rfl
  | er x => rfl
  | no => rfl
def fldR (f : Str) (ok : Nat → Bool) : R PV → R PV
  | .ok (.ins c fs) => if ok c then R.of (fs.lookup f) else .no
  | .ok _ => .no
  | r => r
@[simp] theorem fldR_ins {f : Str} {ok : Nat → Bool} {k : Nat} {fs : List (Str × PV)} (h : ok k = true) : fldR f ok (.ok (.ins k fs)) = R.of (fs.lookup f) := if_pos h
@[simp] theorem eFld_at {f : Str} {ok : Nat → Bool} : eFld f ok fa ρ = fldR f ok (fa ρ) := by
  unfold eFld
  cases fa ρ with
  | ok p => cases p <;> rfl
  | er x => rfl
  | no => rfl
@[simp] theorem eIsi_at {tb : String → Option Bool} {ib : Nat → Option Bool} : eIsi tb ib fa ρ = un1 (isiP tb ib) (fa ρ) := eUn_at
def sl3 : R PV → R (Option Int) → R (Option Int) → R PV
  | .ok p, .ok l, .ok h => slR p l h
  | .ok _, .ok _, .er x => .er x
  | .ok _, .er x, _ => .er x
  | .er x, _, _ => .er x
  | _, _, _ => .no
@[simp] theorem sl3_ok {l h : Option Int} : sl3 (.ok p) (.ok l) (.ok h) = slR p l h := nr rfl
@[simp] theorem eSl_at {l h : Env → R (Option Int)} : eSl fa l h ρ = sl3 (fa ρ) (l ρ) (h ρ) := by
  unfold eSl
  cases fa ρ <;> cases l ρ <;> cases h ρ <;> rfl
@[simp] theorem oNone_at : oNone ρ = .ok none := nr rfl
def oInt1 : R PV → R (Option Int)
  | .ok (.int i) => .ok (some i)
  | .ok _ => .no
  | .er x => .er x
  | .no => .no
@[simp] theorem oInt1_int {i : Int} : oInt1 (.ok (.int i)) = .ok (some i) := nr rfl
@[simp] theorem oSome_at : oSome fa ρ = oInt1 (fa ρ) := by
  unfold oSome
  cases fa ρ with
  | ok p => cases p <;> rfl
  | er x => rfl
  | no => rfl
def isN1 (neg : Bool) : R PV → R PV
  | .ok p => .ok (.bl (isN p != neg))
  | r => r
@[simp] theorem isN1_ok {neg : Bool} : isN1 neg (.ok p) = .ok (.bl (isN p != neg)) := nr rfl
@[simp] theorem eIsN_at : eIsN fa ρ = isN1 false (fa ρ) := by unfold eIsN; cases fa ρ <;> simp [isN1]
@[simp] theorem eNotN_at : eNotN fa ρ = isN1 true (fa ρ) := by unfold eNotN; cases fa ρ <;> simp [isN1]
@[simp] theorem isN_non : isN .non = true := nr rfl
@[simp] theorem isN_int {i : Int} : isN (.int i) = false := nr rfl
@[simp] theorem isN_tup {l : List PV} : isN (.tup l) = false := nr rfl
@[simp] theorem eEqO_at {neg : Bool} {k : Nat} {Fn : List PV → R OV} : eEqO neg k Fn fa fb ρ = bin2 (eqoK k Fn neg) (fa ρ) (fb ρ) := by
  unfold eEqO
  cases fa ρ <;> cases fb ρ <;> rfl
@[simp] theorem eXf_at {ok : Nat → Bool} {x : PX} {fl : Str} (h : ok x.c = true) : eXf ok x fl ρ = R.of (x.fs.lookup fl) := if_pos h
@[simp] theorem eXi_at {ib : Nat → Option Bool} {x : PX} : eXi ib x ρ = R.of ((ib x.c).map .bl) := nr rfl
def tryS (hs : List Hd) : RS → RS
  | .er x ρ' => handle hs x ρ'
  | r => r
@[simp] theorem tryS_er {hs : List Hd} : tryS hs (.er x ρ) = handle hs x ρ := nr rfl
@[simp] theorem tryS_nx {hs : List Hd} : tryS hs (.nx ρ) = .nx ρ := nr rfl
@[simp] theorem tryS_rt {hs : List Hd} : tryS hs (.rt o) = .rt o := nr rfl
@[simp] theorem tryS_bk {hs : List Hd} : tryS hs (.bk ρ) = .bk ρ := nr rfl
@[simp] theorem tryS_ct {hs : List Hd} : tryS hs (.ct ρ) = .ct ρ := nr rfl
@[simp] theorem sTry_at {hs : List Hd} : sTry s hs ρ = tryS hs (s ρ) := by unfold sTry; cases s ρ <;> rfl
@[simp] theorem handle_nm {m : Nat → Option Bool} {su : PX → Env → RS} {hs : List Hd} (h1 : m x.c = some true) (h3 : i < ρ.length) : handle (⟨m, some i, su⟩ :: hs) x ρ = goneS i (calmS (su x (ρ.set i none))) := by
  unfold handle
  simp only [h1]
  exact if_pos h3
@[simp] theorem handle_bare {m : Nat → Option Bool} {su : PX → Env → RS} {hs : List Hd} (h1 : m x.c = some true) : handle (⟨m, none, su⟩ :: hs) x ρ = calmS (su x ρ) := by
  unfold handle
  simp only [h1]
@[simp] theorem handle_not {m : Nat → Option Bool} {nm : Option Nat} {su : PX → Env → RS} {hs : List Hd} (h1 : m x.c = some false) : handle (⟨m, nm, su⟩ :: hs) x ρ = handle hs x ρ := by
  rw [handle]
  simp only [h1]
@[simp] theorem handle_nil : handle [] x ρ = .er x ρ := nr rfl
@[simp] theorem calmS_nx : calmS (.nx ρ) = .nx ρ := nr rfl
@[simp] theorem calmS_rt : calmS (.rt o) = .rt o := nr rfl
@[simp] theorem calmS_bk : calmS (.bk ρ) = .bk ρ := nr rfl
@[simp] theorem calmS_ct : calmS (.ct ρ) = .ct ρ := nr rfl
@[simp] theorem goneS_nx : goneS i (.nx ρ) = .nx (ρ.set i none) := nr rfl
@[simp] theorem goneS_rt : goneS i (.rt o) = .rt o := nr rfl
@[simp] theorem goneS_bk : goneS i (.bk ρ) = .bk (ρ.set i none) := nr rfl
@[simp] theorem goneS_ct : goneS i (.ct ρ) = .ct (ρ.set i none) := nr rfl
/-! results -/
@[simp] theorem outS_nx : outS (.nx ρ) = .ok (.sh .non) := nr rfl
@[simp] theorem outS_rt : outS (.rt o) = .ok o := nr rfl
@[simp] theorem outS_er {x : PX} : outS (.er x ρ) = .er x := nr rfl
theorem defF_at {n np : Nat} {ps : List PV} (h : ps.length = np) : defF n np s ps = outS (s (startE n ps)) := if_pos h
theorem initF_at {n np k : Nat} {ps : List PV} (h : ps.length + 1 = np) : initF n np k s ps = outI k (s (some (.obj k []) :: startE (n - 1) ps)) := if_pos h
@[simp] theorem outI_ok {k : Nat} {fs : List (Str × OV)} : outI k (.nx (some (.obj k fs) :: ρ)) = .ok fs := if_pos rfl
@[simp] theorem outI_er {k k' : Nat} {fs : List (Str × OV)} : outI k (.er x (some (.obj k' fs) :: ρ)) = .er x := nr rfl
/-! places -/
@[simp] theorem atE_zero {ρ : Env} {π : List Stp} : atE (some o :: ρ) (0, π) = getP π o := nr rfl
@[simp] theorem atE_succ {x : Option OV} {ρ : Env} {π : List Stp} : atE (x :: ρ) (i + 1, π) = atE ρ (i, π) := nr rfl
@[simp] theorem upE_zero {ρ : Env} {π : List Stp} {n : OV} : upE (some o :: ρ) (0, π) n = some (setP π o n) :: ρ := nr rfl
@[simp] theorem upE_succ {x : Option OV} {ρ : Env} {π : List Stp} {n : OV} : upE (x :: ρ) (i + 1, π) n = x :: upE ρ (i, π) n := by
  unfold upE
  rw [List.getElem?_cons_succ]
  cases h : (ρ[i]? : Option (Option OV)) with
  | none => rfl
  | some y => cases y <;> simp
@[simp] theorem getP_nil : getP [] o = some o := by unfold getP; rfl
def getL (π : List Stp) : Option OV → Option OV
  | some o => getP π o
  | none => none
@[simp] theorem getL_some {π : List Stp} : getL π (some o) = getP π o := nr rfl
@[simp] theorem getP_ix {l : List OV} {π : List Stp} : getP (.ix j :: π) (.own l) = getL π l[j]? := by
  show (l[j]?).bind (getP π) = _
  cases l[j]? <;> rfl
@[simp] theorem getP_fl {f : Str} {k : Nat} {fs : List (Str × OV)} {π : List Stp} : getP (.fl f :: π) (.obj k fs) = getL π (fs.lookup f) := by
  show (fs.lookup f).bind (getP π) = _
  cases fs.lookup f <;> rfl
@[simp] theorem setP_nil {n : OV} : setP [] o n = n := by unfold setP; rfl
theorem setP_ix {l : List OV} {π : List Stp} {n : OV} : setP (.ix j :: π) (.own l) n = (match l[j]? with
    | some o => .own (l.set j (setP π o n))
    | none => .own l) := rfl
@[simp] theorem setP_ix1 {l : List OV} {n : OV} : setP [.ix j] (.own l) n = .own (l.set j n) := by
  rw [setP_ix]
  cases h : l[j]? with
  | some o => simp only [setP_nil]
  | none =>
    have hl : l.length ≤ j := List.getElem?_eq_none_iff.mp h
    show OV.own l = _
    rw [List.set_eq_of_length_le hl]
@[simp] theorem setP_fl1 {f : Str} {k : Nat} {fs : List (Str × OV)} {n y : OV} (h : fs.lookup f = some y) : setP [.fl f] (.obj k fs) n = .obj k (putO f n fs) := by
  show (match fs.lookup f with
    | some o => OV.obj k (putO f (setP [] o n) fs)
    | none => .obj k fs) = _
  rw [h]
  simp
def ownR (q : Pth) : Option OV → R Pth
  | some (.own _) => .ok q
  | some (.obj _ _) => .ok q
  | _ => .no
@[simp] theorem ownR_own {q : Pth} {l : List OV} : ownR q (some (.own l)) = .ok q := nr rfl
@[simp] theorem ownR_obj {q : Pth} {k : Nat} {fs : List (Str × OV)} : ownR q (some (.obj k fs)) = .ok q := nr rfl
theorem pthR_at {q : Pth} : pthR ρ q = ownR q (atE ρ q) := by
  unfold pthR ownR
  rfl
@[simp] theorem pVar_at : pVar i ρ = ownR (i, []) (atE ρ (i, [])) := pthR_at
def ixR (ρ : Env) (q : Pth) : Option OV → PV → R Pth
  | some (.own l), .int k => (match ixN l.length k with
    | some j => pthR ρ (q.1, q.2 ++ [.ix j])
    | none => .no)
  | _, _ => .no
@[simp] theorem ixR_at {q : Pth} {l : List OV} {k : Int} (h0 : 0 ≤ k) (h1 : k < l.length) : ixR ρ q (some (.own l)) (.int k) = ownR (q.1, q.2 ++ [.ix k.toNat]) (atE ρ (q.1, q.2 ++ [.ix k.toNat])) := by
  have e : ixN l.length k = some k.toNat := by unfold ixN; rw [if_pos h0, if_pos h1]
  show (match ixN l.length k with
    | some j => pthR ρ (q.1, q.2 ++ [Stp.ix j])
    | none => .no) = _
  rw [e]
  exact pthR_at
def ix2 (ρ : Env) : R Pth → R PV → R Pth
  | .ok q, .ok p => ixR ρ q (atE ρ q) p
  | .ok _, .er x => .er x
  | .er x, _ => .er x
  | _, _ => .no
@[simp] theorem ix2_ok {q : Pth} : ix2 ρ (.ok q) (.ok p) = ixR ρ q (atE ρ q) p := nr rfl
@[simp] theorem pIx_at {g : Env → R Pth} : pIx g fa ρ = ix2 ρ (g ρ) (fa ρ) := by
  unfold pIx
  cases g ρ <;> cases fa ρ <;> rfl
def apG (q : Pth) : Option OV → R (OV × Env) → Env → RS
  | some (.own _), .ok r, _ => apR q r.1 r.2
  | some (.own _), .er x, ρ => .er x ρ
  | _, _, _ => .no
@[simp] theorem apG_ok {q : Pth} {l : List OV} : apG q (some (.own l)) (.ok (o, ρ)) ρ' = apR q o ρ := nr rfl
def ap2 (ρ : Env) : R Pth → R (OV × Env) → RS
  | .ok q, r => apG q (atE ρ q) r ρ
  | .er x, _ => .er x ρ
  | .no, _ => .no
@[simp] theorem ap2_ok {q : Pth} {r : R (OV × Env)} : ap2 ρ (.ok q) r = apG q (atE ρ q) r ρ := nr rfl
@[simp] theorem sApp_at {g : Env → R Pth} : sApp g fm ρ = ap2 ρ (g ρ) (fm ρ) := by
  unfold sApp
  cases g ρ with
  | ok q =>
    show (match atE ρ q with
      | some (.own _) => (fm ρ).to ρ fun r => apR q r.1 r.2
      | _ => .no) = apG q (atE ρ q) (fm ρ) ρ
    cases atE ρ q with
    | none => rfl
    | some y =>
      cases y with
      | own l => cases fm ρ <;> rfl
      | _ => rfl
  | er x => rfl
  | no => rfl
def apN (q : Pth) (n : OV) (ρ : Env) : Option OV → RS
  | some (.own l) => if l.length < sizeLine then .nx (upE ρ q (.own (l ++ [n]))) else .no
  | _ => .no
@[simp] theorem apN_own {q : Pth} {n : OV} {l : List OV} (h : l.length < sizeLine) : apN q n ρ (some (.own l)) = .nx (upE ρ q (.own (l ++ [n]))) := if_pos h
@[simp] theorem apR_at {q : Pth} {n : OV} : apR q n ρ = apN q n ρ (atE ρ q) := nr rfl
def stG (q : Pth) (n : OV) (ρ : Env) : Option OV → PV → RS
  | some (.own l), .int k => (match ixN l.length k with
    | some j => .nx (upE ρ q (.own (l.set j n)))
    | none => .no)
  | _, _ => .no
@[simp] theorem stG_own {q : Pth} {n : OV} {l : List OV} {k : Int} (h0 : 0 ≤ k) (h1 : k < l.length) : stG q n ρ (some (.own l)) (.int k) = .nx (upE ρ q (.own (l.set k.toNat n))) := by
  have e : ixN l.length k = some k.toNat := by unfold ixN; rw [if_pos h0, if_pos h1]
  show (match ixN l.length k with
    | some j => RS.nx (upE ρ q (.own (l.set j n)))
    | none => .no) = _
  rw [e]
theorem stR_at {q : Pth} {n : OV} : stR q p n ρ = stG q n ρ (atE ρ q) p := rfl
def st2 : R Pth → R PV → OV → Env → RS
  | .ok q, .ok p, o, ρ => stR q p o ρ
  | .ok _, .er x, _, ρ => .er x ρ
  | .er x, _, _, ρ => .er x ρ
  | _, _, _, _ => .no
@[simp] theorem st2_ok {q : Pth} : st2 (.ok q) (.ok p) o ρ = stG q o ρ (atE ρ q) p := nr rfl
def st3 (g : Env → R Pth) (fi : Env → R PV) : R (OV × Env) → Env → RS
  | .ok r, _ => st2 (g r.2) (fi r.2) r.1 r.2
  | .er x, ρ => .er x ρ
  | .no, _ => .no
@[simp] theorem st3_ok {g : Env → R Pth} {fi : Env → R PV} : st3 g fi (.ok (o, ρ)) ρ' = st2 (g ρ) (fi ρ) o ρ := nr rfl
@[simp] theorem sSt_at {g : Env → R Pth} {fi : Env → R PV} : sSt g fi fm ρ = st3 g fi (fm ρ) ρ := by
  unfold sSt
  cases fm ρ with
  | ok r =>
    show (g r.2).to r.2 (fun q => (fi r.2).to r.2 fun p => stR q p r.1 r.2) = st2 (g r.2) (fi r.2) r.1 r.2
    cases g r.2 <;> cases fi r.2 <;> rfl
  | er x => rfl
  | no => rfl
def flG (q : Pth) (ok : Nat → Bool) (fl : Str) (n : OV) (ρ : Env) : Option OV → RS
  | some (.obj c fs) => if ok c = true ∧ fs.length < 1000 then .nx (upE ρ q (.obj c (putO fl n fs))) else .no
  | _ => .no
@[simp] theorem flG_obj {q : Pth} {ok : Nat → Bool} {fl : Str} {n : OV} {k : Nat} {fs : List (Str × OV)} (h : ok k = true) (h2 : fs.length < 1000) : flG q ok fl n ρ (some (.obj k fs)) = .nx (upE ρ q (.obj k (putO fl n fs))) := if_pos ⟨h, h2⟩
def fl2 (ok : Nat → Bool) (fl : Str) : R Pth → OV → Env → RS
  | .ok q, o, ρ => flR q ok fl o ρ
  | .er x, _, ρ => .er x ρ
  | .no, _, _ => .no
@[simp] theorem fl2_ok {ok : Nat → Bool} {fl : Str} {q : Pth} : fl2 ok fl (.ok q) o ρ = flG q ok fl o ρ (atE ρ q) := nr rfl
def fl3 (g : Env → R Pth) (ok : Nat → Bool) (fl : Str) : R (OV × Env) → Env → RS
  | .ok r, _ => fl2 ok fl (g r.2) r.1 r.2
  | .er x, ρ => .er x ρ
  | .no, _ => .no
@[simp] theorem fl3_ok {g : Env → R Pth} {ok : Nat → Bool} {fl : Str} : fl3 g ok fl (.ok (o, ρ)) ρ' = fl2 ok fl (g ρ) o ρ := nr rfl
@[simp] theorem sFl_at {g : Env → R Pth} {ok : Nat → Bool} {fl : Str} : sFl g ok fl fm ρ = fl3 g ok fl (fm ρ) ρ := by
  unfold sFl
  cases fm ρ with
  | ok r =>
    show (g r.2).to r.2 (fun q => flR q ok fl r.1 r.2) = fl2 ok fl (g r.2) r.1 r.2
    cases g r.2 <;> rfl
  | er x => rfl
  | no => rfl
@[simp] theorem putO_nil {f : Str} {n : OV} : putO f n [] = [(f, n)] := nr rfl
@[simp] theorem putO_ne {f g : Str} {n x : OV} {r : List (Str × OV)} (h : g ≠ f) : putO f n ((g, x) :: r) = (g, x) :: putO f n r := if_neg h
@[simp] theorem putO_eq {f : Str} {n x : OV} {r : List (Str × OV)} : putO f n ((f, x) :: r) = (f, n) :: r := if_pos rfl
@[simp] theorem frz_zero {ρ : Env} : frz 0 (some o :: ρ) = some (.sh o.pv) :: ρ := nr rfl
@[simp] theorem frz_succ {x : Option OV} {ρ : Env} : frz (i + 1) (x :: ρ) = x :: frz i ρ := by
  unfold frz
  rw [List.getElem?_cons_succ]
  cases h : (ρ[i]? : Option (Option OV)) with
  | none => rfl
  | some y => cases y <;> simp
@[simp] theorem wipeE_nil : wipeE ρ [] = ρ := nr rfl
@[simp] theorem wipeE_cons {v : Nat} {vs : List Nat} : wipeE ρ (v :: vs) = (wipeE ρ vs).set v none := nr rfl
@[simp] theorem tgS_nm : tgS (.nm i) p ρ = .ok (ρ.set i (some (.sh p))) := nr rfl
@[simp] theorem tgS_tup {l : List PV} {is : List Nat} (h : l.length = is.length) : tgS (.tp is) (.tup l) ρ = .ok (setMany is l ρ) := if_pos h
@[simp] theorem tgS_lst {l : List PV} {is : List Nat} (h : l.length = is.length) : tgS (.tp is) (.lst l) ρ = .ok (setMany is l ρ) := if_pos h
@[simp] theorem setMany_nil {ps : List PV} : setMany [] ps ρ = ρ := nr rfl
@[simp] theorem setMany_cons {is : List Nat} {ps : List PV} : setMany (i :: is) (p :: ps) ρ = setMany is ps (ρ.set i (some (.sh p))) := nr rfl
/-- xs.append(y); z = list(y) -/
def apl2 (ρ : Env) (i j : Nat) (f : Env → RS) : R Pth → RS
  | .ok q => (match atE ρ q, ρ[j]? with
    | some (.own _), some (some (.own its)) => (match shs its with
      | some _ => sSeq (apR q (.own its)) (fun ρ' => f (ρ'.set i (some (.own its)))) (ρ.set j none)
      | none => .no)
    | _, _ => .no)
  | .er x => .er x ρ
  | .no => .no
@[simp] theorem sAppList_at {g : Env → R Pth} : sAppList g j i s ρ = apl2 ρ i j s (g ρ) := by
  unfold sAppList
  cases g ρ with
  | ok q => rfl
  | er x => rfl
  | no => rfl
theorem shs_map : ∀ l : List PV, shs (l.map OV.sh) = some l
  | [] => rfl
  | p :: l => by rw [List.map_cons, shs, shs_map l]; rfl
end
/-! values -/
@[simp] theorem pv_sh {p : PV} : (OV.sh p).pv = p := by simp only [OV.pv]
@[simp] theorem pv_own {l : List OV} : (OV.own l).pv = .lst (OV.pvs l) := by simp only [OV.pv]
@[simp] theorem pv_obj {c : Nat} {fs : List (Str × OV)} : (OV.obj c fs).pv = .ins c (OV.pvf fs) := by simp only [OV.pv]
theorem pvs_eq : ∀ l : List OV, OV.pvs l = l.map OV.pv
  | [] => by simp only [OV.pvs, List.map_nil]
  | o :: l => by simp only [OV.pvs, List.map_cons, pvs_eq l]
@[simp] theorem pvs_nil : OV.pvs [] = [] := by simp only [OV.pvs]
@[simp] theorem pvs_cons {o : OV} {l : List OV} : OV.pvs (o :: l) = o.pv :: OV.pvs l := by simp only [OV.pvs]
@[simp] theorem pvs_append {l k : List OV} : OV.pvs (l ++ k) = OV.pvs l ++ OV.pvs k := by simp only [pvs_eq, List.map_append]
@[simp] theorem pvs_map {α : Type} {f : α → OV} {l : List α} : OV.pvs (l.map f) = l.map fun x => (f x).pv := by rw [pvs_eq, List.map_map]; rfl
@[simp] theorem pvf_nil : OV.pvf [] = [] := by simp only [OV.pvf]
@[simp] theorem pvf_cons {f : Str} {o : OV} {l : List (Str × OV)} : OV.pvf ((f, o) :: l) = (f, o.pv) :: OV.pvf l := by simp only [OV.pvf]
theorem pvs_length (l : List OV) : (OV.pvs l).length = l.length := by rw [pvs_eq, List.length_map]
section
variable {a b : Int} {x y : Str} {l r : List PV} {p q : PV}
@[simp] theorem add_int : pyAdd (.int a) (.int b) = .ok (.int (a + b)) := nr rfl
@[simp] theorem add_str (h : x.length + y.length ≤ sizeLine) : pyAdd (.str x) (.str y) = .ok (.str (x ++ y)) := if_pos h
@[simp] theorem add_lst (h : l.length + r.length ≤ sizeLine) : pyAdd (.lst l) (.lst r) = .ok (.lst (l ++ r)) := if_pos h
@[simp] theorem add_tup (h : l.length + r.length ≤ sizeLine) : pyAdd (.tup l) (.tup r) = .ok (.tup (l ++ r)) := if_pos h
@[simp] theorem sub_int : pySub (.int a) (.int b) = .ok (.int (a - b)) := nr rfl
@[simp] theorem neg_int : pyNeg (.int a) = .ok (.int (-a)) := nr rfl
@[simp] theorem mod_int (h : 0 < b) : pyMod (.int a) (.int b) = .ok (.int (a % b)) := by
  show (if decide (0 < b) = true then _ else _) = _
  rw [if_pos (decide_eq_true h)]
theorem log2_le {n k : Nat} (h : n < 2 ^ k) (hk : 0 < k) : n.log2 < k := by
  by_cases z : n = 0
  · subst z; simpa using hk
  · exact (Nat.log2_lt z).mpr h
@[simp] theorem fdiv_int (h : 0 < b) (h2 : b < 2 ^ 200) : pyFdiv (.int a) (.int b) = .ok (.int (a / b)) := by
  show (if (decide (0 < b) && decide (b.natAbs.log2 < 9000)) = true then _ else _) = _
  have e : b.natAbs.log2 < 200 := log2_le (by have : (b.natAbs : Int) < 2 ^ 200 := by omega
                                              exact_mod_cast this) (by decide)
  rw [if_pos (by simp [h]; omega)]
@[simp] theorem mul_int (h : -(2 ^ 64) < b ∧ b < 2 ^ 64) : pyMul (.int a) (.int b) = .ok (.int (a * b)) := by
  show (if mulOk a b = true then _ else _) = _
  rw [if_pos (by unfold mulOk; simp only [Bool.or_eq_true, decide_eq_true_eq]; omega)]
theorem mul_int_l (h : -(2 ^ 64) < a ∧ a < 2 ^ 64) : pyMul (.int a) (.int b) = .ok (.int (a * b)) := by
  show (if mulOk a b = true then _ else _) = _
  rw [if_pos (by unfold mulOk; simp only [Bool.or_eq_true, decide_eq_true_eq]; omega)]
@[simp] theorem pow_int (h : 0 ≤ b) (h1 : b ≤ 1000000) (h2 : a.natAbs < 2 ^ 64) : pyPow (.int a) (.int b) = .ok (.int (a ^ b.toNat)) := by
  show (if (decide (0 ≤ b) && decide (b ≤ 1000000) && decide (a.natAbs < 2 ^ 64)) = true then _ else _) = _
  rw [if_pos (by simp only [Bool.and_eq_true, decide_eq_true_eq]; exact ⟨⟨h, h1⟩, h2⟩)]
@[simp] theorem lt_int : pyLt (.int a) (.int b) = .ok (.bl (decide (a < b))) := nr rfl
@[simp] theorem le_int : pyLe (.int a) (.int b) = .ok (.bl (decide (a ≤ b))) := nr rfl
@[simp] theorem gt_int : pyGt (.int a) (.int b) = .ok (.bl (decide (b < a))) := nr rfl
@[simp] theorem ge_int : pyGe (.int a) (.int b) = .ok (.bl (decide (b ≤ a))) := nr rfl
@[simp] theorem eq_int : pyEq (.int a) (.int b) = .ok (.bl (decide (a = b))) := nr rfl
@[simp] theorem ne_int : pyNe (.int a) (.int b) = .ok (.bl (!decide (a = b))) := nr rfl
@[simp] theorem eq_str : pyEq (.str x) (.str y) = .ok (.bl (decide (x = y))) := nr rfl
@[simp] theorem ne_str : pyNe (.str x) (.str y) = .ok (.bl (!decide (x = y))) := nr rfl
@[simp] theorem eq_bl {c d : Bool} : pyEq (.bl c) (.bl d) = .ok (.bl (decide (c = d))) := nr rfl
@[simp] theorem ne_bl {c d : Bool} : pyNe (.bl c) (.bl d) = .ok (.bl (!decide (c = d))) := nr rfl
@[simp] theorem idx_lst : idxR (.lst l) (.int a) = R.of (atI l a) := nr rfl
@[simp] theorem idx_scr : idxR (.scr l) (.int a) = R.of (atI l a) := nr rfl
@[simp] theorem idx_tup : idxR (.tup l) (.int a) = R.of (atI l a) := nr rfl
@[simp] theorem mkTup_ok (h : l.length ≤ sizeLine) : mkTup l = .ok (.tup l) := if_pos h
@[simp] theorem mkLst_ok (h : l.length ≤ sizeLine) : mkLst l = .ok (.own (l.map .sh)) := if_pos h
@[simp] theorem len_lst : bLen [.lst l] = .ok (.int l.length) := nr rfl
@[simp] theorem len_scr : bLen [.scr l] = .ok (.int l.length) := nr rfl
@[simp] theorem len_tup : bLen [.tup l] = .ok (.int l.length) := nr rfl
@[simp] theorem abs_int : bAbs [.int a] = .ok (.int (if a < 0 then -a else a)) := nr rfl
@[simp] theorem int_int : bInt [.int a] = .ok (.int a) := nr rfl
@[simp] theorem max_int : bMax [.int a, .int b] = .ok (.int (if b > a then b else a)) := nr rfl
@[simp] theorem min_int : bMin [.int a, .int b] = .ok (.int (if b < a then b else a)) := nr rfl
@[simp] theorem tuple_lst : bTuple [.lst l] = .ok (.tup l) := nr rfl
@[simp] theorem tuple_tup : bTuple [.tup l] = .ok (.tup l) := nr rfl
@[simp] theorem list_lst : bList [.lst l] = .ok (.own (l.map .sh)) := nr rfl
@[simp] theorem list_tup : bList [.tup l] = .ok (.own (l.map .sh)) := nr rfl
@[simp] theorem seq_lst : seqR (.lst l) = .ok l := nr rfl
@[simp] theorem seq_scr : seqR (.scr l) = .ok l := nr rfl
@[simp] theorem seq_tup : seqR (.tup l) = .ok l := nr rfl
@[simp] theorem rng1_int (h : -(2 ^ 62) ≤ a ∧ a < 2 ^ 62) : rng1R [.int a] = .ok (rngP 0 a.toNat) := if_pos h
@[simp] theorem rng2_int (h : -(2 ^ 62) ≤ a ∧ a < 2 ^ 62) (h' : -(2 ^ 62) ≤ b ∧ b < 2 ^ 62) : rng2R [.int a, .int b] = .ok (rngP a (b - a).toNat) := if_pos ⟨h.1, h.2, h'.1, h'.2⟩
@[simp] theorem listR_int (h : 0 ≤ a ∧ a ≤ 1000000) : bLstR [.int a] = .ok (.own ((rngP 0 a.toNat).map .sh)) := if_pos h
/-- the one item of a list -/
theorem atI_of {α : Type} {l : List α} {a : Int} (h0 : 0 ≤ a) (h1 : a < l.length) : atI l a = l[a.toNat]? := by
  unfold atI ixN
  rw [if_pos h0, if_pos h1]
  rfl
theorem atI_natP {α : Type} {l : List α} {k : Nat} : atI l (k : Int) = l[k]? := by
  by_cases h : (k : Int) < l.length
  · rw [atI_of (by omega) h, Int.toNat_natCast]
  · unfold atI ixN
    rw [if_pos (by omega), if_neg h]
    exact (List.getElem?_eq_none (by omega)).symm
@[simp] theorem atI_map {α β : Type} {f : α → β} {l : List α} : atI (l.map f) a = (atI l a).map f := by
  unfold atI
  rw [List.length_map]
  cases ixN l.length a with
  | none => rfl
  | some j => simp
theorem atI_some {α : Type} {l : List α} {a : Int} (h0 : 0 ≤ a) (h1 : a < l.length) : atI l a = some (l[a.toNat]'(by omega)) := by
  rw [atI_of h0 h1]
  exact List.getElem?_eq_getElem _
@[simp] theorem atI_zero {α : Type} {x : α} {l : List α} : atI (x :: l) 0 = some x := by
  rw [atI_of (by omega) (by simp only [List.length_cons]; omega)]
  rfl
@[simp] theorem atI_one {α : Type} {x y : α} {l : List α} : atI (x :: y :: l) 1 = some y := by
  rw [atI_of (by omega) (by simp only [List.length_cons]; omega)]
  rfl
@[simp] theorem atI_two {α : Type} {x y z : α} {l : List α} : atI (x :: y :: z :: l) 2 = some z := by
  rw [atI_of (by omega) (by simp only [List.length_cons]; omega)]
  rfl
end
/-! loops -/
section
variable {α : Type} {T : Tg} {fg : List Nat} {fb : Env → RS} {ρ : Env} {f : α → PV}
theorem forGo_nil : forGo T fg fb [] ρ = .nx ρ := rfl
theorem forGo_cons_nx {p : PV} {ps : List PV} {ρ1 ρ2 : Env} (h1 : tgS T p ρ = .ok ρ1) (h2 : fb ρ1 = .nx ρ2) : forGo T fg fb (p :: ps) ρ = forGo T fg fb ps (wipeE ρ2 fg) := by
  rw [forGo, h1]
  dsimp only
  rw [h2]
theorem forGo_cons_ct {p : PV} {ps : List PV} {ρ1 ρ2 : Env} (h1 : tgS T p ρ = .ok ρ1) (h2 : fb ρ1 = .ct ρ2) : forGo T fg fb (p :: ps) ρ = forGo T fg fb ps (wipeE ρ2 fg) := by
  rw [forGo, h1]
  dsimp only
  rw [h2]
theorem forGo_cons_bk {p : PV} {ps : List PV} {ρ1 ρ2 : Env} (h1 : tgS T p ρ = .ok ρ1) (h2 : fb ρ1 = .bk ρ2) : forGo T fg fb (p :: ps) ρ = .nx (wipeE ρ2 fg) := by
  rw [forGo, h1]
  dsimp only
  rw [h2]
theorem forGo_cons_rt {p : PV} {ps : List PV} {ρ1 : Env} {o : OV} (h1 : tgS T p ρ = .ok ρ1) (h2 : fb ρ1 = .rt o) : forGo T fg fb (p :: ps) ρ = .rt o := by
  rw [forGo, h1]
  dsimp only
  rw [h2]
theorem forGo_cons_er {p : PV} {ps : List PV} {ρ1 ρ2 : Env} {x : PX} (h1 : tgS T p ρ = .ok ρ1) (h2 : fb ρ1 = .er x ρ2) : forGo T fg fb (p :: ps) ρ = .er x ρ2 := by
  rw [forGo, h1]
  dsimp only
  rw [h2]
/-- how one turn goes on: its environment at the next turn's start -/
def Turn (T : Tg) (fg : List Nat) (fb : Env → RS) (p : PV) (ρ ρ' : Env) : Prop := ∃ ρ1 ρ2, tgS T p ρ = .ok ρ1 ∧ (fb ρ1 = .nx ρ2 ∨ fb ρ1 = .ct ρ2) ∧ wipeE ρ2 fg = ρ'
theorem Turn.go {p : PV} {ps : List PV} {ρ' : Env} (h : Turn T fg fb p ρ ρ') : forGo T fg fb (p :: ps) ρ = forGo T fg fb ps ρ' := by
  obtain ⟨ρ1, ρ2, h1, h2 | h2, rfl⟩ := h
  · exact forGo_cons_nx h1 h2
  · exact forGo_cons_ct h1 h2
theorem Turn.nm {i : Nat} {p : PV} {ρ2 ρ' : Env} (h : fb (ρ.set i (some (.sh p))) = .nx ρ2) (e : wipeE ρ2 fg = ρ') : Turn (.nm i) fg fb p ρ ρ' := ⟨_, ρ2, rfl, .inl h, e⟩
/-- by the state: a fold -/
theorem forGo_fold {β : Type} (enc : β → Env) (stp : β → α → β) (I : β → Prop) : ∀ (l : List α) (b : β), I b → (∀ x ∈ l, ∀ b, I b → I (stp b x) ∧ Turn T fg fb (f x) (enc b) (enc (stp b x))) → forGo T fg fb (l.map f) (enc b) = .nx (enc (l.foldl stp b)) ∧ I (l.foldl stp b)
  | [], b, hb, _ => ⟨rfl, hb⟩
  | x :: l, b, hb, h => by
    obtain ⟨h1, h2⟩ := h x List.mem_cons_self b hb
    rw [List.map_cons, h2.go, List.foldl_cons]
    exact forGo_fold enc stp I l _ h1 fun y hy => h y (List.mem_cons_of_mem _ hy)
/-- the same, the turns counted -/
theorem forGo_foldN {β : Type} (enc : β → Env) (stp : β → α → β) (I : Nat → β → Prop) : ∀ (l : List α) (k : Nat) (b : β), I k b → (∀ j x b, l[j]? = some x → I (k + j) b → I (k + j + 1) (stp b x) ∧ Turn T fg fb (f x) (enc b) (enc (stp b x))) → forGo T fg fb (l.map f) (enc b) = .nx (enc (l.foldl stp b)) ∧ I (k + l.length) (l.foldl stp b)
  | [], k, b, hb, _ => ⟨rfl, hb⟩
  | x :: l, k, b, hb, h => by
    obtain ⟨h1, h2⟩ := h 0 x b rfl hb
    rw [List.map_cons, h2.go, List.foldl_cons]
    obtain ⟨e1, e2⟩ := forGo_foldN enc stp I l (k + 1) _ h1 fun j y b hy hi => by
      have := h (j + 1) y b hy (by rw [← Nat.add_assoc, Nat.add_right_comm]; exact hi)
      rw [← Nat.add_assoc, Nat.add_right_comm k j 1] at this
      exact this
    exact ⟨e1, by rw [List.length_cons, ← Nat.add_assoc, Nat.add_right_comm]; exact e2⟩
/-- by an invariant -/
theorem forGo_inv (I : Nat → Env → Prop) : ∀ (l : List α) (k : Nat) (ρ : Env), I k ρ → (∀ i x ρ, l[i]? = some x → I (k + i) ρ → ∃ ρ', Turn T fg fb (f x) ρ ρ' ∧ I (k + i + 1) ρ') → ∃ ρ', forGo T fg fb (l.map f) ρ = .nx ρ' ∧ I (k + l.length) ρ'
  | [], k, ρ, h0, _ => ⟨ρ, rfl, h0⟩
  | x :: l, k, ρ, h0, h => by
    obtain ⟨ρ1, t, h1⟩ := h 0 x ρ rfl h0
    rw [List.map_cons, t.go]
    obtain ⟨ρ', e, h2⟩ := forGo_inv I l (k + 1) ρ1 h1 fun i y ρ hy hi => by
      have := h (i + 1) y ρ hy (by rw [← Nat.add_assoc, Nat.add_right_comm]; exact hi)
      rw [← Nat.add_assoc, Nat.add_right_comm k i 1] at this
      exact this
    exact ⟨ρ', e, by rw [List.length_cons, ← Nat.add_assoc, Nat.add_right_comm]; exact h2⟩
/-- a loop that only looks: each turn leaves all as it was -/
theorem forGo_same (l : List α) (h : ∀ x ∈ l, Turn T fg fb (f x) ρ ρ) : forGo T fg fb (l.map f) ρ = .nx ρ := by
  induction l with
  | nil => rfl
  | cons x l ih =>
    rw [List.map_cons, (h x List.mem_cons_self).go]
    exact ih fun y hy => h y (List.mem_cons_of_mem _ hy)
/-- a loop that looks and hands back at the first bad item -/
theorem forGo_all {good : α → Bool} {o : OV} (l : List α) (h : ∀ x ∈ l, good x = true → Turn T fg fb (f x) ρ ρ) (h2 : ∀ x ∈ l, good x = false → ∃ ρ1, tgS T (f x) ρ = .ok ρ1 ∧ fb ρ1 = .rt o) : forGo T fg fb (l.map f) ρ = if l.all good = true then .nx ρ else .rt o := by
  induction l with
  | nil => rfl
  | cons x l ih =>
    rw [List.map_cons, List.all_cons]
    cases hg : good x with
    | true =>
      rw [(h x List.mem_cons_self hg).go, Bool.true_and]
      exact ih (fun y hy => h y (List.mem_cons_of_mem _ hy)) fun y hy => h2 y (List.mem_cons_of_mem _ hy)
    | false =>
      obtain ⟨ρ1, e1, e2⟩ := h2 x List.mem_cons_self hg
      rw [forGo_cons_rt e1 e2, Bool.false_and, if_neg Bool.false_ne_true]
theorem rngP_eq {lo : Int} {n : Nat} : rngP lo n = (List.range n).map fun (k : Nat) => PV.int (lo + (k : Int)) := rfl
theorem lcGo_map {i : Nat} {e : Env → R OV} {g : α → OV} (l : List α) (h : ∀ x ∈ l, e (ρ.set i (some (.sh (f x)))) = .ok (g x)) : lcGo (.nm i) tYesB e ρ (l.map f) = .ok (l.map g) := by
  induction l with
  | nil => rfl
  | cons x l ih =>
    rw [List.map_cons, lcGo, tgS_nm]
    simp only [R.bind_ok, tYesB_at, R.calm_ok', if_true, h x List.mem_cons_self, ih fun y hy => h y (List.mem_cons_of_mem _ hy), List.map_cons]
theorem lcGo_filter {i : Nat} {t : Env → R Bool} {e : Env → R OV} {g : α → OV} {c : α → Bool} (l : List α) (ht : ∀ x ∈ l, t (ρ.set i (some (.sh (f x)))) = .ok (c x)) (h : ∀ x ∈ l, c x = true → e (ρ.set i (some (.sh (f x)))) = .ok (g x)) : lcGo (.nm i) t e ρ (l.map f) = .ok ((l.filter c).map g) := by
  induction l with
  | nil => rfl
  | cons x l ih =>
    have ih := ih (fun y hy => ht y (List.mem_cons_of_mem _ hy)) fun y hy => h y (List.mem_cons_of_mem _ hy)
    rw [List.map_cons, lcGo, tgS_nm]
    cases hc : c x with
    | true => simp only [R.bind_ok, R.calm_ok', ht x List.mem_cons_self, hc, if_true, h x List.mem_cons_self hc, ih, List.map_cons, List.filter_cons]
    | false => simp only [R.bind_ok, R.calm_ok', ht x List.mem_cons_self, hc, Bool.false_eq_true, if_false, ih, List.filter_cons]
theorem fLc_at {T : Tg} {vs : List Nat} {fi : Env → R (List PV)} {t : Env → R Bool} {e : Env → R OV} {ps : List PV} {os : List OV} (h : fi ρ = .ok ps) (hl : ps.length ≤ sizeLine) (h2 : lcGo T t e (wipeE ρ vs) ps = .ok os) : fLc T vs fi t e ρ = .ok (.own os) := by
  unfold fLc
  rw [h, R.bind_ok, if_pos hl, h2]
  rfl
end
/-- one turn's end, as a value -/
def endT (fg : List Nat) : RS → Option Env
  | .nx ρ => some (wipeE ρ fg)
  | .ct ρ => some (wipeE ρ fg)
  | _ => none
@[simp] theorem endT_nx {fg : List Nat} {ρ : Env} : endT fg (.nx ρ) = some (wipeE ρ fg) := nr rfl
@[simp] theorem endT_ct {fg : List Nat} {ρ : Env} : endT fg (.ct ρ) = some (wipeE ρ fg) := nr rfl
theorem endT_some {fg : List Nat} {r : RS} {ρ' : Env} (h : endT fg r = some ρ') : ∃ ρ2, (r = .nx ρ2 ∨ r = .ct ρ2) ∧ wipeE ρ2 fg = ρ' := by
  cases r with
  | nx ρ => exact ⟨ρ, .inl rfl, Option.some.inj h⟩
  | ct ρ => exact ⟨ρ, .inr rfl, Option.some.inj h⟩
  | _ => cases h
theorem Turn.of {fg : List Nat} {fb : Env → RS} {i : Nat} {p : PV} {ρ ρ' : Env} (h : endT fg (fb (ρ.set i (some (.sh p)))) = some ρ') : Turn (.nm i) fg fb p ρ ρ' := by
  obtain ⟨ρ2, h1, h2⟩ := endT_some h
  exact ⟨_, ρ2, rfl, h1, h2⟩
theorem Turn.ofT {T : Tg} {fg : List Nat} {fb : Env → RS} {p : PV} {ρ ρ1 ρ' : Env} (h0 : tgS T p ρ = .ok ρ1) (h : endT fg (fb ρ1) = some ρ') : Turn T fg fb p ρ ρ' := by
  obtain ⟨ρ2, h1, h2⟩ := endT_some h
  exact ⟨_, ρ2, h0, h1, h2⟩
@[simp] theorem rngP_length {lo : Int} {n : Nat} : (rngP lo n).length = n := by simp [rngP]
theorem szl : sizeLine = 16777216 := by first | rfl | decide
@[simp] theorem isi_int_int {a : Int} : isiP (tbT "int") ibN (.int a) = .ok (.bl true) := nr (by kernel_rfl)
@[simp] theorem isi_bool_int {a : Int} : isiP (tbT "bool") ibN (.int a) = .ok (.bl false) := nr (by kernel_rfl)
@[simp] theorem isi_int_bl {a : Bool} : isiP (tbT "int") ibN (.bl a) = .ok (.bl true) := nr (by kernel_rfl)
@[simp] theorem isi_bool_bl {a : Bool} : isiP (tbT "bool") ibN (.bl a) = .ok (.bl true) := nr (by kernel_rfl)
@[simp] theorem isi_int_non : isiP (tbT "int") ibN .non = .ok (.bl false) := nr (by kernel_rfl)
@[simp] theorem isi_bool_non : isiP (tbT "bool") ibN .non = .ok (.bl false) := nr (by kernel_rfl)
@[simp] theorem isi_int_tup {l : List PV} : isiP (tbT "int") ibN (.tup l) = .ok (.bl false) := nr (by kernel_rfl)
@[simp] theorem isi_tuple_tup {l : List PV} : isiP (tbT "tuple") ibN (.tup l) = .ok (.bl true) := nr (by kernel_rfl)
@[simp] theorem isi_tuple_lst {l : List PV} : isiP (tbT "tuple") ibN (.lst l) = .ok (.bl false) := nr (by kernel_rfl)
@[simp] theorem isi_list_lst {l : List PV} : isiP (tbT "list") ibN (.lst l) = .ok (.bl true) := nr (by kernel_rfl)
@[simp] theorem isi_list_tup {l : List PV} : isiP (tbT "list") ibN (.tup l) = .ok (.bl false) := nr (by kernel_rfl)
@[simp] theorem isi_tuple_int {a : Int} : isiP (tbT "tuple") ibN (.int a) = .ok (.bl false) := nr (by kernel_rfl)
@[simp] theorem isi_tuple_non : isiP (tbT "tuple") ibN .non = .ok (.bl false) := nr (by kernel_rfl)
@[simp] theorem isi_list_non : isiP (tbT "list") ibN .non = .ok (.bl false) := nr (by kernel_rfl)
@[simp] theorem ovflat_sh {p : PV} : (OV.sh p).flat = p.flat := by simp only [OV.flat]
@[simp] theorem ovflat_own {l : List OV} : (OV.own l).flat = OV.flats l := by simp only [OV.flat]
@[simp] theorem ovflat_obj {c : Nat} {fs : List (Str × OV)} : (OV.obj c fs).flat = OV.flatf fs := by simp only [OV.flat]
@[simp] theorem ovflats_nil : OV.flats [] = true := by simp only [OV.flats]
@[simp] theorem ovflats_cons {o : OV} {l : List OV} : OV.flats (o :: l) = (o.flat && OV.flats l) := by simp only [OV.flats]
@[simp] theorem ovflatf_nil : OV.flatf [] = true := by simp only [OV.flatf]
@[simp] theorem ovflatf_cons {f : Str} {o : OV} {l : List (Str × OV)} : OV.flatf ((f, o) :: l) = (o.flat && OV.flatf l) := by simp only [OV.flatf]
@[simp] theorem pvflat_non : PV.non.flat = true := by simp only [PV.flat]
@[simp] theorem pvflat_bl {b : Bool} : (PV.bl b).flat = true := by simp only [PV.flat]
@[simp] theorem pvflat_int {b : Int} : (PV.int b).flat = true := by simp only [PV.flat]
@[simp] theorem pvflat_str {b : Str} : (PV.str b).flat = true := by simp only [PV.flat]
@[simp] theorem pvflat_tup {l : List PV} : (PV.tup l).flat = PV.flats l := by simp only [PV.flat]
@[simp] theorem pvflats_nil : PV.flats [] = true := by simp only [PV.flats]
@[simp] theorem pvflats_cons {o : PV} {l : List PV} : PV.flats (o :: l) = (o.flat && PV.flats l) := by simp only [PV.flats]
theorem pvflats_map {α : Type} {f : α → PV} {l : List α} (h : ∀ x ∈ l, (f x).flat = true) : PV.flats (l.map f) = true := by
  induction l with
  | nil => rw [List.map_nil, pvflats_nil]
  | cons x l ih => rw [List.map_cons, pvflats_cons, h x List.mem_cons_self, ih fun y hy => h y (List.mem_cons_of_mem _ hy), Bool.and_self]
theorem ovflats_map {α : Type} {f : α → OV} {l : List α} (h : ∀ x ∈ l, (f x).flat = true) : OV.flats (l.map f) = true := by
  induction l with
  | nil => rw [List.map_nil, ovflats_nil]
  | cons x l ih => rw [List.map_cons, ovflats_cons, h x List.mem_cons_self, ih fun y hy => h y (List.mem_cons_of_mem _ hy), Bool.and_self]
theorem whGo_true {fg : List Nat} {c : Env → R Bool} {s : Env → RS} {n : Nat} {ρ ρ2 : Env} (h : c ρ = .ok true) (h2 : s ρ = .nx ρ2) : whGo fg c s (n + 1) ρ = whGo fg c s n (wipeE ρ2 fg) := by
  rw [whGo, h, R.to_ok, if_pos rfl, h2]
theorem whGo_ct {fg : List Nat} {c : Env → R Bool} {s : Env → RS} {n : Nat} {ρ ρ2 : Env} (h : c ρ = .ok true) (h2 : s ρ = .ct ρ2) : whGo fg c s (n + 1) ρ = whGo fg c s n (wipeE ρ2 fg) := by
  rw [whGo, h, R.to_ok, if_pos rfl, h2]
theorem whGo_bk {fg : List Nat} {c : Env → R Bool} {s : Env → RS} {n : Nat} {ρ ρ2 : Env} (h : c ρ = .ok true) (h2 : s ρ = .bk ρ2) : whGo fg c s (n + 1) ρ = .nx (wipeE ρ2 fg) := by
  rw [whGo, h, R.to_ok, if_pos rfl, h2]
theorem whGo_rt {fg : List Nat} {c : Env → R Bool} {s : Env → RS} {n : Nat} {ρ : Env} {o : OV} (h : c ρ = .ok true) (h2 : s ρ = .rt o) : whGo fg c s (n + 1) ρ = .rt o := by
  rw [whGo, h, R.to_ok, if_pos rfl, h2]
theorem whGo_false {fg : List Nat} {c : Env → R Bool} {s : Env → RS} {n : Nat} {ρ : Env} (h : c ρ = .ok false) : whGo fg c s (n + 1) ρ = .nx ρ := by
  rw [whGo, h, R.to_ok, if_neg Bool.false_ne_true]
@[simp] theorem sl_take {l : List PV} {k : Int} (h : 0 ≤ k) : slR (.lst l) none (some k) = .ok (.lst (l.take k.toNat)) := by
  show R.ok (PV.lst (slR.cutVP l none (some k))) = _
  unfold slR.cutVP HT.sIx
  dsimp only
  rw [if_neg (by omega), List.drop_zero, Nat.sub_zero]
  congr 2
  by_cases c : k.toNat ≤ l.length
  · rw [Nat.min_eq_left c]
  · rw [Nat.min_eq_right (by omega), List.take_of_length_le (Nat.le_refl _), List.take_of_length_le (by omega)]
@[simp] theorem sl_drop {l : List PV} {k : Int} (h : 0 ≤ k) : slR (.lst l) (some k) none = .ok (.lst (l.drop k.toNat)) := by
  show R.ok (PV.lst (slR.cutVP l (some k) none)) = _
  unfold slR.cutVP HT.sIx
  dsimp only
  rw [if_neg (by omega)]
  congr 2
  by_cases c : k.toNat ≤ l.length
  · rw [Nat.min_eq_left c, List.take_of_length_le (by simp)]
  · rw [Nat.min_eq_right (by omega), List.drop_of_length_le (Nat.le_refl _), List.drop_of_length_le (by omega), List.take_nil]
/-- [x] * k -/
def repP (p : PV) (n : Nat) : List PV := List.replicate n p
@[simp] theorem repP_length {p : PV} {n : Nat} : (repP p n).length = n := by simp [repP]
theorem flatten_one {α : Type} {p : α} : ∀ n : Nat, (List.replicate n [p]).flatten = List.replicate n p
  | 0 => rfl
  | n + 1 => by rw [List.replicate_succ, List.flatten_cons, flatten_one n, List.replicate_succ]; rfl
theorem mul_one {p : PV} {k : Int} (h : k ≤ 16777216) (h0 : 0 ≤ k) : pyMul (.lst [p]) (.int k) = .ok (.lst (repP p k.toNat)) := by
  show (if -(2 ^ 63) ≤ k ∧ k < 2 ^ 63 ∧ [p].length * k.toNat ≤ sizeLine then R.ok (PV.lst (List.replicate k.toNat [p]).flatten) else R.no) = _
  rw [if_pos (by simp only [szl, List.length_cons, List.length_nil]; omega), flatten_one]
  rfl
end L3

end
section
/-! L3. 17: == and in over data -/
namespace L3
open PySem L2
mutual
def peq : PV → PV → Bool
  | .non, .non => true
  | .bl a, .bl b => a == b
  | .int a, .int b => a == b
  | .str a, .str b => decide (a = b)
  | .lst a, .lst b => peqs a b
  | .scr a, .scr b => peqs a b
  | .tup a, .tup b => peqs a b
  | .ins c a, .ins d b => c == d && peqf a b
  | _, _ => false
def peqs : List PV → List PV → Bool
  | [], [] => true
  | a :: as, b :: bs => peq a b && peqs as bs
  | _, _ => false
def peqf : List (Str × PV) → List (Str × PV) → Bool
  | [], [] => true
  | (f, a) :: as, (g, b) :: bs => decide (f = g) && (peq a b && peqf as bs)
  | _, _ => false
end
mutual
theorem peq_ok : ∀ p q : PV, peq p q = true → p = q
  | .non, q, h => by cases q <;> simp_all [peq]
  | .bl a, q, h => by cases q <;> simp_all [peq]
  | .int a, q, h => by cases q <;> simp_all [peq]
  | .str a, q, h => by cases q <;> simp_all [peq]
  | .lst a, q, h => by
    cases q with
    | lst b => rw [peqs_ok a b (by simpa [peq] using h)]
    | _ => simp [peq] at h
  | .scr a, q, h => by
    cases q with
    | scr b => rw [peqs_ok a b (by simpa [peq] using h)]
    | _ => simp [peq] at h
  | .tup a, q, h => by
    cases q with
    | tup b => rw [peqs_ok a b (by simpa [peq] using h)]
    | _ => simp [peq] at h
  | .ins c a, q, h => by
    cases q with
    | ins d b =>
      simp only [peq, Bool.and_eq_true, beq_iff_eq] at h
      rw [h.1, peqf_ok a b h.2]
    | _ => simp [peq] at h
theorem peqs_ok : ∀ p q : List PV, peqs p q = true → p = q
  | [], q, h => by cases q <;> simp_all [peqs]
  | a :: as, q, h => by
    cases q with
    | nil => simp [peqs] at h
    | cons b bs =>
      simp only [peqs, Bool.and_eq_true] at h
      rw [peq_ok a b h.1, peqs_ok as bs h.2]
theorem peqf_ok : ∀ p q : List (Str × PV), peqf p q = true → p = q
  | [], q, h => by cases q <;> simp_all [peqf]
  | (f, a) :: as, q, h => by
    cases q with
    | nil => simp [peqf] at h
    | cons b bs =>
      obtain ⟨g, b⟩ := b
      simp only [peqf, Bool.and_eq_true, decide_eq_true_eq] at h
      rw [h.1, peq_ok a b h.2.1, peqf_ok as bs h.2.2]
end
mutual
theorem peq_rfl : ∀ p : PV, peq p p = true
  | .non => by simp [peq]
  | .bl a => by simp [peq]
  | .int a => by simp [peq]
  | .str a => by simp [peq]
  | .lst a => by simp [peq, peqs_rfl a]
  | .scr a => by simp [peq, peqs_rfl a]
  | .tup a => by simp [peq, peqs_rfl a]
  | .ins c a => by simp [peq, peqf_rfl a]
theorem peqs_rfl : ∀ p : List PV, peqs p p = true
  | [] => by simp [peqs]
  | a :: as => by simp [peqs, peq_rfl a, peqs_rfl as]
theorem peqf_rfl : ∀ p : List (Str × PV), peqf p p = true
  | [] => by simp [peqf]
  | (f, a) :: as => by simp [peqf, peq_rfl a, peqf_rfl as]
end
instance : DecidableEq PV := fun p q => if h : peq p q = true then .isTrue (peq_ok p q h) else .isFalse fun e => h (by rw [e]; exact peq_rfl q)
theorem peq_dec {p q : PV} : peq p q = decide (p = q) := by
  by_cases h : p = q
  · subst h; simp [peq_rfl]
  · cases e : peq p q with
    | true => exact absurd (peq_ok p q e) h
    | false => simp [h]
/-- data without truth values, of a depth -/
def cln : Nat → PV → Bool
  | _, .non => true
  | _, .int _ => true
  | _, .str s => PyData.strOk s
  | n + 1, .lst l => l.all (cln n)
  | n + 1, .tup l => l.all (cln n)
  | _, _ => false
theorem cln_pd : ∀ (n : Nat) (p : PV), cln n p = true → ∃ d, toPD p = some d ∧ d.canLay0 = true ∧ d.depth ≤ n + 1
  | n, .non, _ => ⟨_, rfl, by simp [PyData.canLay0], by simp [PyData.depth]⟩
  | n, .int _, _ => ⟨_, rfl, by simp [PyData.canLay0], by simp [PyData.depth]⟩
  | n, .str s, h => ⟨_, rfl, by cases n <;> simpa [PyData.canLay0, cln] using h, by simp [PyData.depth]⟩
  | 0, .lst l, h => by simp [cln] at h
  | 0, .tup l, h => by simp [cln] at h
  | n + 1, .lst l, h => by
    have key : ∃ ds, toPDs l = some ds ∧ PyData.canLayAll0 ds = true ∧ PyData.depthAll ds ≤ n + 1 := by
      have h : l.all (cln n) = true := by simpa [cln] using h
      induction l with
      | nil => exact ⟨[], rfl, by simp [PyData.canLayAll0], by simp [PyData.depthAll]⟩
      | cons p l ih =>
        simp only [List.all_cons, Bool.and_eq_true] at h
        obtain ⟨d, e1, e2, e3⟩ := cln_pd n p h.1
        obtain ⟨ds, f1, f2, f3⟩ := ih (by simp [cln, h.2]) h.2
        exact ⟨d :: ds, by simp [toPDs, e1, f1], by simp [PyData.canLayAll0, e2, f2], by simp [PyData.depthAll]; omega⟩
    obtain ⟨ds, e1, e2, e3⟩ := key
    exact ⟨.list ds, by simp [toPD, e1], by simpa [PyData.canLay0] using e2, by simp [PyData.depth]; omega⟩
  | n + 1, .tup l, h => by
    have key : ∃ ds, toPDs l = some ds ∧ PyData.canLayAll0 ds = true ∧ PyData.depthAll ds ≤ n + 1 := by
      have h : l.all (cln n) = true := by simpa [cln] using h
      induction l with
      | nil => exact ⟨[], rfl, by simp [PyData.canLayAll0], by simp [PyData.depthAll]⟩
      | cons p l ih =>
        simp only [List.all_cons, Bool.and_eq_true] at h
        obtain ⟨d, e1, e2, e3⟩ := cln_pd n p h.1
        obtain ⟨ds, f1, f2, f3⟩ := ih (by simp [cln, h.2]) h.2
        exact ⟨d :: ds, by simp [toPDs, e1, f1], by simp [PyData.canLayAll0, e2, f2], by simp [PyData.depthAll]; omega⟩
    obtain ⟨ds, e1, e2, e3⟩ := key
    exact ⟨.tuple ds, by simp [toPD, e1], by simpa [PyData.canLay0] using e2, by simp [PyData.depth]; omega⟩
  | n, .bl b, h => by cases n <;> simp [cln] at h
  | n, .scr b, h => by cases n <;> simp [cln] at h
  | n, .ins c b, h => by cases n <;> simp [cln] at h
mutual
/-- without truth values anywhere -/
def noBl : PV → Bool
  | .bl _ => false
  | .ins _ _ => false
  | .scr _ => false
  | .lst l => noBls l
  | .tup l => noBls l
  | _ => true
def noBls : List PV → Bool
  | [] => true
  | p :: ps => noBl p && noBls ps
end
theorem cln_noBl : ∀ (n : Nat) (p : PV), cln n p = true → noBl p = true
  | n, .non, _ => by simp [noBl]
  | n, .int _, _ => by simp [noBl]
  | n, .str s, h => by simp [noBl]
  | 0, .lst l, h => by simp [cln] at h
  | 0, .tup l, h => by simp [cln] at h
  | n + 1, .lst l, h => by
    have h : l.all (cln n) = true := by simpa [cln] using h
    rw [noBl]
    induction l with
    | nil => simp [noBls]
    | cons p l ih =>
      simp only [List.all_cons, Bool.and_eq_true] at h
      simp [noBls, cln_noBl n p h.1, ih (by simp [cln, h.2]) h.2]
  | n + 1, .tup l, h => by
    have h : l.all (cln n) = true := by simpa [cln] using h
    rw [noBl]
    induction l with
    | nil => simp [noBls]
    | cons p l ih =>
      simp only [List.all_cons, Bool.and_eq_true] at h
      simp [noBls, cln_noBl n p h.1, ih (by simp [cln, h.2]) h.2]
  | n, .bl b, h => by cases n <;> simp [cln] at h
  | n, .scr b, h => by cases n <;> simp [cln] at h
  | n, .ins c b, h => by cases n <;> simp [cln] at h
theorem toPD_lst {l : List PV} {d : PyData} (h : toPD (.lst l) = some d) : ∃ ds, toPDs l = some ds ∧ d = .list ds := by
  simp only [toPD, Option.map_eq_some_iff] at h
  obtain ⟨ds, h1, h2⟩ := h
  exact ⟨ds, h1, h2.symm⟩
theorem toPD_tup {l : List PV} {d : PyData} (h : toPD (.tup l) = some d) : ∃ ds, toPDs l = some ds ∧ d = .tuple ds := by
  simp only [toPD, Option.map_eq_some_iff] at h
  obtain ⟨ds, h1, h2⟩ := h
  exact ⟨ds, h1, h2.symm⟩
mutual
theorem eqv_ok : ∀ (p q : PV) (d e : PyData), noBl p = true → noBl q = true → toPD p = some d → toPD q = some e → PyData.eqv d e = peq p q
  | .non, q, d, e, _, hq, h, k => by
    cases h
    cases q with
    | lst b => obtain ⟨ds, _, rfl⟩ := toPD_lst k; simp [PyData.eqv, peq]
    | tup b => obtain ⟨ds, _, rfl⟩ := toPD_tup k; simp [PyData.eqv, peq]
    | _ => first | (simp [noBl] at hq; done) | (cases k; simp [PyData.eqv, peq])
  | .int a, q, d, e, _, hq, h, k => by
    cases h
    cases q with
    | lst b => obtain ⟨ds, _, rfl⟩ := toPD_lst k; simp [PyData.eqv, peq]
    | tup b => obtain ⟨ds, _, rfl⟩ := toPD_tup k; simp [PyData.eqv, peq]
    | _ => first | (simp [noBl] at hq; done) | (cases k; simp [PyData.eqv, peq])
  | .str a, q, d, e, _, hq, h, k => by
    cases h
    cases q with
    | lst b => obtain ⟨ds, _, rfl⟩ := toPD_lst k; simp [PyData.eqv, peq]
    | tup b => obtain ⟨ds, _, rfl⟩ := toPD_tup k; simp [PyData.eqv, peq]
    | str b => cases k; simp only [PyData.eqv, peq]; rfl
    | _ => first | (simp [noBl] at hq; done) | (cases k; simp [PyData.eqv, peq])
  | .lst a, q, d, e, hp, hq, h, k => by
    obtain ⟨ds, h1, rfl⟩ := toPD_lst h
    cases q with
    | lst b =>
      obtain ⟨es, k1, rfl⟩ := toPD_lst k
      simp only [PyData.eqv, peq]
      exact eqvs_ok a b ds es (by simpa [noBl] using hp) (by simpa [noBl] using hq) h1 k1
    | tup b => obtain ⟨ds, _, rfl⟩ := toPD_tup k; simp [PyData.eqv, peq]
    | _ => first | (simp [noBl] at hq; done) | (cases k; simp [PyData.eqv, peq])
  | .tup a, q, d, e, hp, hq, h, k => by
    obtain ⟨ds, h1, rfl⟩ := toPD_tup h
    cases q with
    | tup b =>
      obtain ⟨es, k1, rfl⟩ := toPD_tup k
      simp only [PyData.eqv, peq]
      exact eqvs_ok a b ds es (by simpa [noBl] using hp) (by simpa [noBl] using hq) h1 k1
    | lst b => obtain ⟨ds, _, rfl⟩ := toPD_lst k; simp [PyData.eqv, peq]
    | _ => first | (simp [noBl] at hq; done) | (cases k; simp [PyData.eqv, peq])
  | .bl _, _, _, _, hp, _, _, _ => by simp [noBl] at hp
  | .scr _, _, _, _, hp, _, _, _ => by simp [noBl] at hp
  | .ins _ _, _, _, _, hp, _, _, _ => by simp [noBl] at hp
theorem eqvs_ok : ∀ (p q : List PV) (d e : List PyData), noBls p = true → noBls q = true → toPDs p = some d → toPDs q = some e → PyData.eqvAll d e = peqs p q
  | [], q, d, e, _, hq, h, k => by
    cases h
    cases q with
    | nil => cases k; simp [PyData.eqvAll, peqs]
    | cons b bs =>
      simp only [toPDs, Option.bind_eq_some_iff, Option.map_eq_some_iff] at k
      obtain ⟨x, _, xs, _, rfl⟩ := k
      simp [PyData.eqvAll, peqs]
  | a :: as, q, d, e, hp, hq, h, k => by
    simp only [toPDs, Option.bind_eq_some_iff, Option.map_eq_some_iff] at h
    obtain ⟨x, h1, xs, h2, rfl⟩ := h
    cases q with
    | nil => cases k; simp [PyData.eqvAll, peqs]
    | cons b bs =>
      simp only [toPDs, Option.bind_eq_some_iff, Option.map_eq_some_iff] at k
      obtain ⟨y, k1, ys, k2, rfl⟩ := k
      simp only [noBls, Bool.and_eq_true] at hp hq
      simp only [PyData.eqvAll, peqs]
      rw [eqv_ok a b x y hp.1 hq.1 h1 k1, eqvs_ok as bs xs ys hp.2 hq.2 h2 k2]
end
theorem shaped_of {n : Nat} {p : PV} (h : cln n p = true) (hn : n < 63) : ∃ d, toPD p = some d ∧ SeqAt.shaped d = true := by
  obtain ⟨d, e1, e2, e3⟩ := cln_pd n p h
  exact ⟨d, e1, by unfold SeqAt.shaped; rw [e2, decide_eq_true (by omega)]; rfl⟩
theorem eqR_cln {n : Nat} {p q : PV} (hn : n < 63) (hp : cln n p = true) (hq : cln n q = true) : eqR p q = .ok (decide (p = q)) := by
  obtain ⟨d, d1, d2⟩ := shaped_of hp hn
  obtain ⟨e, e1, e2⟩ := shaped_of hq hn
  have key : ∀ b, scalP p q = some b → b = decide (p = q) := by
    intro b hb
    unfold scalP at hb
    split at hb <;> first | (cases hb; simp; done) | (cases hb; done)
  unfold eqR
  cases hs : scalP p q with
  | some b => rw [key b hs]
  | none =>
    simp only [d1, e1, d2, e2, and_self, if_true]
    rw [eqv_ok p q d e (cln_noBl n p hp) (cln_noBl n q hq) d1 e1, peq_dec]
theorem eq_cln (n : Nat) {p q : PV} (hn : n < 63) (hp : cln n p = true) (hq : cln n q = true) : pyEq p q = .ok (.bl (decide (p = q))) := by
  unfold pyEq
  rw [eqR_cln hn hp hq]
  rfl
theorem ne_cln (n : Nat) {p q : PV} (hn : n < 63) (hp : cln n p = true) (hq : cln n q = true) : pyNe p q = .ok (.bl (!decide (p = q))) := by
  unfold pyNe
  rw [eqR_cln hn hp hq]
  rfl
theorem inV_flat : ∀ {p : PV} {l : List PV}, flatP p = true → noBl p = true → l.all flatP = true → noBls l = true → inV (toV p) (l.map toV) = decide (p ∈ l)
  | p, [], _, _, _, _ => by simp [inV]
  | p, q :: l, h1, h2, h3, h4 => by
    simp only [List.all_cons, Bool.and_eq_true] at h3
    simp only [noBls, Bool.and_eq_true] at h4
    have ih := inV_flat (l := l) h1 h2 h3.2 h4.2
    have e : eqV (toV q) (toV p) = decide (p = q) := by
      cases p <;> cases q <;> first | (simp [flatP] at h1; done) | (simp [flatP] at h3; done) | (simp [noBl] at h2; done) | (simp [noBl] at h4; done) | (simp [toV, eqV]; done) | (simp only [toV, eqV, PV.int.injEq, PV.str.injEq]; exact Bool.eq_iff_iff.mpr ⟨fun h => decide_eq_true (beq_iff_eq.mp h).symm, fun h => beq_iff_eq.mpr (of_decide_eq_true h).symm⟩)
    unfold inV at ih ⊢
    rw [List.map_cons, List.any_cons, ih, e]
    by_cases c1 : p = q
    · simp [c1]
    · simp [c1]
theorem inR_cln (n : Nat) {p : PV} {l : List PV} (hn : n + 1 < 63) (hp : cln n p = true) (hl : l.all (cln n) = true) (hs : ∀ s, p ≠ .str s ∨ True) : inR p (.lst l) = .ok (decide (p ∈ l)) := by
  have hL : cln (n + 1) (.lst l) = true := by simpa [cln] using hl
  have nb : noBls l = true := by
    have := cln_noBl (n + 1) (.lst l) hL
    simpa [noBl] using this
  have main : (if flatP p = true ∧ l.all flatP = true then R.ok (inV (toV p) (l.map toV)) else match toPD p, toPDs l with
    | some d, some ds => if SeqAt.shaped d = true ∧ SeqAt.shaped (.list ds) = true then .ok (ds.any fun z => PyData.eqv z d) else .no
    | _, _ => .no) = .ok (decide (p ∈ l)) := by
    by_cases c : flatP p = true ∧ l.all flatP = true
    · rw [if_pos c, inV_flat c.1 (cln_noBl n p hp) c.2 nb]
    · rw [if_neg c]
      obtain ⟨d, d1, d2⟩ := shaped_of hp (by omega)
      obtain ⟨e, e1, e2⟩ := shaped_of hL hn
      obtain ⟨ds, e3, rfl⟩ := toPD_lst e1
      simp only [d1, e3, d2, e2, and_self, if_true]
      congr 1
      have gen : ∀ (l : List PV) (ds : List PyData), noBls l = true → toPDs l = some ds → (ds.any fun z => PyData.eqv z d) = decide (p ∈ l) := by
        intro l
        induction l with
        | nil => intro ds _ h; cases h; simp
        | cons q l ih =>
          intro ds nb h
          simp only [toPDs, Option.bind_eq_some_iff, Option.map_eq_some_iff] at h
          obtain ⟨x, h1, xs, h2, rfl⟩ := h
          simp only [noBls, Bool.and_eq_true] at nb
          rw [List.any_cons, ih xs nb.2 h2, eqv_ok q p x d nb.1 (cln_noBl n p hp) h1 d1, peq_dec]
          by_cases c1 : p = q
          · simp [c1]
          · have c2 : ¬ q = p := fun z => c1 z.symm
            simp [c1, c2]
      exact gen l ds nb e3
  cases p <;> exact main
theorem in_cln (n : Nat) {p : PV} {l : List PV} {neg : Bool} (hn : n + 1 < 63) (hp : cln n p = true) (hl : l.all (cln n) = true) : pyIn neg p (.lst l) = .ok (.bl (if neg then !decide (p ∈ l) else decide (p ∈ l))) := by
  unfold pyIn
  rw [inR_cln n hn hp hl fun _ => .inr trivial]
  rfl
theorem in_flat {p : PV} {l : List PV} {neg : Bool} (hp : flatP p = true) (hb : noBl p = true) (hl : l.all flatP = true) (hlb : noBls l = true) : pyIn neg p (.tup l) = .ok (.bl (if neg then !decide (p ∈ l) else decide (p ∈ l))) := by
  have e : inR p (.tup l) = .ok (decide (p ∈ l)) := by
    have e2 : (if flatP p = true ∧ l.all flatP = true then R.ok (inV (toV p) (l.map toV)) else R.no) = R.ok (decide (p ∈ l)) := by rw [if_pos ⟨hp, hl⟩, inV_flat hp hb hl hlb]
    cases p <;> exact e2
  unfold pyIn
  rw [e]
  rfl
end L3

end
section
/-! L3. 18: gcd, list.index, x -= y, raise of a class without fields -/
namespace L3
open PySem PySem.Spec PyProof.Rows L2
section
variable {C : Fc} {W : WX} {D : Ends} {m : Bool} {X : Cx} {o e : Expr} {es : List Expr} {pos p apos cpos : Pos} {x : Str} {fas : Env → R (List PV)} {fa fo : Env → R PV} {σ : L2.St} {H : Hp} {G : Gc} {i : Nat}
def bGcd : List PV → R PV
  | [.int a, .int b] => .ok (.int (Nat.gcd a.natAbs b.natAbs : Nat))
  | _ => .no
theorem calm_gcd : CalmC bGcd := by
  intro ps x
  unfold bGcd
  split <;> exact fun z => nomatch z
theorem gcd_ok : OpC G rGcd bGcd := by
  intro m H₀ H F ps z vs Q zz r e k
  unfold bGcd at e
  split at e
  · cases e
    simp only [Reps, Rep] at r
    obtain ⟨x, ys, rfl, rfl, y, zs, rfl, rfl, rfl⟩ := r
    exact ⟨_, _, rfl, k _ H H₀ (Ext.refl zz) (by simp only [Rep])⟩
  · cases e
theorem qGcd (hm : X.mg "gcd" = some (.builtin "math.gcd")) (ha : QA C W m X (e :: es) fas) (hgl : Gl X "gcd" := by rfl) (he : starEach (e :: es) X.env = (false, eval e X.env) :: starEach es X.env := by rfl) (hpl : (backTo pos (starEach es X.env)).any (·.1) = false := by rfl) :
    QE C W m X (.Call (.Name "gcd" p) (e :: es) [] pos) (eB bGcd fas) := PE.imp (pe_callBfun cr_gcd hgl hm ha (by decide) he hpl) fun σ H Q h => opC_go calm_gcd gcd_ok h
/-! ### methods of lists that only look -/
def OpM (Γ : Gc) (r : V → List V → Hp → VK → Prop) (g : PV → List PV → R PV) : Prop := ∀ (m : Bool) (H₀ H : Hp) (F : List Addr) (p : PV) (ps : List PV) (z : PV) (x : V) (vs : List V) (Q : VK), Same H₀ H → Rep Γ (md m H₀ H F) p x → Reps Γ (md m H₀ H F) ps vs → g p ps = .ok z →
  (∀ v H' H₀', Ext H₀ H H₀' H' → Rep Γ (md m H₀' H' F) z v → Q v H') → r x vs H Q
def eMt (g : PV → List PV → R PV) (fo : Env → R PV) (fas : Env → R (List PV)) : Env → R PV := fun ρ => (fo ρ).bind fun p => match p with
  | .lst l => (fas ρ).bind fun ps => g (.lst l) ps
  | _ => .no
theorem mtL_go {r : V → List V → Hp → VK → Prop} (hK : X.K = C.G.K) {g : PV → List PV → R PV} (hg : ∀ p ps x, g p ps ≠ .er x) (ho : OpM C.G r g) {Q : VK} (h : tE C W m (eMt g fo fas) σ H Q) : tBM X.K "list" r (tE C W m fo) (tAs C W m fas) σ H Q := by
  show tE C W m fo σ H fun x H1 => tyV X.K "list" x H1 ∧ tAs C W m fas σ H1 fun xs H2 => r x xs H2 Q
  rw [tE_iff] at h ⊢
  obtain ⟨H₀, F, ρ, S, h⟩ := h
  unfold eMt at h
  rw [Goes.bind] at h
  refine ⟨H₀, F, ρ, S, h.imp fun p _ h v H1 H₁ E1 r1 => ?_⟩
  cases p with
  | lst l =>
    dsimp only at h
    rw [Goes.bind] at h
    have r1' := r1
    simp only [Rep] at r1'
    obtain ⟨a, xs, rfl, h2, h3⟩ := r1'
    refine ⟨.inl ⟨rfl, xs, SqL.of (md_H E1.z _ _ h2)⟩, ?_⟩
    rw [tA_iff]
    refine ⟨H₁, F, ρ, S.ext E1, (h.later E1).imp fun ps _ h vs H2 H₂ E2 r2 => ?_⟩
    cases q : g (.lst l) ps with
    | ok z =>
      rw [q] at h
      exact ho m H₂ H2 F (.lst l) ps z (.ref a) vs Q E2.z (Rep.mono (md_ext E2) r1) r2 q fun w H3 H₃ E3 r3 => h w H3 H₃ ((E1.trans E2).trans E3) r3
    | er x => exact absurd q (hg _ _ x)
    | no =>
      rw [q] at h
      exact h.elim
  | _ => exact (show False from h).elim
def ixG : PV → List PV → R PV
  | .lst l, [q] => if flatP q = true ∧ l.all flatP = true then R.of (((l.map toV).findIdx? fun z => eqV z (toV q)).map fun j => .int (j : Nat)) else .no
  | _, _ => .no
theorem calm_ix : ∀ p ps x, ixG p ps ≠ .er x := by
  intro p ps x
  unfold ixG
  split
  · split
    · exact R.of_calm
    · exact fun z => nomatch z
  · exact fun z => nomatch z
theorem ix_ok : OpM G (rIndex G.K) ixG := by
  intro m H₀ H F p ps z x vs Q zz rp rs e k
  unfold ixG at e
  split at e
  · rename_i l q
    split at e
    · rename_i hf
      have rp' := rep_up zz rp
      simp only [Rep] at rp'
      obtain ⟨a, xs, rfl, h2, h3⟩ := rp'
      simp only [Reps] at rs
      obtain ⟨y, ys, rfl, ry, rfl⟩ := rs
      obtain ⟨e1, e2⟩ := flat_ok (rep_up zz ry) hf.1
      obtain ⟨e3, e4⟩ := flats_ok h3 hf.2
      cases q1 : (l.map toV).findIdx? fun z => eqV z (toV q) with
      | none => rw [q1] at e; cases e
      | some j =>
        rw [q1] at e
        cases e
        obtain ⟨hj, hp, hno⟩ := List.findIdx?_eq_some_iff_getElem.mp q1
        refine ⟨a, xs, y, j, (l.map toV)[j], rfl, rfl, SqL.of h2, e2, e4, by rw [e3]; exact List.getElem?_eq_getElem hj, by rw [e1]; exact hp, fun m z' hm hz => ?_, k _ H H₀ (Ext.refl zz) (by simp only [Rep])⟩
        rw [e3] at hz
        obtain ⟨hm2, rfl⟩ := List.getElem?_eq_some_iff.mp hz
        rw [e1]
        have := hno m hm
        simpa using this
    · cases e
  · cases e
theorem qIndex (hK : X.K = C.G.K) (ho : QE C W m X o fo) (ha : QA C W m X [e] fas)
    (hbase : attributeBase o "index" X.env (eval o X.env) = eval o X.env := by rfl)
    (hfew : ((backTo cpos (starEach [e] X.env)).all (fun x => !x.1) && (backToKw cpos (keywordEach [] X.env)).all (fun x => x.1.isSome)
      && decide (([e] : List Expr).length + ([] : List Keyword).length + (if ([] : List Keyword).isEmpty then 0 else 1) < 30)) = true := by rfl)
    (hline : (apos.endLine == cpos.line) = true := by rfl) (hs : starEach [e] X.env = (false, eval e X.env) :: starEach [] X.env := by rfl) (hplain : (backTo cpos (starEach [] X.env)).any (·.1) = false := by rfl) :
    QE C W m X (.Call (.Attribute o "index" apos) [e] [] cpos) (eMt ixG fo fas) :=
  PE.imp (pe_bm PySem.F.plainAttrs_list PySem.F.slot_list_index PySem.F.type_list_index mt_index ho ha hbase hfew hline hs hplain) fun σ H Q h => mtL_go hK calm_ix (by rw [hK]; exact ix_ok) h
/-! ### x op= y of numbers -/
def sAugI (i : Nat) (fn : Int → Int → Int) (f : Env → R PV) : Env → RS := fun ρ => match ρ[i]? with
  | some (some (.sh (.int a))) => (f ρ).to ρ fun q => match q with
    | .int b => .nx (ρ.set i (some (.sh (.int (fn a b)))))
    | _ => .no
  | _ => .no
theorem aug_go {fn : Int → Int → Int} (hx : fxOk C i) (h : tS C W (sAugI i fn fa) D σ H) : tAug i (tE C W m fa) (ipI fn) D σ H := by
  obtain ⟨H₀, F, ρ, S, h⟩ := h
  unfold sAugI at h
  split at h
  · rename_i a ea
    obtain ⟨v, F1, e1, e2, _⟩ := S.env.get ea
    simp only [OwnR, Rep] at e2
    obtain ⟨rfl, _⟩ := e2
    refine ⟨_, e1, ?_⟩
    rw [tE_iff]
    refine ⟨H₀, F, ρ, S, (Aft.to S h).imp fun q _ h v H1 H₁ E1 r1 => ?_⟩
    cases q with
    | int b =>
      simp only [Rep] at r1
      subst r1
      refine ⟨a, b, rfl, rfl, ?_⟩
      obtain ⟨F', S'⟩ := (S.ext E1).sh (i := i) (p := .int (fn a b)) (v := .int (fn a b)) (by simp only [Rep]) hx
      exact h _ _ _ _ S'
    | _ => exact (show False from h).elim
  · exact h.elim
theorem qAugSub {m : Bool} (hx : fxOk C i) (hN : X.N.Nodup) (he : QE C W m X e fa) (hi : X.N[i]? = some x := by rfl) (hl : Loc X.env.scope x := by first | exact Or.inl rfl | exact Or.inr rfl) (hf : X.fn x = true ∨ X.env.scope.names.lookup x = some .local := by first | exact .inl rfl | exact .inr rfl) :
    QS C W X (.AugAssign (.Name x p) .Sub e pos) (sAugI i (fun a b => a - b) fa) := PS.imp (ps_aug hN hi hl he ip_sub hf) fun D σ H h => aug_go hx h
theorem qAugAdd {m : Bool} (hx : fxOk C i) (hN : X.N.Nodup) (he : QE C W m X e fa) (hi : X.N[i]? = some x := by rfl) (hl : Loc X.env.scope x := by first | exact Or.inl rfl | exact Or.inr rfl) (hf : X.fn x = true ∨ X.env.scope.names.lookup x = some .local := by first | exact .inl rfl | exact .inr rfl) :
    QS C W X (.AugAssign (.Name x p) .Add e pos) (sAugI i (fun a b => a + b) fa) := PS.imp (ps_aug hN hi hl he ip_add hf) fun D σ H h => aug_go hx h
/-! ### raise of an own class that keeps nothing -/
def sRzP (c : Nat) : Env → RS := fun ρ => .er ⟨c, []⟩ ρ
theorem qRzP {c : Nat} {bmB : List Value} {B newId initId : String} {msg : Str} {j : Nat} {p2 p3 : Pos} (hc : X.calm = true) (tk : L2N.Takes X W) (Fa : ExcBaseFacts B newId initId bmB) (q : PySem.W.excIn X.K (C.G.CA c) bmB newId = true) (gC : X.mg x = some (.ref (C.G.CA c))) (kC : PySem.W.keepIn X.K (.ref (C.G.CA c)) = true) (rs : Raises X (.ref (C.G.CA c))) (hg : Gl X x := by rfl)
    (hdb : (x == ("__debug__" : Str)) = false := by decide) : QS C W X (.Raise (some (.Call (.Name x p2) [.Constant (.str msg) j p3] [] p)) none pos) (sRzP c) :=
  PS.imp (L2N.ps_raise hc tk (L2N.pmk_own Fa q gC kC rs hg hdb)) fun D σ H ⟨H₀, F, ρ, S, h⟩ => h _ _ σ _ _ F S ⟨rfl, .inl ⟨rfl, rfl⟩⟩
end
/-! by simp -/
section
variable {ρ ρ' : Env} {fa fo : Env → R PV} {fas : Env → R (List PV)} {i : Nat} {a b : Int}
@[simp] theorem gcd_int : bGcd [.int a, .int b] = .ok (.int (Nat.gcd a.natAbs b.natAbs : Nat)) := nr rfl
def mt2 (g : PV → List PV → R PV) : R PV → R (List PV) → R PV
  | .ok (.lst l), .ok ps => g (.lst l) ps
  | .ok (.lst _), .er x => .er x
  | .er x, _ => .er x
  | _, _ => .no
@[simp] theorem mt2_ok {g : PV → List PV → R PV} {l ps : List PV} : mt2 g (.ok (.lst l)) (.ok ps) = g (.lst l) ps := nr rfl
@[simp] theorem eMt_at {g : PV → List PV → R PV} : eMt g fo fas ρ = mt2 g (fo ρ) (fas ρ) := by
  unfold eMt
  cases fo ρ with
  | ok p => cases p <;> cases fas ρ <;> rfl
  | er x => cases fas ρ <;> rfl
  | no => cases fas ρ <;> rfl
def augG (i : Nat) (fn : Int → Int → Int) : R PV → R PV → Env → RS
  | .ok (.int a), .ok (.int b), ρ => .nx (ρ.set i (some (.sh (.int (fn a b)))))
  | .ok (.int _), .er x, ρ => .er x ρ
  | _, _, _ => .no
@[simp] theorem augG_ok {fn : Int → Int → Int} : augG i fn (.ok (.int a)) (.ok (.int b)) ρ = .nx (ρ.set i (some (.sh (.int (fn a b))))) := nr rfl
@[simp] theorem sAugI_at {fn : Int → Int → Int} : sAugI i fn fa ρ = augG i fn (eVar i ρ) (fa ρ) ρ := by
  unfold sAugI eVar
  cases (ρ[i]? : Option (Option OV)) with
  | none => cases fa ρ <;> rfl
  | some y =>
    cases y with
    | none => cases fa ρ <;> rfl
    | some o =>
      cases o with
      | sh p =>
        cases p with
        | int a =>
          cases fa ρ with
          | ok q => cases q <;> rfl
          | er x => rfl
          | no => rfl
        | _ => cases fa ρ <;> rfl
      | _ => cases fa ρ <;> rfl
@[simp] theorem sRzP_at {c : Nat} : sRzP c ρ = .er ⟨c, []⟩ ρ := nr rfl
end
end L3
namespace X4
open PySem PySem.Spec PyProof.Rows L2 He
/-- the name stands for a built-in function of a module -/
def bfnB (x : Str) (id : String) : Ck := fun K => eqO (PySem.W.nsIn K mainGlobals x) (some (some (.builtin id)))
theorem bfn_ok {K : PySem.W.Frag} {h : Heap} {mg : Str → Option Value} (X : K.In h) (G : h.Ns mainGlobals mg) {x : Str} {id : String} (c : bfnB x id K = true) : mg x = some (.builtin id) := PySem.W.mg_of X G (eqO_ok c)
end X4

end
section
/-! L3. 19: lists, plain -/
namespace L3
open PySem L2
theorem getD_of {α : Type} {l : List α} {k : Nat} {d : α} (h : k < l.length) : l.getD k d = l[k] := by simp [List.getD_eq_getElem?_getD, h]
theorem atI_getD {α : Type} {l : List α} {k : Nat} {d : α} (h : k < l.length) : atI l (k : Int) = some (l.getD k d) := by
  rw [atI_natP, List.getElem?_eq_getElem h, getD_of h]
theorem atI_getI {α : Type} {l : List α} {i : Int} {d : α} (h0 : 0 ≤ i) (h : i < l.length) : atI l i = some (l.getD i.toNat d) := by
  have e : i = (i.toNat : Int) := by omega
  rw [e, atI_getD (d := d) (by omega)]
  rfl
theorem toBls_map {α : Type} {f : α → Bool} {l : List α} : toBls (l.map fun x => PV.bl (f x)) = some (l.map f) := by
  induction l with
  | nil => rfl
  | cons x l ih => rw [List.map_cons, toBls, ih]; rfl
theorem toInts_map {α : Type} {f : α → Int} {l : List α} : toInts (l.map fun x => PV.int (f x)) = some (l.map f) := by
  induction l with
  | nil => rfl
  | cons x l ih => rw [List.map_cons, toInts, ih]; rfl
theorem foldl_app {α β : Type} {f : β → List α} : ∀ (l : List β) (w : List α), l.foldl (fun w x => w ++ f x) w = w ++ l.flatMap f
  | [], w => by simp
  | x :: l, w => by rw [List.foldl_cons, foldl_app l, List.flatMap_cons, List.append_assoc]
def el (l : List Int) (i : Nat) : Int := l.getD i 0
theorem el_at {l : List Int} {i : Nat} (h : i < l.length) : atI l (i : Int) = some (el l i) := atI_getD h
theorem el_atI {l : List Int} {i : Int} (h0 : 0 ≤ i) (h : i < l.length) : atI l i = some (el l i.toNat) := atI_getI h0 h
theorem el_of {l : List Int} {i : Nat} (h : i < l.length) : el l i = l[i] := getD_of h
theorem el_mem {l : List Int} {i : Nat} (h : i < l.length) : el l i ∈ l := by
  rw [el_of h]
  exact List.getElem_mem h
theorem el_app {l : List Int} {x : Int} {i : Nat} : el (l ++ [x]) i = if i < l.length then el l i else if i = l.length then x else 0 := by
  unfold el
  simp only [List.getD_eq_getElem?_getD, List.getElem?_append]
  by_cases h : i < l.length
  · simp [h]
  · rw [if_neg h, if_neg h]
    by_cases h2 : i = l.length
    · simp [h2]
    · rw [if_neg h2, List.getElem?_eq_none (by simp; omega)]
      rfl
theorem mul_big {a b : Int} (ha : a.natAbs < 2 ^ 1000) (hb : b.natAbs < 2 ^ 1000) : pyMul (.int a) (.int b) = .ok (.int (a * b)) := by
  show (if mulOk a b = true then _ else _) = _
  have h1 := log2_le ha (by decide)
  have h2 := log2_le hb (by decide)
  rw [if_pos (by unfold mulOk; simp only [Bool.or_eq_true, decide_eq_true_eq]; omega)]
/-! numbers and None -/
def o2p : Option Int → PV
  | none => .non
  | some i => .int i
@[simp] theorem o2p_none : o2p none = .non := nr rfl
@[simp] theorem o2p_some {i : Int} : o2p (some i) = .int i := nr rfl
@[simp] theorem isN_o2p {x : Option Int} : isN (o2p x) = x.isNone := by cases x <;> rfl
/-- by an invariant, with what is still to come -/
theorem forGo_invA {α : Type} {T : Tg} {fg : List Nat} {fb : Env → RS} {f : α → PV} (I : Nat → Env → Prop) : ∀ (l : List α) (k : Nat) (ρ : Env), I k ρ → (∀ i x ρ, l[i]? = some x → I (k + i) ρ → ∃ ρ', Turn T fg fb (f x) ρ ρ' ∧ I (k + i + 1) ρ') → ∃ ρ', (∀ rest, forGo T fg fb (l.map f ++ rest) ρ = forGo T fg fb rest ρ') ∧ I (k + l.length) ρ'
  | [], k, ρ, h0, _ => ⟨ρ, fun _ => rfl, h0⟩
  | x :: l, k, ρ, h0, h => by
    obtain ⟨ρ1, t, h1⟩ := h 0 x ρ rfl h0
    obtain ⟨ρ', e, h2⟩ := forGo_invA I l (k + 1) ρ1 h1 fun i y ρ hy hi => by
      have := h (i + 1) y ρ hy (by rw [← Nat.add_assoc, Nat.add_right_comm]; exact hi)
      rw [← Nat.add_assoc, Nat.add_right_comm k i 1] at this
      exact this
    exact ⟨ρ', fun rest => by rw [List.map_cons, List.cons_append, t.go]; exact e rest, by rw [List.length_cons, ← Nat.add_assoc, Nat.add_right_comm]; exact h2⟩
end L3

end
section
/-! L3. 19: l.pop() within an expression -/
namespace L3
open PySem PySem.Spec PyProof.Rows L2
/-- an expression that changes what is owned; its value is frozen -/
def tN (C : Fc) (W : WX) (f : Env → R (PV × Env)) : TE := fun σ H Q => ∃ H₀ F ρ, SR C H₀ F ρ σ H ∧ Goes C.G W (f ρ) σ H H₀ fun q => ∀ v H' H₀' F', Same H₀ H₀' → SR C H₀' F' q.2 σ H' → Rep C.G H₀' q.1 v → Q v H'
abbrev QN (C : Fc) (W : WX) (X : Cx) (e : Expr) (f : Env → R (PV × Env)) : Prop := PE X e (tN C W f)
def popR (q : Pth) (ρ : Env) : Option OV → R (PV × Env)
  | some (.own l) => (match l.getLast? with
    | some (.sh p) => .ok (p, upE ρ q (.own l.dropLast))
    | _ => .no)
  | _ => .no
def nPop (g : Env → R Pth) : Env → R (PV × Env) := fun ρ => (g ρ).bind fun q => popR q ρ (atE ρ q)
theorem OwnRs.pop {G : Gc} {H₀ H : Hp} : ∀ {l : List OV} {xs : List V} {F : List Addr} {p : PV}, OwnRs G H₀ H l xs F → l.getLast? = some (.sh p) → ∃ y, xs[xs.length - 1]? = some y ∧ Rep G H₀ p y ∧ OwnRs G H₀ H l.dropLast xs.dropLast F
  | [], xs, F, p, h, e => by cases e
  | [o], xs, F, p, h, e => by
    cases e
    simp only [OwnRs, OwnR] at h
    obtain ⟨x, ys, F1, F2, rfl, rfl, ⟨h3, rfl⟩, rfl, rfl⟩ := h
    exact ⟨x, rfl, h3, by simp [OwnRs]⟩
  | o :: o2 :: l, xs, F, p, h, e => by
    rw [OwnRs] at h
    obtain ⟨x, ys, F1, F2, rfl, rfl, h3, h4⟩ := h
    rw [List.getLast?_cons_cons] at e
    obtain ⟨y, e1, e2, e3⟩ := OwnRs.pop h4 e
    have hys : ∃ z zs, ys = z :: zs := by
      rw [OwnRs] at h4
      obtain ⟨z, zs, _, _, h, _⟩ := h4
      exact ⟨z, zs, h⟩
    obtain ⟨z, zs, rfl⟩ := hys
    refine ⟨y, ?_, e2, ?_⟩
    · simpa using e1
    · show OwnRs G H₀ H (o :: (o2 :: l).dropLast) (x :: (z :: zs).dropLast) (F1 ++ F2)
      rw [OwnRs]
      exact ⟨x, _, F1, F2, rfl, rfl, h3, e3⟩
section
variable {C : Fc} {W : WX} {X : Cx} {m : Bool} {o b e : Expr} {pos p apos cpos : Pos} {g : Env → R Pth} {fb : Env → R PV} {f : Env → R (PV × Env)} {D : Ends} {σ : L2.St} {H H₀ : Hp} {F : List Addr} {ρ : Env} {i : Nat} {x : Str}
theorem qnPop (hK : X.K = C.G.K) (ho : QP C W X o g) (hbase : attributeBase o "pop" X.env (eval o X.env) = eval o X.env := by rfl) (hline : (apos.endLine == cpos.line) = true := by rfl) : QN C W X (.Call (.Attribute o "pop" apos) [] [] cpos) (nPop g) := by
  refine PE.imp (pe_bm0 PySem.F.plainAttrs_list PySem.F.slot_list_pop PySem.F.type_list_pop mt_pop ho hbase hline) fun σ H Q h => ?_
  show tP C W g σ H fun x H1 => tyV X.K "list" x H1 ∧ rPop x [] H1 Q
  obtain ⟨H₀, F, ρ, S, h⟩ := h
  unfold nPop at h
  rw [Goes.bind] at h
  refine ⟨H₀, F, ρ, S, h.imp fun q _ h v t H1 H₁ E1 et ev => ?_⟩
  have S1 := S.ext E1
  cases ea : atE ρ q with
  | none => rw [ea] at h; exact (show False from h).elim
  | some sub =>
    rw [ea] at h
    cases sub with
    | sh p => exact (show False from h).elim
    | obj c fs => exact (show False from h).elim
    | own l =>
      unfold popR at h
      dsimp only at h
      cases el : l.getLast? with
      | none => rw [el] at h; exact (show False from h).elim
      | some z =>
        rw [el] at h
        cases z with
        | own _ => exact (show False from h).elim
        | obj _ _ => exact (show False from h).elim
        | sh p =>
          obtain ⟨t', vs, Fs, e1, e2, e3, e4, e5, e6⟩ := S1.at ea
          have et2 : t' = t := by rw [et] at e1; cases e1; rfl
          subst et2
          have ev2 : v = vs := AtP.det ev e5
          subst ev2
          simp only [OwnR] at e2
          obtain ⟨a, xs, F', h1, h2, h3, h4⟩ := e2
          obtain ⟨y, p1, p2, p3⟩ := h4.pop el
          subst h1 h2
          obtain ⟨na, nd'⟩ := List.nodup_cons.mp e3
          have keep : ∀ b ∈ F', upd H1 a (.lst xs.dropLast) b = H1 b := fun b hb => upd_ne fun z => na (z ▸ hb)
          have o2 : OwnRs C.G H₁ (upd H1 a (.lst xs.dropLast)) l.dropLast xs.dropLast F' := OwnRs.mono (Same.refl _) keep p3
          obtain ⟨F2, S2⟩ := e6 a (.lst xs.dropLast) F' (.own l.dropLast) (a :: F') rfl (by simp only [OwnR]; exact ⟨a, _, _, rfl, rfl, upd_same, o2⟩) e3 fun b hb => .inl hb
          exact ⟨.inl ⟨rfl, xs, SqL.of h3⟩, a, xs, y, rfl, rfl, h3, p1, h y _ H₁ F2 E1.s0 S2 p2⟩
def ixN1 : PV → PV × Env → R (PV × Env)
  | .lst l, (.int k, ρ) => (match atI l k with
    | some z => .ok (z, ρ)
    | none => .no)
  | _, _ => .no
def nIx (fb : Env → R PV) (f : Env → R (PV × Env)) : Env → R (PV × Env) := fun ρ => (fb ρ).bind fun p => (f ρ).bind fun r => ixN1 p r
theorem qnIx (hK : X.K = C.G.K) (hb : QE C W true X b fb) (hi : QN C W X e f) (hs : PlainIx e := by exact fun _ _ => rfl) : QN C W X (.Subscript b e pos) (nIx fb f) := by
  refine PE.imp (pe_ix ix_list hb hi hs) fun σ H Q h => ?_
  show tE C W true fb σ H fun x H1 => tN C W f σ H1 fun y H2 => rIxL X.K x y H2 Q
  obtain ⟨H₀, F, ρ, S, h⟩ := h
  unfold nIx at h
  rw [Goes.bind] at h
  rw [tE_iff]
  refine ⟨H₀, F, ρ, S, h.imp fun p _ h v H1 H₁ E1 r1 => ?_⟩
  rw [Goes.bind] at h
  refine ⟨H₁, F, ρ, S.ext E1, (h.later E1).imp fun r _ h w H2 H₂ F2 s2 S2 r2 => ?_⟩
  obtain ⟨q, ρ2⟩ := r
  cases p with
  | lst l =>
    cases q with
    | int k =>
      cases ea : atI l k with
      | none =>
        unfold ixN1 at h
        dsimp only at h
        rw [ea] at h
        exact (show False from h).elim
      | some z =>
        unfold ixN1 at h
        dsimp only at h
        rw [ea] at h
        simp only [Rep] at r2
        subst r2
        have r3 : Rep C.G H₂ (.lst l) v := Rep.mono s2 r1
        simp only [Rep] at r3
        obtain ⟨a, xs, h1, h2, h3⟩ := r3
        obtain ⟨y, e1, e2⟩ := h3.atI ea
        subst h1
        exact ⟨a, xs, k, y, rfl, rfl, SqL.of (S2.z _ _ h2), e1, h y H2 H₂ F2 (E1.s0.trans s2) S2 e2⟩
    | _ => exact (show False from h).elim
  | _ => exact (show False from h).elim

/-! x = e -/
def sSetN (i : Nat) (f : Env → R (PV × Env)) : Env → RS := fun ρ => (f ρ).to ρ fun r => .nx (r.2.set i (some (.sh r.1)))
theorem qSetN (hx : fxOk C i) (hN : X.N.Nodup) (he : QN C W X e f) (hi : X.N[i]? = some x := by rfl) (hl : Loc X.env.scope x := by first | exact Or.inl rfl | exact Or.inr rfl) (hs : swapsWith e (some (.Name x p)) pos.line X.env = pure false := by rfl)
    (hf : X.fn x = true ∨ X.env.scope.names.lookup x = some .local := by first | exact .inl rfl | exact .inr rfl) : QS C W X (.Assign [.Name x p] e pos) (sSetN i f) :=
  PS.imp (ps_set hN hi hl he hs hf) fun D σ H h => by
    obtain ⟨H₀, F, ρ, S, h⟩ := h
    show tN C W f σ H fun v H1 => gName i v σ H1 D.nx
    refine ⟨H₀, F, ρ, S, (Aft.to S h).imp fun q _ h v H' H₀' F' s S' r => ?_⟩
    obtain ⟨F2, S2⟩ := S'.sh (i := i) (p := q.1) (v := v) r hx
    exact h _ H' H₀' F2 S2
/-! for x in e -/
def tIN (C : Fc) (W : WX) (f : Env → R (List PV × Env)) : TI := fun σ H Rr => ∃ H₀ F ρ, SR C H₀ F ρ σ H ∧ Goes C.G W (f ρ) σ H H₀ fun q => ∀ J H' H₀' F', Same H₀ H₀' → SR C H₀' F' q.2 σ H' → ItP C.G J H₀' q.1 → Rr J H'
abbrev QIN (C : Fc) (W : WX) (X : Cx) (tg e : Expr) (f : Env → R (List PV × Env)) : Prop := PI X tg e (tIN C W f)
def seqN : PV × Env → R (List PV × Env)
  | (.lst l, ρ) => .ok (l, ρ)
  | _ => .no
def iN (f : Env → R (PV × Env)) : Env → R (List PV × Env) := fun ρ => (f ρ).bind seqN
theorem qiN {tg : Expr} (hK : X.K = C.G.K) (he : QN C W X e f) : QIN C W X tg e (iN f) := by
  refine PI.imp (pi_list he) fun σ H Q h => ?_
  obtain ⟨H₀, F, ρ, S, h⟩ := h
  unfold iN at h
  rw [Goes.bind] at h
  refine ⟨H₀, F, ρ, S, h.imp fun q _ h v H' H₀' F' s S' r => ?_⟩
  obtain ⟨p, ρ'⟩ := q
  cases p with
  | lst l =>
    simp only [Rep] at r
    obtain ⟨a, xs, h1, h2, h3⟩ := r
    subst h1
    rw [hK]
    exact ⟨a, rfl, ⟨xs, SqL.of (S'.z _ _ h2)⟩, h _ H' H₀' F' s S' (itp_list (SqL.of h2) h3)⟩
  | _ => exact (show False from h).elim
def sForN (T : Tg) (fg : List Nat) (fi : Env → R (List PV × Env)) (fb : Env → RS) : Env → RS := fun ρ => (fi ρ).to ρ fun q => forGo T fg fb q.1 (wipeE q.2 fg)
theorem qForN {T : Tg} {tg iter : Expr} {body : List Stmt} (fg : List Nat) {fi : Env → R (List PV × Env)} {fb : Env → RS} (hp : PassesOwn (model X.prog X.w) X.A X.env X.xe) (hc : X.calm = true) (hi : QIN C W X tg iter fi) (hg : ∀ Hx, QG { C with Hx := Hx } X tg T) (hb : ∀ Hx, QSs { C with Hx := Hx } W X body fb)
    (hs : ∀ x, foldedSetIterable iter X.env x = pure x := by intro _; rfl) : QS C W X (.For tg iter body [] pos) (sForN T fg fi fb) := by
  refine ⟨fun pins s σ H D I h => ?_⟩
  -- the frozen heap at the loop's start
  obtain ⟨H₀, F, ρ, S, h⟩ := h
  have h := Aft.to S h
  cases q : fi ρ with
  | no => rw [q] at h; exact h.elim
  | er x =>
    obtain ⟨t, g1, _⟩ := (hg C.Hx).ex
    refine (ps_for (tb := tS { C with Hx := C.Hx } W fb) hp hc hi g1 (hb C.Hx) hs).run pins s σ H D I ?_
    refine ⟨H₀, F, ρ, S, ?_⟩
    rw [q] at h ⊢
    exact h
  | ok pr =>
    obtain ⟨ps, ρ0⟩ := pr
    rw [q] at h
    have h : Aft C W D (forGo T fg fb ps (wipeE ρ0 fg)) := h
    -- the loop is read at a heap that comes only behind the iterable: so the reading chooses it
    have key : PS X (.For tg iter body [] pos) (tFor (tIN C W fi) (fun v σ H Q => ∃ t : TG, PG X tg t ∧ t v σ H Q) (fun D σ H => ∃ Hx, Same C.Hx Hx ∧ tS { C with Hx := Hx } W fb D σ H)) := by
      refine ps_for hp hc hi ⟨fun pins s σ H v u Q I r q => ?_⟩ ⟨fun pins s σ H D I q => ?_⟩ hs
      · obtain ⟨t, g1, q⟩ := q
        exact g1.run pins s σ H v u Q I r q
      · obtain ⟨Hx, hx, q⟩ := q
        exact (hb Hx).run pins s σ H D I q
    refine key.run pins s σ H D I ?_
    refine ⟨H₀, F, ρ, S, ?_⟩
    rw [q]
    intro J H1 H₁ F0 s01 S1 ip
    obtain ⟨F1, S1'⟩ := S1.drops fg
    refine ⟨fun i mm σc Hc => mm = ps.length - i ∧ i ≤ ps.length ∧ ∃ H₀c Fc ρc, SR { C with Hx := H₁ } H₀c Fc ρc σc Hc ∧ Aft C W D (forGo T fg fb (ps.drop i) ρc), ⟨ps.length, by simp, Nat.zero_le _, H₁, F1, _, S1'.inx (Same.refl _), by simpa using h⟩, ?_⟩
    rintro i mm σc Hc ⟨rfl, hi', H₀c, Fc, ρc, Sc, hA⟩
    have sc : Same H₁ Hc := Sc.hx.trans Sc.z
    by_cases hlt : i < ps.length
    · have hpi : ps[i]? = some ps[i] := by simp [hlt]
      obtain ⟨jg, jy⟩ := ip.go i Hc _ sc hpi
      rw [List.drop_eq_getElem_cons hlt] at hA
      unfold forGo at hA
      refine .inr ⟨jg, fun σ' H' => ps.length - (i + 1) = ps.length - (i + 1) ∧ i + 1 ≤ ps.length ∧ ∃ H₀c Fc ρc, SR { C with Hx := H₁ } H₀c Fc ρc σ' H' ∧ Aft C W D (forGo T fg fb (ps.drop (i + 1)) ρc), fun σ' H' z => ⟨ps.length - (i + 1), by omega, z⟩, fun x H' y => ?_⟩
      obtain ⟨e1, rx⟩ := jy x H' y
      subst e1
      obtain ⟨t, g1, g2⟩ := (hg H₁).ex
      refine ⟨t, g1, ?_⟩
      cases et : tgS T ps[i] ρc with
      | er z => exact absurd et tgS_calm
      | no => rw [et] at hA; exact hA.elim
      | ok ρ1 =>
        rw [et] at hA
        refine g2 _ x H₀c Fc ρc ρ1 σc H' _ Sc (Rep.mono Sc.hx rx) et fun σ2 F2 S2 _ => ⟨H₁, S1.hx, H₀c, F2, ρ1, S2, ?_⟩
        dsimp only at hA
        cases eb : fb ρ1 with
        | nx ρ2 =>
          rw [eb] at hA
          intro σ3 H3 H₀3 F3 S3
          obtain ⟨F4, S4⟩ := S3.drops fg
          exact ⟨rfl, hlt, H₀3, F4, _, S4, hA⟩
        | ct ρ2 =>
          rw [eb] at hA
          intro σ3 H3 H₀3 F3 S3
          obtain ⟨F4, S4⟩ := S3.drops fg
          exact ⟨rfl, hlt, H₀3, F4, _, S4, hA⟩
        | bk ρ2 =>
          rw [eb] at hA
          intro σ3 H3 H₀3 F3 S3
          obtain ⟨F4, S4⟩ := S3.drops fg
          exact hA σ3 H3 H₀3 F4 (S4.unx S1.hx)
        | rt o => rw [eb] at hA; exact hA
        | er z ρ2 =>
          rw [eb] at hA
          intro cls d σ3 H3 H₀3 F3 S3 rx3
          exact hA cls d σ3 H3 H₀3 F3 (S3.unx S1.hx) rx3
        | no => rw [eb] at hA; exact hA
    · have hie : i = ps.length := by omega
      subst hie
      rw [List.drop_length] at hA
      unfold forGo at hA
      exact .inl ⟨ip.stop _ Hc sc (Nat.le_refl _), hA σc Hc H₀c Fc (Sc.unx S1.hx)⟩
end
end L3
/-! str(e) -/
namespace L3
open PySem PySem.Spec PyProof.Rows L2
theorem str_ok {G : Gc} : OpC G (fun xs H Q => (∃ i, xs = [.int i] ∧ i.natAbs.log2 < 1920 ∧ Q (.str (toString i)) H) ∨ ∃ a, xs = [.str a] ∧ Q (.str a) H) bStr := by
  intro m H₀ H F ps z vs Q zz rs e k
  unfold bStr at e
  split at e
  · split at e
    · rename_i i hi
      obtain ⟨v, e1, r⟩ := reps1 rs
      simp only [Rep] at r
      subst r
      cases e
      exact .inl ⟨_, e1, hi, k _ H H₀ (Ext.refl zz) (by simp only [Rep])⟩
    · cases e
  · obtain ⟨v, e1, r⟩ := reps1 rs
    simp only [Rep] at r
    subst r
    cases e
    exact .inr ⟨_, e1, k _ H H₀ (Ext.refl zz) (by simp only [Rep])⟩
  · cases e
section
variable {C : Fc} {W : WX} {X : Cx} {m : Bool} {e : Expr} {pos p : Pos} {fas : Env → R (List PV)}
theorem qStrB (hm : X.mg "str" = none) (ha : QA C W m X [e] fas) (hgl : Gl X "str" := by rfl) (he : starEach (e :: []) X.env = (false, eval e X.env) :: starEach [] X.env := by rfl) : QE C W m X (.Call (.Name "str" p) [e] [] pos) (eB bStr fas) := qBty (CallR.or call_str_int SkE.call_str_str) calm_str str_ok hm bt_str ha hgl (by decide) (by decide) he rfl
end
@[simp] theorem str_int {i : Int} (h : i.natAbs.log2 < 1920) : bStr [.int i] = .ok (.str (toString i)) := if_pos h
@[simp] theorem str_str {a : Str} : bStr [.str a] = .ok (.str a) := rfl
/-! by simp: pop -/
section
variable {ρ ρ' : Env} {f : Env → R (PV × Env)} {g : Env → R Pth} {l : List OV} {q : Pth} {p z : PV} {k : Int}
def popB (ρ : Env) : R Pth → R (PV × Env)
  | .ok q => popR q ρ (atE ρ q)
  | .er x => .er x
  | .no => .no
@[simp] theorem nPop_at : nPop g ρ = popB ρ (g ρ) := by unfold nPop; cases g ρ <;> rfl
@[simp] theorem popB_ok : popB ρ (.ok q) = popR q ρ (atE ρ q) := rfl
theorem popR_snoc : popR q ρ (some (.own (l ++ [.sh p]))) = .ok (p, upE ρ q (.own l)) := by
  unfold popR
  simp
def ix2N : R PV → R (PV × Env) → R (PV × Env)
  | .ok p, .ok r => ixN1 p r
  | .ok _, .er x => .er x
  | .ok _, .no => .no
  | .er x, _ => .er x
  | .no, _ => .no
@[simp] theorem nIx_at {fb : Env → R PV} : nIx fb f ρ = ix2N (fb ρ) (f ρ) := by
  unfold nIx
  cases fb ρ with
  | ok p => cases f ρ <;> rfl
  | er x => rfl
  | no => rfl
theorem ix2N_ok {l : List PV} (h : atI l k = some z) : ix2N (.ok (.lst l)) (.ok (.int k, ρ)) = .ok (z, ρ) := by
  show ixN1 (.lst l) (.int k, ρ) = _
  unfold ixN1
  dsimp only
  rw [h]
def seq1N : R (PV × Env) → R (List PV × Env)
  | .ok r => seqN r
  | .er x => .er x
  | .no => .no
@[simp] theorem iN_at : iN f ρ = seq1N (f ρ) := by unfold iN; cases f ρ <;> rfl
@[simp] theorem seq1N_ok {l : List PV} : seq1N (.ok (.lst l, ρ)) = .ok (l, ρ) := rfl
def forN (T : Tg) (fg : List Nat) (fb : Env → RS) (ρ : Env) : R (List PV × Env) → RS
  | .ok q => forGo T fg fb q.1 (wipeE q.2 fg)
  | .er x => .er x ρ
  | .no => .no
@[simp] theorem sForN_at {T : Tg} {fg : List Nat} {fi : Env → R (List PV × Env)} {fb : Env → RS} : sForN T fg fi fb ρ = forN T fg fb ρ (fi ρ) := by unfold sForN; cases fi ρ <;> rfl
@[simp] theorem forN_ok {T : Tg} {fg : List Nat} {fb : Env → RS} {ps : List PV} : forN T fg fb ρ (.ok (ps, ρ')) = forGo T fg fb ps (wipeE ρ' fg) := rfl
def setN (i : Nat) (ρ : Env) : R (PV × Env) → RS
  | .ok r => .nx (r.2.set i (some (.sh r.1)))
  | .er x => .er x ρ
  | .no => .no
@[simp] theorem sSetN_at {i : Nat} : sSetN i f ρ = setN i ρ (f ρ) := by unfold sSetN; cases f ρ <;> rfl
@[simp] theorem setN_ok {i : Nat} : setN i ρ (.ok (p, ρ')) = .nx (ρ'.set i (some (.sh p))) := rfl
end
end L3
/-! isinstance(e, T), T a builtin, of a caught error -/
namespace L3
open PySem PySem.Spec PyProof.Rows L2
theorem qXiT {C : Fc} {m : Bool} {X : Cx} {pos : Pos} {cls : Value} {d : Option Addr} {ob : Obj} {x : PX} {a : Addr} {xn : Str} {i : Nat} {pl : List (Addr × Obj)} {W : WX} {Hx : Hp} {T : Str} {t : String} {p1 p2 p3 : Pos} {ib : Nat → Option Bool} (hm : X.mg "isinstance" = none) (hT : X.mg T = none) (hvT : bootBuiltins T = some (.type t)) (hi : ∀ c b, ib c = some b → X3.ExI X.K (C.G.CA c) ∧ PySem.W.kitOne X.K (.ref (C.G.CA c)) (.type t) = some b)
    (hz : L2N.Zn cls d ob) (hf : ∃ vs, ob.data = .fields vs) (rx : RepX C.G Hx x cls d)
    (hN : X.N[i]? = some xn := by rfl) (hv : Vis X.env.scope xn := by first | exact Or.inl rfl | exact Or.inr (Or.inl rfl) | exact Or.inr (Or.inr rfl)) (hd : (xn == ("__debug__" : Str)) = false := by decide)
    (hcd : (xn == ("__classdict__" : Str)) = false := by decide) (hg : Gl X "isinstance" := by rfl) (hgT : Gl X T := by rfl) (hdT : (T == ("__debug__" : Str)) = false := by decide) (hnT : T ≠ "__name__" := by decide)
    (he : starEach (.Name xn p1 :: .Name T p2 :: []) X.env = (false, eval (.Name xn p1) X.env) :: starEach [.Name T p2] X.env := by rfl) (hpl : (backTo pos (starEach [.Name T p2] X.env)).any (·.1) = false := by rfl)
    (hs1 : starEach [.Name T p2] X.env = [(false, eval (.Name T p2) X.env)] := by rfl) :
    QE { C with Hx := Hx, fx := some (i, .ref a) } W m (X.suite a ((a, ob) :: pl)) (.Call (.Name "isinstance" p3) [.Name xn p1, .Name T p2] [] pos) (eXi ib x) := by
  have hE : PE (X.suite a ((a, ob) :: pl)) (.Name xn p1) (tVar i) := pe_var (X := X.suite a ((a, ob) :: pl)) hN hv hd hcd
  cases hok : ib x.c with
  | none =>
    refine ⟨fun pins s σ H Q I h => ?_⟩
    obtain ⟨H₀, F, ρ, S, h⟩ := h
    unfold eXi at h
    rw [hok] at h
    exact h.elim
  | some b =>
    obtain ⟨T1, T2⟩ := hi _ _ hok
    have hgE : PE (X.suite a ((a, ob) :: pl)) (.Name T p2) (tC (.ty t)) := pe_bltn (X := X.suite a ((a, ob) :: pl)) (v := .ty t) hgT hT hvT rfl hnT hdT
    have hA : PA (X.suite a ((a, ob) :: pl)) [.Name xn p1, .Name T p2] (tCons (tVar i) (tCons (tC (.ty t)) tNil)) := pa_cons hE (pa_cons hgE pa_nil hs1) he
    have hcl : cls = .ref (C.G.CA x.c) := rx.1
    obtain ⟨fs, hfs⟩ : ∃ fs : List (Str × V), ∀ H₀ : Hp, Same Hx H₀ → ∀ dd, d = some dd → H₀ dd = some (.xd fs) := by
      rcases rx.2 with ⟨_, e1⟩ | ⟨dd, vs, e1, e2, e3⟩
      · exact ⟨[], fun H₀ _ dd z => by rw [e1] at z; cases z⟩
      · exact ⟨vs, fun H₀ z dd' z' => by rw [e1] at z'; cases z'; exact z _ _ e2⟩
    have hz' : Zc (.ref (C.G.CA x.c)) d ob := by rw [← hcl]; exact hz.zc
    have hcr := X3.call_isX (X := X) (a := a) (fs := fs) (pn := pl) T1 hz' hf
    refine PE.imp (pe_callB (X := X.suite a ((a, ob) :: pl)) hcr hg hm bt_isi hA (by decide) (by decide) he hpl) fun σ H Q h => ?_
    obtain ⟨H₀, F, ρ, S, h⟩ := h
    unfold eXi at h
    rw [hok] at h
    refine ⟨.ref a, S.fx i _ rfl, ⟨fun dd z => S.z _ _ (hfs _ S.hx dd z), .ty t, .type t, b, rfl, fun u ru => ru, T2, ?_⟩⟩
    exact h (.bl b) H H₀ (Ext.refl S.z) (by simp only [Rep])
end L3
namespace X4
open PySem PySem.Spec PyProof.Rows L2 L3 He
def kitRT (x : Str) (t : String) (b : Bool) : Ck := fun K => decide (PySem.W.kitOne K (.ref (ga K x)) (.type t) = some b)
theorem kitRT_ok {K : PySem.W.Frag} {x : Str} {t : String} {b : Bool} (c : kitRT x t b K = true) : PySem.W.kitOne K (.ref (ga K x)) (.type t) = some b := of_decide_eq_true c
end X4

end
section
/-! L3. 20: a display of new things -/
namespace L3
open PySem PySem.Spec PyProof.Rows L2
/-- a display's items, each of them new -/
def tAo (C : Fc) (W : WX) (f : Env → R (List OV)) : TA := fun σ H Q => ∃ H₀ F ρ, SR C H₀ F ρ σ H ∧ Goes C.G W (f ρ) σ H H₀ fun os => ∀ vs H' H₀' Fv, Ext H₀ H H₀' H' → OwnRs C.G H₀' H' os vs Fv → Fv.Nodup → (∀ a ∈ Fv, H a = none ∧ H₀' a = none) → Q vs H'
abbrev QAo (C : Fc) (W : WX) (X : Cx) (es : List Expr) (f : Env → R (List OV)) : Prop := PA X es (tAo C W f)
def oNil : Env → R (List OV) := fun _ => .ok []
def oCons (f : Env → R OV) (r : Env → R (List OV)) : Env → R (List OV) := fun ρ => (f ρ).bind fun o => (r ρ).bind fun os => .ok (o :: os)
def mkLstO (os : List OV) : R OV := if os.length ≤ sizeLine then .ok (.own os) else .no
def fLstO (r : Env → R (List OV)) : Env → R OV := fun ρ => (r ρ).bind mkLstO
section
variable {C : Fc} {W : WX} {X : Cx} {a : Expr} {es : List Expr} {pos : Pos} {f : Env → R OV} {r : Env → R (List OV)}
theorem qoaNil : QAo C W X [] oNil := PA.imp pa_nil fun σ H Q ⟨H₀, F, ρ, S, h⟩ => h [] H H₀ [] (Ext.refl S.z) (by simp [OwnRs]) List.nodup_nil fun a ha => by cases ha
theorem qoaCons (ha : QF C W X a f) (hr : QAo C W X es r) (hs : starEach (a :: es) X.env = (false, eval a X.env) :: starEach es X.env := by rfl) : QAo C W X (a :: es) (oCons f r) := by
  refine PA.imp (pa_cons ha hr hs) fun σ H Q h => ?_
  show tF C W f σ H fun x H1 => tAo C W r σ H1 fun xs H2 => Q (x :: xs) H2
  rw [tF_iff]
  obtain ⟨H₀, F, ρ, S, h⟩ := h
  unfold oCons at h
  rw [Goes.bind] at h
  refine ⟨H₀, F, ρ, S, h.imp fun o _ h v H1 H₁ Fv E1 r1 n1 f1 => ?_⟩
  rw [Goes.bind] at h
  refine ⟨H₁, F, ρ, S.ext E1, (h.later E1).imp fun os _ h vs H2 H₂ Fw E2 r2 n2 f2 => ?_⟩
  have th := r1.there
  refine h (v :: vs) H2 H₂ (Fv ++ Fw) (E1.trans E2) ?_ ?_ ?_
  · simp only [OwnRs]
    refine ⟨v, vs, Fv, Fw, rfl, rfl, OwnR.mono E2.s0 (fun a ha => ?_) r1, r2⟩
    obtain ⟨u, e⟩ := th a ha
    rw [e, E2.s a u e]
  · refine List.nodup_append.mpr ⟨n1, n2, fun a ha b hb e => ?_⟩
    subst e
    obtain ⟨u, e⟩ := th a ha
    rw [(f2 a hb).1] at e
    cases e
  · intro a ha
    rcases List.mem_append.mp ha with ha | ha
    · obtain ⟨u, e⟩ := th a ha
      exact ⟨(f1 a ha).1, by rw [E2.n a (ne_none_of e)]; exact (f1 a ha).2⟩
    · exact ⟨Same.free E1.s (f2 a ha).1, (f2 a ha).2⟩
theorem qLstO (h : QAo C W X es r) : QF C W X (.List es pos) (fLstO r) := by
  refine PE.imp (pe_lst h) fun σ H Q h => ?_
  show tAo C W r σ H fun xs H1 => xs.length ≤ sizeLine ∧ ∀ p, H1 p = none → Q (.ref p) (upd H1 p (.lst xs))
  rw [tF_iff] at h
  obtain ⟨H₀, F, ρ, S, h⟩ := h
  unfold fLstO at h
  rw [Goes.bind] at h
  refine ⟨H₀, F, ρ, S, h.imp fun os _ h vs H1 H₁ Fv E1 r1 n1 f1 => ?_⟩
  unfold mkLstO at h
  split at h
  · rename_i hs
    refine ⟨by rw [← r1.length]; exact hs, fun p hp => ?_⟩
    have th := r1.there
    have np : p ∉ Fv := fun z => by
      obtain ⟨u, e⟩ := th p z
      rw [hp] at e
      cases e
    have h0 : H₁ p = none := Same.free E1.z hp
    have E2 : Ext H₁ H1 H₁ (upd H1 p (.lst vs)) := by
      refine ⟨fun b u e => ?_, Same.refl _, fun b u e => ?_, fun _ _ => rfl⟩
      · rw [upd_ne fun q => by rw [q, hp] at e; cases e]; exact e
      · rw [upd_ne fun q => by rw [q, h0] at e; cases e]; exact E1.z b u e
    refine h (.ref p) _ H₁ (p :: Fv) (E1.trans E2) ?_ (List.nodup_cons.mpr ⟨np, n1⟩) fun a ha => ?_
    · simp only [OwnR]
      exact ⟨p, vs, Fv, rfl, rfl, upd_same, OwnRs.mono (Same.refl _) (fun b hb => upd_ne fun z => np (z ▸ hb)) r1⟩
    · rcases List.mem_cons.mp ha with e | ha
      · rw [e]
        exact ⟨Same.free E1.s hp, h0⟩
      · exact f1 a ha
  · exact h.elim
end
/-! by simp -/
section
variable {ρ : Env} {o x : OV} {os l : List OV} {f : Env → R OV} {r : Env → R (List OV)} {j : Nat} {π : List Stp} {n : OV}
def cons2O : R OV → R (List OV) → R (List OV)
  | .ok o, .ok os => .ok (o :: os)
  | .ok _, r => r
  | .er x, _ => .er x
  | .no, _ => .no
@[simp] theorem cons2O_ok : cons2O (.ok o) (.ok os) = .ok (o :: os) := nr rfl
@[simp] theorem oNil_at : oNil ρ = .ok [] := nr rfl
@[simp] theorem oCons_at : oCons f r ρ = cons2O (f ρ) (r ρ) := by
  unfold oCons
  cases f ρ <;> cases r ρ <;> rfl
@[simp] theorem mkLstO_ok (h : os.length ≤ sizeLine) : mkLstO os = .ok (.own os) := if_pos h
@[simp] theorem fLstO_at : fLstO r ρ = app1 mkLstO (r ρ) := bind_app
theorem setP_ix2 (h : l[j]? = some x) : setP (.ix j :: π) (.own l) n = .own (l.set j (setP π x n)) := by
  rw [setP_ix, h]
end
/-! places within places -/
section
variable {l : List OV} {j : Nat} {n x : OV} {s : Stp} {π : List Stp}
def setL (l : List OV) (j : Nat) (π : List Stp) (n : OV) : Option OV → OV
  | some o => .own (l.set j (setP π o n))
  | none => .own l
@[simp] theorem setL_some : setL l j π n (some x) = .own (l.set j (setP π x n)) := nr rfl
@[simp] theorem setP_ixx : setP (.ix j :: s :: π) (.own l) n = setL l j (s :: π) n l[j]? := by
  rw [setP_ix]
  cases l[j]? <;> rfl
end
@[simp] theorem atI_3 {α : Type} {a b c d : α} {l : List α} : atI (a :: b :: c :: d :: l) 3 = some d := by
  rw [atI_of (by omega) (by simp only [List.length_cons]; omega)]
  rfl
@[simp] theorem atI_4 {α : Type} {a b c d e : α} {l : List α} : atI (a :: b :: c :: d :: e :: l) 4 = some e := by
  rw [atI_of (by omega) (by simp only [List.length_cons]; omega)]
  rfl
@[simp] theorem atI_5 {α : Type} {a b c d e f : α} {l : List α} : atI (a :: b :: c :: d :: e :: f :: l) 5 = some f := by
  rw [atI_of (by omega) (by simp only [List.length_cons]; omega)]
  rfl
end L3

end
section

/-! The plain functions of the defs, as gen.py prints them. -/
namespace K00
open PySem PySem.Spec PyProof.Rows L2 L3
-- class 0: Fault
-- class 1: BadAmount
-- class 2: BadSide
-- class 3: BadGame
-- class 4: NoPosition
-- class 5: NoMove
-- class 6: NoTime
-- class 7: Game
def ok__guarded : Nat → Bool := fun c => c == 7
def ok_marks : Nat → Bool := fun c => c == 7
def ok_moves : Nat → Bool := fun c => c == 7
def ok_safe : Nat → Bool := fun c => c == 7
def ok_size : Nat → Bool := fun c => c == 7
def okx_amount : Nat → Bool := fun c => c == 1
def okx_move : Nat → Bool := fun c => c == 5
def okx_need : Nat → Bool := fun c => c == 6
def okx_position : Nat → Bool := fun c => c == 3 || c == 4
def okx_side : Nat → Bool := fun c => c == 2
def mt_BadAmount : Nat → Option Bool := fun c => if c = 0 then some false else if c = 1 then some true else if c = 2 then some false else if c = 3 then some false else if c = 4 then some false else if c = 5 then some false else if c = 6 then some false else none
def mt_BadGame : Nat → Option Bool := fun c => if c = 0 then some false else if c = 1 then some false else if c = 2 then some false else if c = 3 then some true else if c = 4 then some false else if c = 5 then some false else if c = 6 then some false else none
def mt_Fault : Nat → Option Bool := fun c => if c = 0 then some true else if c = 1 then some true else if c = 2 then some true else if c = 3 then some true else if c = 4 then some true else if c = 5 then some true else if c = 6 then some true else none
def mt_NoMove : Nat → Option Bool := fun c => if c = 0 then some false else if c = 1 then some false else if c = 2 then some false else if c = 3 then some false else if c = 4 then some false else if c = 5 then some true else if c = 6 then some false else none
def mt_NoPosition : Nat → Option Bool := fun c => if c = 0 then some false else if c = 1 then some false else if c = 2 then some false else if c = 3 then some false else if c = 4 then some true else if c = 5 then some false else if c = 6 then some false else none
def mt_NoTime : Nat → Option Bool := fun c => if c = 0 then some false else if c = 1 then some false else if c = 2 then some false else if c = 3 then some false else if c = 4 then some false else if c = 5 then some false else if c = 6 then some true else none
def ib_BadGame : Nat → Option Bool := fun c => if c = 0 then some false else if c = 1 then some false else if c = 2 then some false else if c = 3 then some true else if c = 4 then some false else if c = 5 then some false else if c = 6 then some false else none
def ib_Fault : Nat → Option Bool := fun c => if c = 0 then some true else if c = 1 then some true else if c = 2 then some true else if c = 3 then some true else if c = 4 then some true else if c = 5 then some true else if c = 6 then some true else none
def ib_NoMove : Nat → Option Bool := fun c => if c = 0 then some false else if c = 1 then some false else if c = 2 then some false else if c = 3 then some false else if c = 4 then some false else if c = 5 then some true else if c = 6 then some false else none
def ib_NoPosition : Nat → Option Bool := fun c => if c = 0 then some false else if c = 1 then some false else if c = 2 then some false else if c = 3 then some false else if c = 4 then some true else if c = 5 then some false else if c = 6 then some false else none
def ib_NoTime : Nat → Option Bool := fun c => if c = 0 then some false else if c = 1 then some false else if c = 2 then some false else if c = 3 then some false else if c = 4 then some false else if c = 5 then some false else if c = 6 then some true else none
def ib_ValueError : Nat → Option Bool := fun c => if c = 0 then some true else if c = 1 then some true else if c = 2 then some true else if c = 3 then some true else if c = 4 then some true else if c = 5 then some true else if c = 6 then some true else none
def ic_Game : Nat → Option Bool := fun c => if c = 7 then some true else none
def tb_Game : String → Option Bool := fun s => if s = "tuple" ∨ s = "int" ∨ s = "list" ∨ s = "str" ∨ s = "NoneType" ∨ s = "bool" then some false else none
theorem nrr {α : Sort _} {a b : α} (h : a = b) : a = b := h
@[simp] theorem ok__guarded_7 : ok__guarded 7 = true := nrr rfl
@[simp] theorem ok_marks_7 : ok_marks 7 = true := nrr rfl
@[simp] theorem ok_moves_7 : ok_moves 7 = true := nrr rfl
@[simp] theorem ok_safe_7 : ok_safe 7 = true := nrr rfl
@[simp] theorem ok_size_7 : ok_size 7 = true := nrr rfl
@[simp] theorem okx_amount_0 : okx_amount 0 = false := nrr rfl
@[simp] theorem okx_amount_1 : okx_amount 1 = true := nrr rfl
@[simp] theorem okx_amount_2 : okx_amount 2 = false := nrr rfl
@[simp] theorem okx_amount_3 : okx_amount 3 = false := nrr rfl
@[simp] theorem okx_amount_4 : okx_amount 4 = false := nrr rfl
@[simp] theorem okx_amount_5 : okx_amount 5 = false := nrr rfl
@[simp] theorem okx_amount_6 : okx_amount 6 = false := nrr rfl
@[simp] theorem okx_move_0 : okx_move 0 = false := nrr rfl
@[simp] theorem okx_move_1 : okx_move 1 = false := nrr rfl
@[simp] theorem okx_move_2 : okx_move 2 = false := nrr rfl
@[simp] theorem okx_move_3 : okx_move 3 = false := nrr rfl
@[simp] theorem okx_move_4 : okx_move 4 = false := nrr rfl
@[simp] theorem okx_move_5 : okx_move 5 = true := nrr rfl
@[simp] theorem okx_move_6 : okx_move 6 = false := nrr rfl
@[simp] theorem okx_need_0 : okx_need 0 = false := nrr rfl
@[simp] theorem okx_need_1 : okx_need 1 = false := nrr rfl
@[simp] theorem okx_need_2 : okx_need 2 = false := nrr rfl
@[simp] theorem okx_need_3 : okx_need 3 = false := nrr rfl
@[simp] theorem okx_need_4 : okx_need 4 = false := nrr rfl
@[simp] theorem okx_need_5 : okx_need 5 = false := nrr rfl
@[simp] theorem okx_need_6 : okx_need 6 = true := nrr rfl
@[simp] theorem okx_position_0 : okx_position 0 = false := nrr rfl
@[simp] theorem okx_position_1 : okx_position 1 = false := nrr rfl
@[simp] theorem okx_position_2 : okx_position 2 = false := nrr rfl
@[simp] theorem okx_position_3 : okx_position 3 = true := nrr rfl
@[simp] theorem okx_position_4 : okx_position 4 = true := nrr rfl
@[simp] theorem okx_position_5 : okx_position 5 = false := nrr rfl
@[simp] theorem okx_position_6 : okx_position 6 = false := nrr rfl
@[simp] theorem okx_side_0 : okx_side 0 = false := nrr rfl
@[simp] theorem okx_side_1 : okx_side 1 = false := nrr rfl
@[simp] theorem okx_side_2 : okx_side 2 = true := nrr rfl
@[simp] theorem okx_side_3 : okx_side 3 = false := nrr rfl
@[simp] theorem okx_side_4 : okx_side 4 = false := nrr rfl
@[simp] theorem okx_side_5 : okx_side 5 = false := nrr rfl
@[simp] theorem okx_side_6 : okx_side 6 = false := nrr rfl
@[simp] theorem mt_BadAmount_0 : mt_BadAmount 0 = some false := nrr rfl
@[simp] theorem mt_BadAmount_1 : mt_BadAmount 1 = some true := nrr rfl
@[simp] theorem mt_BadAmount_2 : mt_BadAmount 2 = some false := nrr rfl
@[simp] theorem mt_BadAmount_3 : mt_BadAmount 3 = some false := nrr rfl
@[simp] theorem mt_BadAmount_4 : mt_BadAmount 4 = some false := nrr rfl
@[simp] theorem mt_BadAmount_5 : mt_BadAmount 5 = some false := nrr rfl
@[simp] theorem mt_BadAmount_6 : mt_BadAmount 6 = some false := nrr rfl
@[simp] theorem mt_BadGame_0 : mt_BadGame 0 = some false := nrr rfl
@[simp] theorem mt_BadGame_1 : mt_BadGame 1 = some false := nrr rfl
@[simp] theorem mt_BadGame_2 : mt_BadGame 2 = some false := nrr rfl
@[simp] theorem mt_BadGame_3 : mt_BadGame 3 = some true := nrr rfl
@[simp] theorem mt_BadGame_4 : mt_BadGame 4 = some false := nrr rfl
@[simp] theorem mt_BadGame_5 : mt_BadGame 5 = some false := nrr rfl
@[simp] theorem mt_BadGame_6 : mt_BadGame 6 = some false := nrr rfl
@[simp] theorem mt_Fault_0 : mt_Fault 0 = some true := nrr rfl
@[simp] theorem mt_Fault_1 : mt_Fault 1 = some true := nrr rfl
@[simp] theorem mt_Fault_2 : mt_Fault 2 = some true := nrr rfl
@[simp] theorem mt_Fault_3 : mt_Fault 3 = some true := nrr rfl
@[simp] theorem mt_Fault_4 : mt_Fault 4 = some true := nrr rfl
@[simp] theorem mt_Fault_5 : mt_Fault 5 = some true := nrr rfl
@[simp] theorem mt_Fault_6 : mt_Fault 6 = some true := nrr rfl
@[simp] theorem mt_NoMove_0 : mt_NoMove 0 = some false := nrr rfl
@[simp] theorem mt_NoMove_1 : mt_NoMove 1 = some false := nrr rfl
@[simp] theorem mt_NoMove_2 : mt_NoMove 2 = some false := nrr rfl
@[simp] theorem mt_NoMove_3 : mt_NoMove 3 = some false := nrr rfl
@[simp] theorem mt_NoMove_4 : mt_NoMove 4 = some false := nrr rfl
@[simp] theorem mt_NoMove_5 : mt_NoMove 5 = some true := nrr rfl
@[simp] theorem mt_NoMove_6 : mt_NoMove 6 = some false := nrr rfl
@[simp] theorem mt_NoPosition_0 : mt_NoPosition 0 = some false := nrr rfl
@[simp] theorem mt_NoPosition_1 : mt_NoPosition 1 = some false := nrr rfl
@[simp] theorem mt_NoPosition_2 : mt_NoPosition 2 = some false := nrr rfl
@[simp] theorem mt_NoPosition_3 : mt_NoPosition 3 = some false := nrr rfl
@[simp] theorem mt_NoPosition_4 : mt_NoPosition 4 = some true := nrr rfl
@[simp] theorem mt_NoPosition_5 : mt_NoPosition 5 = some false := nrr rfl
@[simp] theorem mt_NoPosition_6 : mt_NoPosition 6 = some false := nrr rfl
@[simp] theorem mt_NoTime_0 : mt_NoTime 0 = some false := nrr rfl
@[simp] theorem mt_NoTime_1 : mt_NoTime 1 = some false := nrr rfl
@[simp] theorem mt_NoTime_2 : mt_NoTime 2 = some false := nrr rfl
@[simp] theorem mt_NoTime_3 : mt_NoTime 3 = some false := nrr rfl
@[simp] theorem mt_NoTime_4 : mt_NoTime 4 = some false := nrr rfl
@[simp] theorem mt_NoTime_5 : mt_NoTime 5 = some false := nrr rfl
@[simp] theorem mt_NoTime_6 : mt_NoTime 6 = some true := nrr rfl
@[simp] theorem ib_BadGame_0 : ib_BadGame 0 = some false := nrr rfl
@[simp] theorem ib_BadGame_1 : ib_BadGame 1 = some false := nrr rfl
@[simp] theorem ib_BadGame_2 : ib_BadGame 2 = some false := nrr rfl
@[simp] theorem ib_BadGame_3 : ib_BadGame 3 = some true := nrr rfl
@[simp] theorem ib_BadGame_4 : ib_BadGame 4 = some false := nrr rfl
@[simp] theorem ib_BadGame_5 : ib_BadGame 5 = some false := nrr rfl
@[simp] theorem ib_BadGame_6 : ib_BadGame 6 = some false := nrr rfl
@[simp] theorem ib_Fault_0 : ib_Fault 0 = some true := nrr rfl
@[simp] theorem ib_Fault_1 : ib_Fault 1 = some true := nrr rfl
@[simp] theorem ib_Fault_2 : ib_Fault 2 = some true := nrr rfl
@[simp] theorem ib_Fault_3 : ib_Fault 3 = some true := nrr rfl
@[simp] theorem ib_Fault_4 : ib_Fault 4 = some true := nrr rfl
@[simp] theorem ib_Fault_5 : ib_Fault 5 = some true := nrr rfl
@[simp] theorem ib_Fault_6 : ib_Fault 6 = some true := nrr rfl
@[simp] theorem ib_NoMove_0 : ib_NoMove 0 = some false := nrr rfl
@[simp] theorem ib_NoMove_1 : ib_NoMove 1 = some false := nrr rfl
@[simp] theorem ib_NoMove_2 : ib_NoMove 2 = some false := nrr rfl
@[simp] theorem ib_NoMove_3 : ib_NoMove 3 = some false := nrr rfl
@[simp] theorem ib_NoMove_4 : ib_NoMove 4 = some false := nrr rfl
@[simp] theorem ib_NoMove_5 : ib_NoMove 5 = some true := nrr rfl
@[simp] theorem ib_NoMove_6 : ib_NoMove 6 = some false := nrr rfl
@[simp] theorem ib_NoPosition_0 : ib_NoPosition 0 = some false := nrr rfl
@[simp] theorem ib_NoPosition_1 : ib_NoPosition 1 = some false := nrr rfl
@[simp] theorem ib_NoPosition_2 : ib_NoPosition 2 = some false := nrr rfl
@[simp] theorem ib_NoPosition_3 : ib_NoPosition 3 = some false := nrr rfl
@[simp] theorem ib_NoPosition_4 : ib_NoPosition 4 = some true := nrr rfl
@[simp] theorem ib_NoPosition_5 : ib_NoPosition 5 = some false := nrr rfl
@[simp] theorem ib_NoPosition_6 : ib_NoPosition 6 = some false := nrr rfl
@[simp] theorem ib_NoTime_0 : ib_NoTime 0 = some false := nrr rfl
@[simp] theorem ib_NoTime_1 : ib_NoTime 1 = some false := nrr rfl
@[simp] theorem ib_NoTime_2 : ib_NoTime 2 = some false := nrr rfl
@[simp] theorem ib_NoTime_3 : ib_NoTime 3 = some false := nrr rfl
@[simp] theorem ib_NoTime_4 : ib_NoTime 4 = some false := nrr rfl
@[simp] theorem ib_NoTime_5 : ib_NoTime 5 = some false := nrr rfl
@[simp] theorem ib_NoTime_6 : ib_NoTime 6 = some true := nrr rfl
@[simp] theorem ib_ValueError_0 : ib_ValueError 0 = some true := nrr rfl
@[simp] theorem ib_ValueError_1 : ib_ValueError 1 = some true := nrr rfl
@[simp] theorem ib_ValueError_2 : ib_ValueError 2 = some true := nrr rfl
@[simp] theorem ib_ValueError_3 : ib_ValueError 3 = some true := nrr rfl
@[simp] theorem ib_ValueError_4 : ib_ValueError 4 = some true := nrr rfl
@[simp] theorem ib_ValueError_5 : ib_ValueError 5 = some true := nrr rfl
@[simp] theorem ib_ValueError_6 : ib_ValueError 6 = some true := nrr rfl
@[simp] theorem ic_Game_7 : ic_Game 7 = some true := nrr rfl
/-- checked_amount: slots 0 amount -/
def s_checked_amount  : L3.Env → RS := (sSeq (sIf (bOr (eTst (eBin pyLt (eVar 0) (eCst (.int 0)))) (eTst (eBin pyGt (eVar 0) (eCst (.int 1000000000000000000000000000000))))) (sRz 1 "amount" (eVar 0)) sNx) (sRt (mSh (eVar 0))))
def F_checked_amount : List PV → R OV := defF 1 1 s_checked_amount
theorem F_checked_amount_at {a0 : PV} : F_checked_amount [a0] = outS (s_checked_amount [some (.sh a0)]) := rfl
/-- other_side: slots 0 side -/
def s_other_side  : L3.Env → RS := (sSeq (sIf (bAnd (eTst (eBin pyNe (eVar 0) (eCst (.int 1)))) (eTst (eBin pyNe (eVar 0) (eCst (.int 2))))) (sRz 2 "side" (eVar 0)) sNx) (sRt (mSh (eBin pySub (eCst (.int 3)) (eVar 0)))))
def F_other_side : List PV → R OV := defF 1 1 s_other_side
theorem F_other_side_at {a0 : PV} : F_other_side [a0] = outS (s_other_side [some (.sh a0)]) := rfl
/-- is_word: slots 0 word, 1 sign -/
def b_is_word_1 : L3.Env → RS := (sIf (eTst (eBin (pyIn true) (eVar 1) (eCst (.str "abcdefghijklmnopqrstuvwxyz0123456789")))) (sRt (mSh (eCst (.bl false)))) sNx)
def s_is_word  : L3.Env → RS := (sSeq (sIf (bOr (eTst (eBin pyLt (eB bLen (aCons (eVar 0) aNil)) (eCst (.int 1)))) (eTst (eBin pyGt (eB bLen (aCons (eVar 0) aNil)) (eCst (.int 8))))) (sRt (mSh (eCst (.bl false)))) sNx) (sSeq (sFor (.nm 1) [1] (iSeq (eVar 0)) b_is_word_1) (sRt (mSh (eCst (.bl true))))))
def F_is_word : List PV → R OV := defF 2 1 s_is_word
theorem F_is_word_at {a0 : PV} : F_is_word [a0] = outS (s_is_word [some (.sh a0), none]) := rfl
/-- guards: slots 0 safe, 1 size, 2 found, 3 last, 4 position -/
def b_guards_1 : L3.Env → RS := (sSeq (sIf (bOr (eTst (eBin pyLe (eVar 4) (eVar 3))) (eTst (eBin pyGe (eVar 4) (eVar 1)))) (sRz 3 "position" (eUn pyNeg (eCst (.int 1)))) sNx) (sSeq (sSt (pVar 2) (eVar 4) (mSh (eCst (.bl true)))) (sSet 3 (mSh (eVar 4)))))
def s_guards  : L3.Env → RS := (sSeq (sSet 2 (mFr (fOp mulL (eFz (fLst (aCons (eCst (.bl false)) aNil))) (eVar 1)))) (sSeq (sSet 3 (mSh (eUn pyNeg (eCst (.int 1))))) (sSeq (sFor (.nm 4) [4] (iSeq (eVar 0)) b_guards_1) (sRt (mSh (eFlat (eB bTuple (aCons (eOwn 2) aNil))))))))
def F_guards : List PV → R OV := defF 5 2 s_guards
theorem F_guards_at {a0 a1 : PV} : F_guards [a0, a1] = outS (s_guards [some (.sh a0), some (.sh a1), none, none, none]) := rfl
/-- Game.checked: slots 0 self, 1 position -/
def s_Game_checked  : L3.Env → RS := (sSeq (sIf (bOr (eTst (eBin pyLt (eVar 1) (eCst (.int 0)))) (eTst (eBin pyGe (eVar 1) (eFld "size" ok_size (eVar 0))))) (sRz 4 "position" (eVar 1)) sNx) (sRt (mSh (eVar 1))))
def F_Game_checked : List PV → R OV := defF 2 2 s_Game_checked
theorem F_Game_checked_at {a0 a1 : PV} : F_Game_checked [a0, a1] = outS (s_Game_checked [some (.sh a0), some (.sh a1)]) := rfl
/-- Game.__eq__: slots 0 self, 1 other -/
def s_Game_eq  : L3.Env → RS := (sSeq (sIf (bNot (eTst (eIsi tb_Game ic_Game (eVar 1)))) (sRt (mSh (eCst (.bl false)))) sNx) (sRt (mSh (eAnd (eBin pyEq (eFld "marks" ok_marks (eVar 0)) (eFld "marks" ok_marks (eVar 1))) (eAnd (eBin pyEq (eFld "moves" ok_moves (eVar 0)) (eFld "moves" ok_moves (eVar 1))) (eBin pyEq (eFld "safe" ok_safe (eVar 0)) (eFld "safe" ok_safe (eVar 1))))))))
def F_Game_eq : List PV → R OV := defF 2 2 s_Game_eq
theorem F_Game_eq_at {a0 a1 : PV} : F_Game_eq [a0, a1] = outS (s_Game_eq [some (.sh a0), some (.sh a1)]) := rfl
def fuel_reaching : L3.Env → Nat := fun _ => 2000
/-- reaching: slots 0 game, 1 mark, 2 sources, 3 position, 4 move, 5 found, 6 waiting -/
def c_reaching_1 : L3.Env → R OV := (fLst aNil)
def b_reaching_1 : L3.Env → RS := (sApp (pIx (pVar 2) (eIdx (eVar 4) (eCst (.int 1)))) (mSh (eVar 3)))
def b_reaching_2 : L3.Env → RS := (sFor (.nm 4) [4] (iSeq (eIdx (eFld "moves" ok_moves (eVar 0)) (eVar 3))) b_reaching_1)
def c_reaching_2 : L3.Env → R OV := (fSh (eBin pyEq (eIdx (eFld "marks" ok_marks (eVar 0)) (eVar 3)) (eVar 1)))
def t_reaching_1 : L3.Env → R Bool := (eTst (eIdx (eOwn 5) (eVar 3)))
def c_reaching_3 : L3.Env → R OV := (fSh (eVar 3))
def b_reaching_3 : L3.Env → RS := (sIf (bNot (eTst (eIdx (eOwn 5) (eVar 3)))) (sSeq (sSt (pVar 5) (eVar 3) (mSh (eCst (.bl true)))) (sApp (pVar 6) (mSh (eVar 3)))) sNx)
def b_reaching_4 : L3.Env → RS := (sForN (.nm 3) [3] (iN (nIx (eVar 2) (nPop (pVar 6)))) b_reaching_3)
def s_reaching  : L3.Env → RS := (sSeq (sSet 2 (mFr (fLc (.nm 3) [3] (iRg rng1R (aCons (eFld "size" ok_size (eVar 0)) aNil)) tYesB c_reaching_1))) (sSeq (sFor (.nm 3) [4] (iRg rng1R (aCons (eFld "size" ok_size (eVar 0)) aNil)) b_reaching_2) (sSeq (sSet 5 (mFr (fLc (.nm 3) [3] (iRg rng1R (aCons (eFld "size" ok_size (eVar 0)) aNil)) tYesB c_reaching_2))) (sSeq (sSet 6 (mFr (fLc (.nm 3) [3] (iRg rng1R (aCons (eFld "size" ok_size (eVar 0)) aNil)) t_reaching_1 c_reaching_3))) (sFz 2 (sSeq (sWhile fuel_reaching [3] (eTru (eOwn 6)) b_reaching_4) (sRt (mMv 5))))))))
def F_reaching : List PV → R OV := defF 7 2 s_reaching
theorem F_reaching_at {a0 a1 : PV} : F_reaching [a0, a1] = outS (s_reaching [some (.sh a0), some (.sh a1), none, none, none, none, none]) := rfl
/-- _law_cell: slots 0 script, 1 k -/
def s_p_law_cell  : L3.Env → RS := (sSeq (sIf (eTst (eBin pyLt (eVar 1) (eB bLen (aCons (eVar 0) aNil)))) (sRt (mSh (eIdx (eVar 0) (eVar 1)))) sNx) (sRt (mSh (eCst (.int 0)))))
def F_p_law_cell : List PV → R OV := defF 2 2 s_p_law_cell
theorem F_p_law_cell_at {a0 a1 : PV} : F_p_law_cell [a0, a1] = outS (s_p_law_cell [some (.sh a0), some (.sh a1)]) := rfl
/-- _law_numbers: slots 0 cell, 1 salt, 2 count, 3 many, 4 numbers, 5 rest, 6 great, 7 k, 8 mixed -/
def b_p_law_numbers_1 : L3.Env → RS := (sIf (bAnd (eTst (eVar 6)) (eTst (eBin pyGt (eVar 5) (eCst (.int 0))))) (sSeq (sApp (pVar 4) (mSh (eBin pyMod (eB bInt (aCons (eVar 5) aNil)) (eVar 3)))) (sSet 5 (mSh (eBin pyFdiv (eVar 5) (eVar 3))))) (sSeq (sSet 8 (mSh (eBin pyMod (eB bInt (aCons (eBin pyAdd (eBin pyAdd (eBin pyAdd (eB bAbs (aCons (eVar 0) aNil)) (eBin pyMul (eVar 1) (eCst (.int 7919)))) (eBin pyMul (eVar 7) (eCst (.int 104729)))) (eCst (.int 17))) aNil)) (eCst (.int 2147483647))))) (sSeq (sSet 8 (mSh (eBin pyMod (eB bInt (aCons (eBin pyAdd (eBin pyMul (eVar 8) (eCst (.int 48271))) (eCst (.int 5))) aNil)) (eCst (.int 2147483647))))) (sSeq (sSet 8 (mSh (eBin pyMod (eB bInt (aCons (eBin pyAdd (eBin pyAdd (eBin pyMul (eVar 8) (eVar 8)) (eBin pyMul (eVar 8) (eCst (.int 69621)))) (eBin pyMul (eVar 7) (eCst (.int 31)))) aNil)) (eCst (.int 2147483629))))) (sApp (pVar 4) (mSh (eBin pyMod (eB bInt (aCons (eBin pyFdiv (eVar 8) (eCst (.int 7))) aNil)) (eVar 3))))))))
def s_p_law_numbers  : L3.Env → RS := (sSeq (sSet 4 (mFr (fLst aNil))) (sSeq (sSet 5 (mSh (eB bAbs (aCons (eVar 0) aNil)))) (sSeq (sSet 6 (mSh (eBin pyGe (eVar 5) (eBin pyPow (eCst (.int 10)) (eCst (.int 18)))))) (sSeq (sFor (.nm 7) [7, 8] (iRg rng1R (aCons (eVar 2) aNil)) b_p_law_numbers_1) (sRt (mMv 4))))))
def F_p_law_numbers : List PV → R OV := defF 9 4 s_p_law_numbers
theorem F_p_law_numbers_at {a0 a1 a2 a3 : PV} : F_p_law_numbers [a0, a1, a2, a3] = outS (s_p_law_numbers [some (.sh a0), some (.sh a1), some (.sh a2), some (.sh a3), none, none, none, none, none]) := rfl
/-- _law_is: slots 0 actual, 1 expected -/
def s_p_law_is  : L3.Env → RS := (sSeq (sIf (eTst (eIsN (eVar 1))) (sRt (mSh (eIsN (eVar 0)))) sNx) (sRt (mSh (eAnd (eIsi (tbT "int") ibN (eVar 0)) (eAnd (eNot (eIsi (tbT "bool") ibN (eVar 0))) (eBin pyEq (eVar 0) (eVar 1)))))))
def F_p_law_is : List PV → R OV := defF 2 2 s_p_law_is
theorem F_p_law_is_at {a0 a1 : PV} : F_p_law_is [a0, a1] = outS (s_p_law_is [some (.sh a0), some (.sh a1)]) := rfl
/-- _law_broken: slots 0 move, 1 way, 2 size, 3 word, 4 target, 5 need, 6 drop -/
def s_p_law_broken  : L3.Env → RS := (sSeq (sTg (.tp [3, 4, 5, 6]) (eVar 0)) (sSeq (sIf (eTst (eBin pyEq (eVar 1) (eCst (.int 0)))) (sRt (mSh (eTup (aCons (eBin pyAdd (eVar 3) (eCst (.str "A"))) (aCons (eVar 4) (aCons (eVar 5) (aCons (eVar 6) aNil))))))) sNx) (sSeq (sIf (eTst (eBin pyEq (eVar 1) (eCst (.int 1)))) (sRt (mSh (eTup (aCons (eCst (.str "")) (aCons (eVar 4) (aCons (eVar 5) (aCons (eVar 6) aNil))))))) sNx) (sSeq (sIf (eTst (eBin pyEq (eVar 1) (eCst (.int 2)))) (sRt (mSh (eTup (aCons (eBin pyAdd (eBin pyMul (eCst (.str "a0")) (eCst (.int 4))) (eCst (.str "z"))) (aCons (eVar 4) (aCons (eVar 5) (aCons (eVar 6) aNil))))))) sNx) (sSeq (sIf (eTst (eBin pyEq (eVar 1) (eCst (.int 3)))) (sRt (mSh (eTup (aCons (eVar 3) (aCons (eVar 2) (aCons (eVar 5) (aCons (eVar 6) aNil))))))) sNx) (sSeq (sIf (eTst (eBin pyEq (eVar 1) (eCst (.int 4)))) (sRt (mSh (eTup (aCons (eVar 3) (aCons (eUn pyNeg (eCst (.int 1))) (aCons (eVar 5) (aCons (eVar 6) aNil))))))) sNx) (sSeq (sIf (eTst (eBin pyEq (eVar 1) (eCst (.int 5)))) (sRt (mSh (eTup (aCons (eVar 3) (aCons (eVar 4) (aCons (eCst (.int 10)) (aCons (eVar 6) aNil))))))) sNx) (sSeq (sIf (eTst (eBin pyEq (eVar 1) (eCst (.int 6)))) (sRt (mSh (eTup (aCons (eVar 3) (aCons (eVar 4) (aCons (eVar 5) (aCons (eBin pyAdd (eVar 5) (eCst (.int 1))) aNil))))))) sNx) (sSeq (sIf (eTst (eBin pyEq (eVar 1) (eCst (.int 7)))) (sRt (mSh (eTup (aCons (eVar 3) (aCons (eVar 4) (aCons (eVar 5) (aCons (eUn pyNeg (eCst (.int 1))) aNil))))))) sNx) (sRt (mSh (eTup (aCons (eBin pyAdd (eSl (eCst (.str "a_")) (oSome (eBin pyMod (eVar 1) (eCst (.int 2)))) (oSome (eBin pyAdd (eBin pyMod (eVar 1) (eCst (.int 2))) (eCst (.int 1))))) (eCst (.str "_"))) (aCons (eVar 4) (aCons (eVar 5) (aCons (eVar 6) aNil))))))))))))))))
def F_p_law_broken : List PV → R OV := defF 7 3 s_p_law_broken
theorem F_p_law_broken_at {a0 a1 a2 : PV} : F_p_law_broken [a0, a1, a2] = outS (s_p_law_broken [some (.sh a0), some (.sh a1), some (.sh a2), none, none, none, none]) := rfl
/-- _law_reach: slots 0 marks, 1 moves, 2 position, 3 mark, 4 seen, 5 k, 6 move, 7 at -/
def b_p_law_reach_1 : L3.Env → RS := (sIf (eTst (eBin (pyIn true) (eIdx (eVar 6) (eCst (.int 1))) (eOwn 4))) (sApp (pVar 4) (mSh (eIdx (eVar 6) (eCst (.int 1))))) sNx)
def b_p_law_reach_2 : L3.Env → RS := (sIf (eTst (eBin pyLt (eVar 5) (eB bLen (aCons (eOwn 4) aNil)))) (sFor (.nm 6) [6] (iSeq (eIdx (eVar 1) (eFlat (eIdx (eOwn 4) (eVar 5))))) b_p_law_reach_1) sNx)
def c_p_law_reach_1 : L3.Env → R OV := (fSh (eIdx (eVar 0) (eVar 7)))
def s_p_law_reach  : L3.Env → RS := (sSeq (sSet 4 (mFr (fLst (aCons (eVar 2) aNil)))) (sSeq (sFor (.nm 5) [5, 6] (iRg rng1R (aCons (eB bLen (aCons (eVar 0) aNil)) aNil)) b_p_law_reach_2) (sFz 4 (sRt (mSh (eBin (pyIn false) (eVar 3) (eFz (fLc (.nm 7) [7] (iSeq (eVar 4)) tYesB c_p_law_reach_1))))))))
def F_p_law_reach : List PV → R OV := defF 8 4 s_p_law_reach
theorem F_p_law_reach_at {a0 a1 a2 a3 : PV} : F_p_law_reach [a0, a1, a2, a3] = outS (s_p_law_reach [some (.sh a0), some (.sh a1), some (.sh a2), some (.sh a3), none, none, none, none]) := rfl
/-- moves_fit: slots 0 moves, 1 size, 2 seen, 3 word, 4 target, 5 need, 6 drop -/
def b_moves_fit_1 : L3.Env → RS := (sSeq (sIf (bOr (bNot (eTst (eFz (fCall true F_is_word [] (aCons (eVar 3) aNil))))) (eTst (eBin (pyIn false) (eVar 3) (eOwn 2)))) (sRt (mSh (eCst (.bl false)))) sNx) (sSeq (sIf (bOr (eTst (eBin pyLt (eVar 4) (eCst (.int 0)))) (eTst (eBin pyGe (eVar 4) (eVar 1)))) (sRt (mSh (eCst (.bl false)))) sNx) (sSeq (sIf (bOr (eTst (eBin pyLt (eVar 6) (eCst (.int 0)))) (bOr (eTst (eBin pyLt (eVar 5) (eVar 6))) (eTst (eBin pyGt (eVar 5) (eCst (.int 9)))))) (sRt (mSh (eCst (.bl false)))) sNx) (sApp (pVar 2) (mSh (eVar 3))))))
def s_moves_fit  : L3.Env → RS := (sSeq (sIf (bOr (eTst (eBin pyLt (eB bLen (aCons (eVar 0) aNil)) (eCst (.int 1)))) (eTst (eBin pyGt (eB bLen (aCons (eVar 0) aNil)) (eCst (.int 16))))) (sRt (mSh (eCst (.bl false)))) sNx) (sSeq (sSet 2 (mFr (fLst aNil))) (sSeq (sFor (.tp [3, 4, 5, 6]) [3, 4, 5, 6] (iSeq (eVar 0)) b_moves_fit_1) (sRt (mSh (eCst (.bl true)))))))
def F_moves_fit : List PV → R OV := defF 7 2 s_moves_fit
theorem F_moves_fit_at {a0 a1 : PV} : F_moves_fit [a0, a1] = outS (s_moves_fit [some (.sh a0), some (.sh a1), none, none, none, none, none]) := rfl
/-- Game.mover: slots 0 self, 1 position, 2 mark -/
def s_Game_mover  : L3.Env → RS := (sSeq (sSet 2 (mSh (eIdx (eFld "marks" ok_marks (eVar 0)) (eFz (fMeth true 7 "checked" F_Game_checked [] (eVar 0) (aCons (eVar 1) aNil)))))) (sSeq (sIf (bOr (eTst (eBin pyEq (eVar 2) (eCst (.int 1)))) (eTst (eBin pyEq (eVar 2) (eCst (.int 2))))) (sRt (mSh (eVar 2))) sNx) (sRt (mSh (eCst (.int 0))))))
def F_Game_mover : List PV → R OV := defF 3 2 s_Game_mover
theorem F_Game_mover_at {a0 a1 : PV} : F_Game_mover [a0, a1] = outS (s_Game_mover [some (.sh a0), some (.sh a1), none]) := rfl
/-- Game.is_safe: slots 0 self, 1 position -/
def s_Game_is_safe  : L3.Env → RS := (sRt (mSh (eIdx (eFld "_guarded" ok__guarded (eVar 0)) (eFz (fMeth true 7 "checked" F_Game_checked [] (eVar 0) (aCons (eVar 1) aNil))))))
def F_Game_is_safe : List PV → R OV := defF 2 2 s_Game_is_safe
theorem F_Game_is_safe_at {a0 a1 : PV} : F_Game_is_safe [a0, a1] = outS (s_Game_is_safe [some (.sh a0), some (.sh a1)]) := rfl
/-- Game.index_of: slots 0 self, 1 position, 2 word, 3 row, 4 index -/
def b_Game_index_of_1 : L3.Env → RS := (sIf (eTst (eBin pyEq (eIdx (eIdx (eVar 3) (eVar 4)) (eCst (.int 0))) (eVar 2))) (sRt (mSh (eVar 4))) sNx)
def s_Game_index_of  : L3.Env → RS := (sSeq (sSet 3 (mSh (eIdx (eFld "moves" ok_moves (eVar 0)) (eFz (fMeth true 7 "checked" F_Game_checked [] (eVar 0) (aCons (eVar 1) aNil)))))) (sSeq (sFor (.nm 4) [4] (iRg rng1R (aCons (eB bLen (aCons (eVar 3) aNil)) aNil)) b_Game_index_of_1) (sRz 5 "move" (eVar 2))))
def F_Game_index_of : List PV → R OV := defF 5 3 s_Game_index_of
theorem F_Game_index_of_at {a0 a1 a2 : PV} : F_Game_index_of [a0, a1, a2] = outS (s_Game_index_of [some (.sh a0), some (.sh a1), some (.sh a2), none, none]) := rfl
/-- ended_outcome: slots 0 game, 1 position -/
def s_ended_outcome  : L3.Env → RS := (sRt (mSh (eIdx (eCst (.tup [(.non), (.non), (.non), (.int 1), (.int 2), (.int 0)])) (eIdx (eFld "marks" ok_marks (eVar 0)) (eFz (fMeth true 7 "checked" F_Game_checked [] (eVar 0) (aCons (eVar 1) aNil)))))))
def F_ended_outcome : List PV → R OV := defF 2 2 s_ended_outcome
theorem F_ended_outcome_at {a0 a1 : PV} : F_ended_outcome [a0, a1] = outS (s_ended_outcome [some (.sh a0), some (.sh a1)]) := rfl
/-- allowed_moves: slots 0 game, 1 position, 2 amount, 3 row, 4 index -/
def t_allowed_moves_1 : L3.Env → R Bool := (eTst (eBin pyLe (eIdx (eIdx (eVar 3) (eVar 4)) (eCst (.int 2))) (eVar 2)))
def c_allowed_moves_1 : L3.Env → R OV := (fSh (eVar 4))
def s_allowed_moves  : L3.Env → RS := (sSeq (sSet 3 (mSh (eIdx (eFld "moves" ok_moves (eVar 0)) (eFz (fMeth true 7 "checked" F_Game_checked [] (eVar 0) (aCons (eVar 1) aNil)))))) (sSeq (sDo (fCall true F_checked_amount [] (aCons (eVar 2) aNil))) (sRt (mSh (eFz (fLc (.nm 4) [4] (iRg rng1R (aCons (eB bLen (aCons (eVar 3) aNil)) aNil)) t_allowed_moves_1 c_allowed_moves_1))))))
def F_allowed_moves : List PV → R OV := defF 5 3 s_allowed_moves
theorem F_allowed_moves_at {a0 a1 a2 : PV} : F_allowed_moves [a0, a1, a2] = outS (s_allowed_moves [some (.sh a0), some (.sh a1), some (.sh a2), none, none]) := rfl
/-- _law_word: slots 0 cell, 1 salt, 2 k, 3 signs, 4 n, 5 word, 6 at, 7 place -/
def b_p_law_word_1 : L3.Env → RS := (sSet 5 (mSh (eBin pyAdd (eVar 5) (eIdx (eVar 3) (eBin pyMod (eIdx (eVar 4) (eVar 6)) (eCst (.int 36)))))))
def s_p_law_word  : L3.Env → RS := (sSeq (sSet 3 (mSh (eCst (.str "abcdefghijklmnopqrstuvwxyz0123456789")))) (sSeq (sSet 4 (mSh (eFz (fCall true F_p_law_numbers [] (aCons (eVar 0) (aCons (eVar 1) (aCons (eCst (.int 9)) (aCons (eCst (.int 252)) aNil)))))))) (sSeq (sSet 5 (mSh (eCst (.str "")))) (sSeq (sFor (.nm 6) [6] (iRg rng1R (aCons (eBin pyMod (eIdx (eVar 4) (eCst (.int 8))) (eCst (.int 8))) aNil)) b_p_law_word_1) (sSeq (sSet 7 (mSh (eBin pyMod (eIdx (eVar 4) (eCst (.int 7))) (eBin pyAdd (eB bLen (aCons (eVar 5) aNil)) (eCst (.int 1)))))) (sRt (mSh (eBin pyAdd (eBin pyAdd (eSl (eVar 5) oNone (oSome (eVar 7))) (eIdx (eVar 3) (eBin pyMod (eBin pyAdd (eIdx (eVar 4) (eCst (.int 6))) (eVar 2)) (eCst (.int 36))))) (eSl (eVar 5) (oSome (eVar 7)) oNone)))))))))
def F_p_law_word : List PV → R OV := defF 8 3 s_p_law_word
theorem F_p_law_word_at {a0 a1 a2 : PV} : F_p_law_word [a0, a1, a2] = outS (s_p_law_word [some (.sh a0), some (.sh a1), some (.sh a2), none, none, none, none, none]) := rfl
/-- _law_hopeless: slots 0 marks, 1 moves, 2 found, 3 position -/
def b_p_law_hopeless_1 : L3.Env → RS := (sIf (bAnd (eTst (eBin pyLt (eIdx (eVar 0) (eVar 3)) (eCst (.int 3)))) (bNot (eTst (eFz (fCall true F_p_law_reach [] (aCons (eVar 0) (aCons (eVar 1) (aCons (eVar 3) (aCons (eBin pySub (eCst (.int 5)) (eIdx (eVar 0) (eVar 3))) aNil))))))))) (sApp (pVar 2) (mSh (eVar 3))) sNx)
def s_p_law_hopeless  : L3.Env → RS := (sSeq (sSet 2 (mFr (fLst aNil))) (sSeq (sFor (.nm 3) [3] (iRg rng1R (aCons (eB bLen (aCons (eVar 0) aNil)) aNil)) b_p_law_hopeless_1) (sRt (mMv 2))))
def F_p_law_hopeless : List PV → R OV := defF 4 2 s_p_law_hopeless
theorem F_p_law_hopeless_at {a0 a1 : PV} : F_p_law_hopeless [a0, a1] = outS (s_p_law_hopeless [some (.sh a0), some (.sh a1), none, none]) := rfl
/-- position_fits: slots 0 mark, 1 moves, 2 size, 3 guarded -/
def s_position_fits  : L3.Env → RS := (sSeq (sIf (bOr (eTst (eBin pyEq (eVar 0) (eCst (.int 1)))) (eTst (eBin pyEq (eVar 0) (eCst (.int 2))))) (sRt (mSh (eFz (fCall true F_moves_fit [] (aCons (eVar 1) (aCons (eVar 2) aNil)))))) sNx) (sSeq (sIf (bAnd (eTst (eBin pyNe (eVar 0) (eCst (.int 3)))) (bAnd (eTst (eBin pyNe (eVar 0) (eCst (.int 4)))) (eTst (eBin pyNe (eVar 0) (eCst (.int 5)))))) (sRt (mSh (eCst (.bl false)))) sNx) (sRt (mSh (eAnd (eBin pyEq (eB bLen (aCons (eVar 1) aNil)) (eCst (.int 0))) (eNot (eVar 3)))))))
def F_position_fits : List PV → R OV := defF 4 4 s_position_fits
theorem F_position_fits_at {a0 a1 a2 a3 : PV} : F_position_fits [a0, a1, a2, a3] = outS (s_position_fits [some (.sh a0), some (.sh a1), some (.sh a2), some (.sh a3)]) := rfl
/-- flag_outcome: slots 0 game, 1 position, 2 side -/
def s_flag_outcome  : L3.Env → RS := (sSeq (sSet 2 (mSh (eFz (fMeth true 7 "mover" F_Game_mover [] (eVar 0) (aCons (eVar 1) aNil))))) (sSeq (sIf (eTst (eBin pyEq (eVar 2) (eCst (.int 0)))) (sRz 4 "position" (eVar 1)) sNx) (sSeq (sIf (eTst (eFz (fMeth true 7 "is_safe" F_Game_is_safe [] (eVar 0) (aCons (eVar 1) aNil)))) (sRt (mSh (eCst (.int 0)))) sNx) (sRt (mSh (eFz (fCall true F_other_side [] (aCons (eVar 2) aNil))))))))
def F_flag_outcome : List PV → R OV := defF 3 2 s_flag_outcome
theorem F_flag_outcome_at {a0 a1 : PV} : F_flag_outcome [a0, a1] = outS (s_flag_outcome [some (.sh a0), some (.sh a1), none]) := rfl
/-- play: slots 0 game, 1 position, 2 first, 3 second, 4 index, 5 side, 6 row, 7 target, 8 need, 9 drop, 10 amount -/
def s_play  : L3.Env → RS := (sSeq (sSet 5 (mSh (eFz (fMeth true 7 "mover" F_Game_mover [] (eVar 0) (aCons (eVar 1) aNil))))) (sSeq (sDo (fCall true F_checked_amount [] (aCons (eVar 2) aNil))) (sSeq (sDo (fCall true F_checked_amount [] (aCons (eVar 3) aNil))) (sSeq (sSet 6 (mSh (eIdx (eFld "moves" ok_moves (eVar 0)) (eVar 1)))) (sSeq (sIf (bOr (eTst (eBin pyLt (eVar 4) (eCst (.int 0)))) (eTst (eBin pyGe (eVar 4) (eB bLen (aCons (eVar 6) aNil))))) (sRz 5 "move" (eVar 4)) sNx) (sSeq (sTg (.tp [7, 8, 9]) (eSl (eIdx (eVar 6) (eVar 4)) (oSome (eCst (.int 1))) oNone)) (sSeq (sSet 10 (mSh (eIf (eTst (eBin pyEq (eVar 5) (eCst (.int 1)))) (eVar 2) (eVar 3)))) (sSeq (sIf (eTst (eBin pyGt (eVar 8) (eVar 10))) (sRz 6 "need" (eVar 8)) sNx) (sSeq (sIf (eTst (eBin pyEq (eVar 5) (eCst (.int 1)))) (sRt (mSh (eTup (aCons (eVar 7) (aCons (eBin pySub (eVar 2) (eVar 9)) (aCons (eVar 3) aNil)))))) sNx) (sRt (mSh (eTup (aCons (eVar 7) (aCons (eVar 2) (aCons (eBin pySub (eVar 3) (eVar 9)) aNil)))))))))))))))
def F_play : List PV → R OV := defF 11 5 s_play
theorem F_play_at {a0 a1 a2 a3 a4 : PV} : F_play [a0, a1, a2, a3, a4] = outS (s_play [some (.sh a0), some (.sh a1), some (.sh a2), some (.sh a3), some (.sh a4), none, none, none, none, none, none]) := rfl
/-- hopeless: slots 0 game, 1 by_first, 2 by_second, 3 positions, 4 position, 5 side -/
def b_hopeless_1 : L3.Env → RS := (sSeq (sSet 5 (mSh (eFz (fMeth true 7 "mover" F_Game_mover [] (eVar 0) (aCons (eVar 4) aNil))))) (sIf (bOr (bAnd (eTst (eBin pyEq (eVar 5) (eCst (.int 1)))) (bNot (eTst (eIdx (eVar 2) (eVar 4))))) (bAnd (eTst (eBin pyEq (eVar 5) (eCst (.int 2)))) (bNot (eTst (eIdx (eVar 1) (eVar 4)))))) (sApp (pVar 3) (mSh (eVar 4))) sNx))
def s_hopeless  : L3.Env → RS := (sSeq (sSet 1 (mSh (eFz (fCall true F_reaching [] (aCons (eVar 0) (aCons (eCst (.int 3)) aNil)))))) (sSeq (sSet 2 (mSh (eFz (fCall true F_reaching [] (aCons (eVar 0) (aCons (eCst (.int 4)) aNil)))))) (sSeq (sSet 3 (mFr (fLst aNil))) (sSeq (sFor (.nm 4) [4, 5] (iRg rng1R (aCons (eFld "size" ok_size (eVar 0)) aNil)) b_hopeless_1) (sRt (mMv 3))))))
def F_hopeless : List PV → R OV := defF 6 1 s_hopeless
theorem F_hopeless_at {a0 : PV} : F_hopeless [a0] = outS (s_hopeless [some (.sh a0), none, none, none, none, none]) := rfl
/-- _law_build: slots 0 script, 1 n, 2 size, 3 kinds, 4 marks, 5 moves, 6 safe, 7 position, 8 row, 9 count, 10 parts, 11 k, 12 need, 13 drop, 14 word, 15 kind -/
def c_p_law_build_1 : L3.Env → R OV := (fSh (eIdx (eFz (fLst (aCons (eCst (.int 1)) (aCons (eCst (.int 2)) (aCons (eCst (.int 1)) (aCons (eCst (.int 2)) (aCons (eCst (.int 1)) (aCons (eCst (.int 2)) (aCons (eCst (.int 3)) (aCons (eCst (.int 4)) (aCons (eCst (.int 5)) aNil))))))))))) (eBin pyMod (eVar 15) (eCst (.int 9)))))
def b_p_law_build_1 : L3.Env → RS := (sSeq (sSet 12 (mSh (eBin pyMod (eIdx (eVar 10) (eBin pyMul (eCst (.int 3)) (eVar 11))) (eCst (.int 10))))) (sSeq (sSet 13 (mSh (eBin pyMod (eIdx (eVar 10) (eBin pyAdd (eBin pyMul (eCst (.int 3)) (eVar 11)) (eCst (.int 1)))) (eBin pyAdd (eVar 12) (eCst (.int 1)))))) (sSeq (sSet 14 (mSh (eFz (fCall true F_p_law_word [] (aCons (eFz (fCall true F_p_law_cell [] (aCons (eVar 0) (aCons (eBin pyAdd (eCst (.int 7)) (eBin pyMod (eVar 7) (eCst (.int 3)))) aNil)))) (aCons (eBin pyAdd (eCst (.int 100)) (eVar 7)) (aCons (eVar 11) aNil))))))) (sApp (pVar 8) (mSh (eTup (aCons (eVar 14) (aCons (eBin pyMod (eIdx (eVar 10) (eBin pyAdd (eBin pyMul (eCst (.int 3)) (eVar 11)) (eCst (.int 2)))) (eVar 2)) (aCons (eVar 12) (aCons (eVar 13) aNil))))))))))
def b_p_law_build_2 : L3.Env → RS := (sSeq (sSet 8 (mFr (fLst aNil))) (sSeq (sIf (eTst (eBin pyLt (eIdx (eVar 4) (eVar 7)) (eCst (.int 3)))) (sSeq (sSet 9 (mSh (eBin pyAdd (eCst (.int 1)) (eBin pyMod (eBin pyFdiv (eIdx (eVar 3) (eVar 7)) (eCst (.int 9))) (eCst (.int 4)))))) (sSeq (sIf (bAnd (eTst (eBin pyEq (eBin pyMod (eBin pyFdiv (eIdx (eVar 3) (eVar 7)) (eCst (.int 9))) (eCst (.int 8))) (eCst (.int 7)))) (eTst (eBin pyEq (eBin pyMod (eVar 7) (eCst (.int 9))) (eCst (.int 0))))) (sSet 9 (mSh (eCst (.int 16)))) sNx) (sSeq (sSet 10 (mSh (eFz (fCall true F_p_law_numbers [] (aCons (eFz (fCall true F_p_law_cell [] (aCons (eVar 0) (aCons (eBin pyAdd (eCst (.int 2)) (eBin pyMod (eVar 7) (eCst (.int 5)))) aNil)))) (aCons (eBin pyAdd (eCst (.int 20)) (eVar 7)) (aCons (eBin pyMul (eCst (.int 3)) (eVar 9)) (aCons (eBin pyMul (eCst (.int 10)) (eVar 2)) aNil)))))))) (sSeq (sFor (.nm 11) [11, 12, 13, 14] (iRg rng1R (aCons (eVar 9) aNil)) b_p_law_build_1) (sIf (eTst (eBin pyEq (eBin pyMod (eIdx (eVar 3) (eVar 7)) (eCst (.int 7))) (eCst (.int 3)))) (sApp (pVar 6) (mSh (eVar 7))) sNx))))) sNx) (sApp (pVar 5) (mMv 8))))
def s_p_law_build  : L3.Env → RS := (sSeq (sSet 1 (mSh (eFz (fCall true F_p_law_numbers [] (aCons (eFz (fCall true F_p_law_cell [] (aCons (eVar 0) (aCons (eCst (.int 0)) aNil)))) (aCons (eCst (.int 0)) (aCons (eCst (.int 4)) (aCons (eCst (.int 1000)) aNil)))))))) (sSeq (sSet 2 (mSh (eBin pyAdd (eCst (.int 1)) (eBin pyMod (eIdx (eVar 1) (eCst (.int 0))) (eCst (.int 8)))))) (sSeq (sIf (eTst (eBin pyEq (eBin pyMod (eIdx (eVar 1) (eCst (.int 1))) (eCst (.int 8))) (eCst (.int 1)))) (sSet 2 (mSh (eBin pyAdd (eCst (.int 9)) (eBin pyMod (eIdx (eVar 1) (eCst (.int 2))) (eCst (.int 16)))))) sNx) (sSeq (sSet 3 (mSh (eFz (fCall true F_p_law_numbers [] (aCons (eFz (fCall true F_p_law_cell [] (aCons (eVar 0) (aCons (eCst (.int 1)) aNil)))) (aCons (eCst (.int 1)) (aCons (eVar 2) (aCons (eCst (.int 72)) aNil)))))))) (sSeq (sSet 4 (mFr (fLc (.nm 15) [15] (iSeq (eVar 3)) tYesB c_p_law_build_1))) (sFz 4 (sSeq (sSet 5 (mFr (fLst aNil))) (sSeq (sSet 6 (mFr (fLst aNil))) (sSeq (sFor (.nm 7) [7, 8, 9, 10, 11, 12, 13, 14] (iRg rng1R (aCons (eVar 2) aNil)) b_p_law_build_2) (sFz 5 (sFz 6 (sRt (mSh (eFz (fLst (aCons (eVar 4) (aCons (eVar 5) (aCons (eVar 6) aNil))))))))))))))))))
def F_p_law_build : List PV → R OV := defF 16 1 s_p_law_build
theorem F_p_law_build_at {a0 : PV} : F_p_law_build [a0] = outS (s_p_law_build [some (.sh a0), none, none, none, none, none, none, none, none, none, none, none, none, none, none, none]) := rfl
/-- Game.__init__: slots 0 self, 1 marks, 2 moves, 3 safe, 4 size, 5 guarded, 6 position, 7 row, 8 move -/
def b_Game_init_1 : L3.Env → RS := (sIf (bNot (eTst (eFz (fCall true F_position_fits [] (aCons (eIdx (eVar 1) (eVar 6)) (aCons (eIdx (eVar 2) (eVar 6)) (aCons (eVar 4) (aCons (eIdx (eVar 5) (eVar 6)) aNil)))))))) (sRz 3 "position" (eVar 6)) sNx)
def c_Game_init_1 : L3.Env → R OV := (fSh (eB bTuple (aCons (eVar 8) aNil)))
def c_Game_init_2 : L3.Env → R OV := (fSh (eB bTuple (aCons (eFz (fLc (.nm 8) [8] (iSeq (eVar 7)) tYesB c_Game_init_1)) aNil)))
def s_Game_init  : L3.Env → RS := (sSeq (sSet 4 (mSh (eB bLen (aCons (eVar 1) aNil)))) (sSeq (sIf (bOr (eTst (eBin pyLt (eVar 4) (eCst (.int 1)))) (bOr (eTst (eBin pyGt (eVar 4) (eCst (.int 1000)))) (eTst (eBin pyNe (eB bLen (aCons (eVar 2) aNil)) (eVar 4))))) (sRz 3 "position" (eUn pyNeg (eCst (.int 1)))) sNx) (sSeq (sSet 5 (mSh (eFz (fCall true F_guards [] (aCons (eVar 3) (aCons (eVar 4) aNil)))))) (sSeq (sFor (.nm 6) [6] (iRg rng1R (aCons (eVar 4) aNil)) b_Game_init_1) (sSeq (sFl (pVar 0) ok_size "size" (mSh (eVar 4))) (sSeq (sFl (pVar 0) ok_marks "marks" (mSh (eB bTuple (aCons (eVar 1) aNil)))) (sSeq (sFl (pVar 0) ok_moves "moves" (mSh (eB bTuple (aCons (eFz (fLc (.nm 7) [7] (iSeq (eVar 2)) tYesB c_Game_init_2)) aNil)))) (sSeq (sFl (pVar 0) ok_safe "safe" (mSh (eB bTuple (aCons (eVar 3) aNil)))) (sFl (pVar 0) ok__guarded "_guarded" (mSh (eVar 5)))))))))))
def F_Game_init : List PV → R (List (Str × OV)) := initF 9 4 7 s_Game_init
theorem F_Game_init_at {a0 a1 a2 : PV} : F_Game_init [a0, a1, a2] = outI 7 (s_Game_init [some (.obj 7 []), some (.sh a0), some (.sh a1), some (.sh a2), none, none, none, none, none]) := rfl
/-- _law_error: slots 0 game, 1 position, 2 first, 3 second, 4 index, 5 e -/
def s_p_law_error  : L3.Env → RS := (sSeq (sTry (sDo (fCall true F_play [] (aCons (eVar 0) (aCons (eVar 1) (aCons (eVar 2) (aCons (eVar 3) (aCons (eVar 4) aNil))))))) (⟨mt_NoPosition, some 5, fun x => (sRt (mSh (eFz (fLst (aCons (eCst (.str "position")) (aCons (eXf okx_position x "position") aNil))))))⟩ :: (⟨mt_BadAmount, some 5, fun x => (sRt (mSh (eFz (fLst (aCons (eCst (.str "amount")) (aCons (eXf okx_amount x "amount") aNil))))))⟩ :: (⟨mt_NoMove, some 5, fun x => (sRt (mSh (eFz (fLst (aCons (eCst (.str "move")) (aCons (eXf okx_move x "move") aNil))))))⟩ :: (⟨mt_NoTime, some 5, fun x => (sRt (mSh (eFz (fLst (aCons (eCst (.str "need")) (aCons (eXf okx_need x "need") aNil))))))⟩ :: []))))) (sRt (mSh (eFz (fLst (aCons (eCst (.str "played")) (aCons (eCst (.int 0)) aNil)))))))
def F_p_law_error : List PV → R OV := defF 6 5 s_p_law_error
theorem F_p_law_error_at {a0 a1 a2 a3 a4 : PV} : F_p_law_error [a0, a1, a2, a3, a4] = outS (s_p_law_error [some (.sh a0), some (.sh a1), some (.sh a2), some (.sh a3), some (.sh a4), none]) := rfl
/-- _law_standing: slots 0 game, 1 position, 2 amount, 3 other, 4 index, 5 marks, 6 moves, 7 move, 8 side, 9 first, 10 second, 11 told, 12 due -/
def s_p_law_standing  : L3.Env → RS := (sSeq (sSet 7 (mSh (eIdx (eIdx (eVar 6) (eVar 1)) (eVar 4)))) (sSeq (sSet 8 (mSh (eIdx (eVar 5) (eVar 1)))) (sSeq (sSet 9 (mSh (eIf (eTst (eBin pyEq (eVar 8) (eCst (.int 1)))) (eVar 2) (eVar 3)))) (sSeq (sSet 10 (mSh (eIf (eTst (eBin pyEq (eVar 8) (eCst (.int 1)))) (eVar 3) (eVar 2)))) (sSeq (sIf (eTst (eBin pyGt (eIdx (eVar 7) (eCst (.int 2))) (eVar 2))) (sRt (mSh (eBin pyEq (eFz (fCall true F_p_law_error [] (aCons (eVar 0) (aCons (eVar 1) (aCons (eVar 9) (aCons (eVar 10) (aCons (eVar 4) aNil))))))) (eFz (fLst (aCons (eCst (.str "need")) (aCons (eIdx (eVar 7) (eCst (.int 2))) aNil))))))) sNx) (sSeq (sSet 11 (mSh (eFz (fCall true F_play [] (aCons (eVar 0) (aCons (eVar 1) (aCons (eVar 9) (aCons (eVar 10) (aCons (eVar 4) aNil))))))))) (sSeq (sIf (bOr (bNot (eTst (eIsi (tbT "tuple") ibN (eVar 11)))) (bOr (eTst (eBin pyNe (eB bLen (aCons (eVar 11) aNil)) (eCst (.int 3)))) (bNot (eTst (eFz (fCall true F_p_law_is [] (aCons (eIdx (eVar 11) (eCst (.int 0))) (aCons (eIdx (eVar 7) (eCst (.int 1))) aNil)))))))) (sRt (mSh (eCst (.bl false)))) sNx) (sSeq (sSet 12 (mSh (eIf (eTst (eBin pyEq (eVar 8) (eCst (.int 1)))) (eFz (fLst (aCons (eBin pySub (eVar 9) (eIdx (eVar 7) (eCst (.int 3)))) (aCons (eVar 10) aNil)))) (eFz (fLst (aCons (eVar 9) (aCons (eBin pySub (eVar 10) (eIdx (eVar 7) (eCst (.int 3)))) aNil))))))) (sRt (mSh (eAnd (eFz (fCall true F_p_law_is [] (aCons (eIdx (eVar 11) (eCst (.int 1))) (aCons (eIdx (eVar 12) (eCst (.int 0))) aNil)))) (eFz (fCall true F_p_law_is [] (aCons (eIdx (eVar 11) (eCst (.int 2))) (aCons (eIdx (eVar 12) (eCst (.int 1))) aNil)))))))))))))))
def F_p_law_standing : List PV → R OV := defF 13 7 s_p_law_standing
theorem F_p_law_standing_at {a0 a1 a2 a3 a4 a5 a6 : PV} : F_p_law_standing [a0, a1, a2, a3, a4, a5, a6] = outS (s_p_law_standing [some (.sh a0), some (.sh a1), some (.sh a2), some (.sh a3), some (.sh a4), some (.sh a5), some (.sh a6), none, none, none, none, none, none]) := rfl
/-- _law_errors: slots 0 game, 1 size, 2 position, 3 count, 4 big, 5 found, 6 at, 7 deed, 8 e -/
def b_p_law_errors_1 : L3.Env → RS := (sTry (sIf (eTst (eBin pyEq (eVar 7) (eCst (.int 0)))) (sDo (fMeth true 7 "mover" F_Game_mover [] (eVar 0) (aCons (eVar 6) aNil))) (sIf (eTst (eBin pyEq (eVar 7) (eCst (.int 1)))) (sDo (fMeth true 7 "is_safe" F_Game_is_safe [] (eVar 0) (aCons (eVar 6) aNil))) (sIf (eTst (eBin pyEq (eVar 7) (eCst (.int 2)))) (sDo (fMeth true 7 "index_of" F_Game_index_of [] (eVar 0) (aCons (eVar 6) (aCons (eCst (.str "")) aNil)))) (sIf (eTst (eBin pyEq (eVar 7) (eCst (.int 3)))) (sDo (fCall true F_flag_outcome [] (aCons (eVar 0) (aCons (eVar 6) aNil)))) (sIf (eTst (eBin pyEq (eVar 7) (eCst (.int 4)))) (sDo (fCall true F_ended_outcome [] (aCons (eVar 0) (aCons (eVar 6) aNil)))) (sDo (fCall true F_allowed_moves [] (aCons (eVar 0) (aCons (eVar 6) (aCons (eUn pyNeg (eCst (.int 1))) aNil)))))))))) (⟨mt_NoPosition, some 8, fun x => (sSet 5 (mSh (eBin pyAdd (eVar 5) (eB bInt (aCons (eAnd (eFz (fCall true F_p_law_is [] (aCons (eXf okx_position x "position") (aCons (eVar 6) aNil)))) (eAnd (eXi ib_Fault x) (eNot (eXi ib_NoMove x)))) aNil)))))⟩ :: []))
def b_p_law_errors_2 : L3.Env → RS := (sFor (.nm 7) [7, 8] (iRg rng1R (aCons (eCst (.int 6)) aNil)) b_p_law_errors_1)
def s_p_law_errors  : L3.Env → RS := (sSeq (sIf (bOr (eTst (eBin pyNe (eFz (fCall true F_p_law_error [] (aCons (eVar 0) (aCons (eVar 1) (aCons (eUn pyNeg (eCst (.int 1))) (aCons (eBin pyAdd (eVar 4) (eCst (.int 1))) (aCons (eUn pyNeg (eCst (.int 1))) aNil))))))) (eFz (fLst (aCons (eCst (.str "position")) (aCons (eVar 1) aNil)))))) (eTst (eBin pyNe (eFz (fCall true F_p_law_error [] (aCons (eVar 0) (aCons (eUn pyNeg (eCst (.int 1))) (aCons (eCst (.int 0)) (aCons (eCst (.int 0)) (aCons (eCst (.int 0)) aNil))))))) (eFz (fLst (aCons (eCst (.str "position")) (aCons (eUn pyNeg (eCst (.int 1))) aNil))))))) (sRt (mSh (eCst (.bl false)))) sNx) (sSeq (sIf (eTst (eBin pyNe (eFz (fCall true F_p_law_error [] (aCons (eVar 0) (aCons (eVar 2) (aCons (eUn pyNeg (eCst (.int 2))) (aCons (eBin pyAdd (eVar 4) (eCst (.int 1))) (aCons (eUn pyNeg (eCst (.int 1))) aNil))))))) (eFz (fLst (aCons (eCst (.str "amount")) (aCons (eUn pyNeg (eCst (.int 2))) aNil)))))) (sRt (mSh (eCst (.bl false)))) sNx) (sSeq (sIf (eTst (eBin pyNe (eFz (fCall true F_p_law_error [] (aCons (eVar 0) (aCons (eVar 2) (aCons (eCst (.int 0)) (aCons (eBin pyAdd (eVar 4) (eCst (.int 1))) (aCons (eUn pyNeg (eCst (.int 1))) aNil))))))) (eFz (fLst (aCons (eCst (.str "amount")) (aCons (eBin pyAdd (eVar 4) (eCst (.int 1))) aNil)))))) (sRt (mSh (eCst (.bl false)))) sNx) (sSeq (sIf (bOr (eTst (eBin pyNe (eFz (fCall true F_p_law_error [] (aCons (eVar 0) (aCons (eVar 2) (aCons (eVar 4) (aCons (eVar 4) (aCons (eVar 3) aNil))))))) (eFz (fLst (aCons (eCst (.str "move")) (aCons (eVar 3) aNil)))))) (eTst (eBin pyNe (eFz (fCall true F_p_law_error [] (aCons (eVar 0) (aCons (eVar 2) (aCons (eCst (.int 0)) (aCons (eCst (.int 0)) (aCons (eUn pyNeg (eCst (.int 1))) aNil))))))) (eFz (fLst (aCons (eCst (.str "move")) (aCons (eUn pyNeg (eCst (.int 1))) aNil))))))) (sRt (mSh (eCst (.bl false)))) sNx) (sSeq (sSet 5 (mSh (eCst (.int 0)))) (sSeq (sFor (.nm 6) [6, 7, 8] (iSeq (eFz (fLst (aCons (eVar 1) (aCons (eUn pyNeg (eCst (.int 1))) aNil))))) b_p_law_errors_2) (sRt (mSh (eBin pyEq (eVar 5) (eCst (.int 12)))))))))))
def F_p_law_errors : List PV → R OV := defF 9 5 s_p_law_errors
theorem F_p_law_errors_at {a0 a1 a2 a3 a4 : PV} : F_p_law_errors [a0, a1, a2, a3, a4] = outS (s_p_law_errors [some (.sh a0), some (.sh a1), some (.sh a2), some (.sh a3), some (.sh a4), none, none, none, none]) := rfl
/-- Game.turned: slots 0 self, 1 mark -/
def c_Game_turned_1 : L3.Env → R OV := (fSh (eIdx (eCst (.tup [(.int 0), (.int 2), (.int 1), (.int 4), (.int 3), (.int 5)])) (eVar 1)))
def s_Game_turned  : L3.Env → RS := (sRt (mFr (fMake true 7 F_Game_init [] (aCons (eFz (fLc (.nm 1) [1] (iSeq (eFld "marks" ok_marks (eVar 0))) tYesB c_Game_turned_1)) (aCons (eFld "moves" ok_moves (eVar 0)) (aCons (eFld "safe" ok_safe (eVar 0)) aNil))))))
def F_Game_turned : List PV → R OV := defF 2 1 s_Game_turned
theorem F_Game_turned_at {a0 : PV} : F_Game_turned [a0] = outS (s_Game_turned [some (.sh a0), none]) := rfl
/-- Game.with_move: slots 0 self, 1 position, 2 index, 3 need, 4 drop, 5 row, 6 moves -/
def s_Game_with_move  : L3.Env → RS := (sSeq (sSet 5 (mFr (fB bList (aCons (eIdx (eFld "moves" ok_moves (eVar 0)) (eFz (fMeth true 7 "checked" F_Game_checked [] (eVar 0) (aCons (eVar 1) aNil)))) aNil)))) (sSeq (sIf (bOr (eTst (eBin pyLt (eVar 2) (eCst (.int 0)))) (eTst (eBin pyGe (eVar 2) (eB bLen (aCons (eOwn 5) aNil))))) (sRz 5 "move" (eVar 2)) sNx) (sSeq (sSt (pVar 5) (eVar 2) (mSh (eFlat (eTup (aCons (eIdx (eIdx (eOwn 5) (eVar 2)) (eCst (.int 0))) (aCons (eIdx (eIdx (eOwn 5) (eVar 2)) (eCst (.int 1))) (aCons (eVar 3) (aCons (eVar 4) aNil)))))))) (sSeq (sSet 6 (mFr (fB bList (aCons (eFld "moves" ok_moves (eVar 0)) aNil)))) (sSeq (sSt (pVar 6) (eVar 1) (mMv 5)) (sRt (mFr (fMake false 7 F_Game_init [] (aCons (eFld "marks" ok_marks (eVar 0)) (aCons (eOwn 6) (aCons (eFld "safe" ok_safe (eVar 0)) aNil)))))))))))
def F_Game_with_move : List PV → R OV := defF 7 5 s_Game_with_move
theorem F_Game_with_move_at {a0 a1 a2 a3 a4 : PV} : F_Game_with_move [a0, a1, a2, a3, a4] = outS (s_Game_with_move [some (.sh a0), some (.sh a1), some (.sh a2), some (.sh a3), some (.sh a4), none, none]) := rfl
/-- Game.with_safe: slots 0 self, 1 safe -/
def s_Game_with_safe  : L3.Env → RS := (sRt (mFr (fMake true 7 F_Game_init [] (aCons (eFld "marks" ok_marks (eVar 0)) (aCons (eFld "moves" ok_moves (eVar 0)) (aCons (eVar 1) aNil))))))
def F_Game_with_safe : List PV → R OV := defF 2 2 s_Game_with_safe
theorem F_Game_with_safe_at {a0 a1 : PV} : F_Game_with_safe [a0, a1] = outS (s_Game_with_safe [some (.sh a0), some (.sh a1)]) := rfl
/-- _law_bad: slots 0 marks, 1 moves, 2 safe, 3 position, 4 e -/
def s_p_law_bad  : L3.Env → RS := (sSeq (sTry (sDo (fMake true 7 F_Game_init [] (aCons (eVar 0) (aCons (eVar 1) (aCons (eVar 2) aNil))))) (⟨mt_BadGame, some 4, fun x => (sRt (mSh (eAnd (eFz (fCall true F_p_law_is [] (aCons (eXf okx_position x "position") (aCons (eVar 3) aNil)))) (eAnd (eXi ib_Fault x) (eNot (eXi ib_NoPosition x))))))⟩ :: [])) (sRt (mSh (eCst (.bl false)))))
def F_p_law_bad : List PV → R OV := defF 5 4 s_p_law_bad
theorem F_p_law_bad_at {a0 a1 a2 a3 : PV} : F_p_law_bad [a0, a1, a2, a3] = outS (s_p_law_bad [some (.sh a0), some (.sh a1), some (.sh a2), some (.sh a3), none]) := rfl
/-- _law_base: slots 0 marks, 1 moves, 2 e -/
def s_p_law_base  : L3.Env → RS := (sSeq (sTry (sDo (fMake true 7 F_Game_init [] (aCons (eVar 0) (aCons (eVar 1) (aCons (eFz (fLst (aCons (eUn pyNeg (eCst (.int 1))) aNil))) aNil))))) (⟨mt_Fault, some 2, fun x => (sRt (mSh (eAnd (eXi ib_ValueError x) (eXi ib_BadGame x))))⟩ :: [])) (sRt (mSh (eCst (.bl false)))))
def F_p_law_base : List PV → R OV := defF 3 2 s_p_law_base
theorem F_p_law_base_at {a0 a1 : PV} : F_p_law_base [a0, a1] = outS (s_p_law_base [some (.sh a0), some (.sh a1), none]) := rfl
/-- _law_place: slots 0 game, 1 position, 2 marks, 3 moves, 4 safe, 5 big, 6 mark, 7 mover, 8 told, 9 e, 10 amount, 11 due, 12 index, 13 k, 14 move -/
def t_p_law_place_1 : L3.Env → R Bool := (eTst (eBin pyLe (eIdx (eIdx (eIdx (eVar 3) (eVar 1)) (eVar 13)) (eCst (.int 2))) (eVar 10)))
def c_p_law_place_1 : L3.Env → R OV := (fSh (eVar 13))
def b_p_law_place_1 : L3.Env → RS := (sIf (bNot (eTst (eFz (fCall true F_p_law_standing [] (aCons (eVar 0) (aCons (eVar 1) (aCons (eVar 10) (aCons (eBin pySub (eVar 5) (eVar 10)) (aCons (eVar 12) (aCons (eVar 2) (aCons (eVar 3) aNil))))))))))) (sRt (mSh (eCst (.bl false)))) sNx)
def b_p_law_place_2 : L3.Env → RS := (sSeq (sSet 8 (mSh (eFz (fCall true F_allowed_moves [] (aCons (eVar 0) (aCons (eVar 1) (aCons (eVar 10) aNil))))))) (sSeq (sSet 11 (mFr (fLc (.nm 13) [13] (iRg rng1R (aCons (eB bLen (aCons (eIdx (eVar 3) (eVar 1)) aNil)) aNil)) t_p_law_place_1 c_p_law_place_1))) (sFz 11 (sSeq (sIf (bOr (bNot (eTst (eIsi (tbT "list") ibN (eVar 8)))) (eTst (eBin pyNe (eVar 8) (eVar 11)))) (sRt (mSh (eCst (.bl false)))) sNx) (sFor (.nm 12) [12] (iRg rng1R (aCons (eB bLen (aCons (eIdx (eVar 3) (eVar 1)) aNil)) aNil)) b_p_law_place_1)))))
def b_p_law_place_3 : L3.Env → RS := (sIf (bNot (eTst (eFz (fCall true F_p_law_is [] (aCons (eFz (fMeth true 7 "index_of" F_Game_index_of [] (eVar 0) (aCons (eVar 1) (aCons (eIdx (eIdx (eIdx (eVar 3) (eVar 1)) (eVar 12)) (eCst (.int 0))) aNil)))) (aCons (eVar 12) aNil)))))) (sRt (mSh (eCst (.bl false)))) sNx)
def c_p_law_place_2 : L3.Env → R OV := (fSh (eIdx (eVar 14) (eCst (.int 0))))
def s_p_law_place  : L3.Env → RS := (sSeq (sSet 6 (mSh (eIdx (eVar 2) (eVar 1)))) (sSeq (sSet 7 (mSh (eIf (eTst (eBin pyLt (eVar 6) (eCst (.int 3)))) (eVar 6) (eCst (.int 0))))) (sSeq (sSet 8 (mSh (eFz (fMeth true 7 "is_safe" F_Game_is_safe [] (eVar 0) (aCons (eVar 1) aNil))))) (sSeq (sIf (bOr (bNot (eTst (eFz (fCall true F_p_law_is [] (aCons (eFz (fMeth true 7 "mover" F_Game_mover [] (eVar 0) (aCons (eVar 1) aNil))) (aCons (eVar 7) aNil)))))) (bOr (bNot (eTst (eIsi (tbT "bool") ibN (eVar 8)))) (eTst (eBin pyNe (eVar 8) (eBin (pyIn false) (eVar 1) (eVar 4)))))) (sRt (mSh (eCst (.bl false)))) sNx) (sSeq (sIf (bNot (eTst (eFz (fCall true F_p_law_is [] (aCons (eFz (fCall true F_ended_outcome [] (aCons (eVar 0) (aCons (eVar 1) aNil)))) (aCons (eIdx (eFz (fLst (aCons (eCst .non) (aCons (eCst .non) (aCons (eCst .non) (aCons (eCst (.int 1)) (aCons (eCst (.int 2)) (aCons (eCst (.int 0)) aNil)))))))) (eVar 6)) aNil)))))) (sRt (mSh (eCst (.bl false)))) sNx) (sSeq (sTry (sSeq (sSet 8 (mSh (eFz (fCall true F_flag_outcome [] (aCons (eVar 0) (aCons (eVar 1) aNil)))))) (sIf (bOr (eTst (eBin pyEq (eVar 7) (eCst (.int 0)))) (bNot (eTst (eFz (fCall true F_p_law_is [] (aCons (eVar 8) (aCons (eIf (eTst (eBin (pyIn false) (eVar 1) (eVar 4))) (eCst (.int 0)) (eBin pySub (eCst (.int 3)) (eVar 7))) aNil))))))) (sRt (mSh (eCst (.bl false)))) sNx)) (⟨mt_NoPosition, some 9, fun x => (sIf (bOr (eTst (eBin pyGt (eVar 7) (eCst (.int 0)))) (bNot (eTst (eFz (fCall true F_p_law_is [] (aCons (eXf okx_position x "position") (aCons (eVar 1) aNil))))))) (sRt (mSh (eCst (.bl false)))) sNx)⟩ :: [])) (sSeq (sFor (.nm 10) [8, 10, 11, 12] (iSeq (eFz (fLst (aCons (eCst (.int 0)) (aCons (eBin pyAdd (eCst (.int 1)) (eBin pyMod (eVar 1) (eCst (.int 9)))) (aCons (eCst (.int 9)) (aCons (eVar 5) aNil))))))) b_p_law_place_2) (sSeq (sFor (.nm 12) [12] (iRg rng1R (aCons (eB bLen (aCons (eIdx (eVar 3) (eVar 1)) aNil)) aNil)) b_p_law_place_3) (sSeq (sTry (sDo (fMeth true 7 "index_of" F_Game_index_of [] (eVar 0) (aCons (eVar 1) (aCons (eBin pyAdd (eCst (.str "nosuch")) (eB bStr (aCons (eBin pyMod (eVar 1) (eCst (.int 10))) aNil))) aNil)))) (⟨mt_NoMove, some 9, fun x => (sRt (mSh (eAnd (eBin pyEq (eXf okx_move x "move") (eBin pyAdd (eCst (.str "nosuch")) (eB bStr (aCons (eBin pyMod (eVar 1) (eCst (.int 10))) aNil)))) (eAnd (eXi ib_Fault x) (eNot (eXi ib_NoTime x))))))⟩ :: [])) (sRt (mSh (eBin (pyIn false) (eBin pyAdd (eCst (.str "nosuch")) (eB bStr (aCons (eBin pyMod (eVar 1) (eCst (.int 10))) aNil))) (eFz (fLc (.nm 14) [14] (iSeq (eIdx (eVar 3) (eVar 1))) tYesB c_p_law_place_2))))))))))))))
def F_p_law_place : List PV → R OV := defF 15 6 s_p_law_place
theorem F_p_law_place_at {a0 a1 a2 a3 a4 a5 : PV} : F_p_law_place [a0, a1, a2, a3, a4, a5] = outS (s_p_law_place [some (.sh a0), some (.sh a1), some (.sh a2), some (.sh a3), some (.sh a4), some (.sh a5), none, none, none, none, none, none, none, none, none]) := rfl
/-- _law_refusals: slots 0 marks, 1 moves, 2 safe, 3 way, 4 cell, 5 size, 6 movers, 7 ends, 8 position, 9 first, 10 worse, 11 row, 12 at, 13 twice, 14 wrong, 15 k -/
def t_p_law_refusals_1 : L3.Env → R Bool := (eTst (eBin pyLt (eIdx (eVar 0) (eVar 8)) (eCst (.int 3))))
def c_p_law_refusals_1 : L3.Env → R OV := (fSh (eVar 8))
def t_p_law_refusals_2 : L3.Env → R Bool := (eTst (eBin pyGt (eIdx (eVar 0) (eVar 8)) (eCst (.int 2))))
def c_p_law_refusals_2 : L3.Env → R OV := (fSh (eVar 8))
def b_p_law_refusals_1 : L3.Env → RS := (sSeq (sIf (bNot (eTst (eFz (fCall true F_p_law_bad [] (aCons (eVar 0) (aCons (eVar 1) (aCons (eFz (fLst (aCons (eVar 8) aNil))) (aCons (eVar 8) aNil)))))))) (sRt (mSh (eCst (.bl false)))) sNx) (sSeq (sIf (bNot (eTst (eFz (fCall true F_p_law_bad [] (aCons (eVar 0) (aCons (eBin pyAdd (eBin pyAdd (eSl (eVar 1) oNone (oSome (eVar 8))) (eFz (fLst (aCons (eFz (fLst (aCons (eTup (aCons (eCst (.str "a")) (aCons (eCst (.int 0)) (aCons (eCst (.int 1)) (aCons (eCst (.int 1)) aNil))))) aNil))) aNil)))) (eSl (eVar 1) (oSome (eBin pyAdd (eVar 8) (eCst (.int 1)))) oNone)) (aCons (eVar 2) (aCons (eVar 8) aNil)))))))) (sRt (mSh (eCst (.bl false)))) sNx) (sIf (bNot (eTst (eFz (fCall true F_p_law_bad [] (aCons (eBin pyAdd (eBin pyAdd (eSl (eVar 0) oNone (oSome (eVar 8))) (eFz (fLst (aCons (eBin pyMul (eCst (.int 6)) (eBin pyMod (eVar 4) (eCst (.int 2)))) aNil)))) (eSl (eVar 0) (oSome (eBin pyAdd (eVar 8) (eCst (.int 1)))) oNone)) (aCons (eVar 1) (aCons (eFz (fLst aNil)) (aCons (eVar 8) aNil)))))))) (sRt (mSh (eCst (.bl false)))) sNx)))
def b_p_law_refusals_2 : L3.Env → RS := (sIf (eTst (eBin pyGe (eVar 8) (eVar 9))) (sSeq (sSet 11 (mFr (fB bList (aCons (eIdx (eVar 1) (eVar 8)) aNil)))) (sSeq (sSet 12 (mSh (eFlat (eBin pyMod (eBin pyFdiv (eVar 4) (eCst (.int 7))) (eB bLen (aCons (eOwn 11) aNil)))))) (sSeq (sSt (pVar 11) (eVar 12) (mSh (eFz (fCall false F_p_law_broken [] (aCons (eIdx (eOwn 11) (eVar 12)) (aCons (eVar 3) (aCons (eVar 5) aNil))))))) (sSt (pVar 10) (eVar 8) (mMv 11))))) sNx)
def c_p_law_refusals_3 : L3.Env → R OV := (fSh (eTup (aCons (eBin pyAdd (eCst (.str "a")) (eB bStr (aCons (eVar 15) aNil))) (aCons (eVar 9) (aCons (eCst (.int 0)) (aCons (eCst (.int 0)) aNil))))))
def b_p_law_refusals_3 : L3.Env → RS := (sIf (bNot (eTst (eFz (fCall true F_p_law_bad [] (aCons (eVar 0) (aCons (eBin pyAdd (eBin pyAdd (eSl (eVar 1) oNone (oSome (eVar 9))) (eFz (fLst (aCons (eVar 14) aNil)))) (eSl (eVar 1) (oSome (eBin pyAdd (eVar 9) (eCst (.int 1)))) oNone)) (aCons (eVar 2) (aCons (eVar 9) aNil)))))))) (sRt (mSh (eCst (.bl false)))) sNx)
def s_p_law_refusals  : L3.Env → RS := (sSeq (sSet 5 (mSh (eB bLen (aCons (eVar 0) aNil)))) (sSeq (sSet 6 (mFr (fLc (.nm 8) [8] (iRg rng1R (aCons (eVar 5) aNil)) t_p_law_refusals_1 c_p_law_refusals_1))) (sFz 6 (sSeq (sSet 7 (mFr (fLc (.nm 8) [8] (iRg rng1R (aCons (eVar 5) aNil)) t_p_law_refusals_2 c_p_law_refusals_2))) (sFz 7 (sSeq (sIf (bOr (bNot (eTst (eFz (fCall true F_p_law_bad [] (aCons (eBin pyAdd (eVar 0) (eFz (fLst (aCons (eCst (.int 5)) aNil)))) (aCons (eVar 1) (aCons (eVar 2) (aCons (eUn pyNeg (eCst (.int 1))) aNil)))))))) (bNot (eTst (eFz (fCall true F_p_law_bad [] (aCons (eFz (fLst aNil)) (aCons (eFz (fLst aNil)) (aCons (eFz (fLst aNil)) (aCons (eUn pyNeg (eCst (.int 1))) aNil))))))))) (sRt (mSh (eCst (.bl false)))) sNx) (sSeq (sIf (bOr (bNot (eTst (eFz (fCall true F_p_law_bad [] (aCons (eVar 0) (aCons (eVar 1) (aCons (eFz (fLst (aCons (eVar 5) aNil))) (aCons (eUn pyNeg (eCst (.int 1))) aNil)))))))) (bNot (eTst (eFz (fCall true F_p_law_bad [] (aCons (eVar 0) (aCons (eVar 1) (aCons (eFz (fLst (aCons (eUn pyNeg (eCst (.int 1))) aNil))) (aCons (eUn pyNeg (eCst (.int 1))) aNil))))))))) (sRt (mSh (eCst (.bl false)))) sNx) (sSeq (sFor (.nm 8) [8] (iSeq (eVar 7)) b_p_law_refusals_1) (sSeq (sIf (eTst (eBin pyEq (eB bLen (aCons (eVar 6) aNil)) (eCst (.int 0)))) (sRt (mSh (eCst (.bl true)))) sNx) (sSeq (sSet 9 (mSh (eIdx (eVar 6) (eBin pyMod (eVar 4) (eB bLen (aCons (eVar 6) aNil)))))) (sSeq (sIf (bNot (eTst (eFz (fCall true F_p_law_bad [] (aCons (eVar 0) (aCons (eVar 1) (aCons (eFz (fLst (aCons (eVar 9) (aCons (eVar 9) aNil)))) (aCons (eUn pyNeg (eCst (.int 1))) aNil)))))))) (sRt (mSh (eCst (.bl false)))) sNx) (sSeq (sSet 10 (mFr (fB bList (aCons (eVar 1) aNil)))) (sSeq (sFor (.nm 8) [8, 11, 12] (iSeq (eVar 6)) b_p_law_refusals_2) (sSeq (sIf (bNot (eTst (eFz (fCall false F_p_law_bad [] (aCons (eVar 0) (aCons (eOwn 10) (aCons (eVar 2) (aCons (eVar 9) aNil)))))))) (sRt (mSh (eCst (.bl false)))) sNx) (sSeq (sSet 11 (mFr (fB bList (aCons (eIdx (eVar 1) (eVar 9)) aNil)))) (sFz 11 (sSeq (sSet 13 (mSh (eBin pyAdd (eSl (eVar 11) oNone (oSome (eCst (.int 16)))) (eFz (fLst (aCons (eIdx (eVar 11) (eBin pyMod (eBin pyFdiv (eVar 4) (eCst (.int 11))) (eB bLen (aCons (eVar 11) aNil)))) aNil)))))) (sSeq (sFor (.nm 14) [14, 15] (iSeq (eFz (fLst (aCons (eFz (fLst aNil)) (aCons (eVar 13) (aCons (eFz (fLc (.nm 15) [15] (iRg rng1R (aCons (eCst (.int 17)) aNil)) tYesB c_p_law_refusals_3)) aNil)))))) b_p_law_refusals_3) (sRt (mSh (eOr (eBin pyLt (eB bLen (aCons (eVar 6) aNil)) (eCst (.int 2))) (eFz (fCall true F_p_law_bad [] (aCons (eVar 0) (aCons (eVar 1) (aCons (eFz (fLst (aCons (eIdx (eVar 6) (eCst (.int 1))) (aCons (eIdx (eVar 6) (eCst (.int 0))) aNil)))) (aCons (eUn pyNeg (eCst (.int 1))) aNil)))))))))))))))))))))))))))
def F_p_law_refusals : List PV → R OV := defF 16 5 s_p_law_refusals
theorem F_p_law_refusals_at {a0 a1 a2 a3 a4 : PV} : F_p_law_refusals [a0, a1, a2, a3, a4] = outS (s_p_law_refusals [some (.sh a0), some (.sh a1), some (.sh a2), some (.sh a3), some (.sh a4), none, none, none, none, none, none, none, none, none, none, none]) := rfl
/-- _law_changed: slots 0 game, 1 marks, 2 moves, 3 safe, 4 position, 5 cell, 6 index, 7 word, 8 target, 9 need, 10 drop, 11 due, 12 told, 13 found, 14 way, 15 e, 16 other, 17 guarded, 18 row, 19 at -/
def c_p_law_changed_1 : L3.Env → R OV := (fB bList (aCons (eVar 18) aNil))
def c_p_law_changed_2 : L3.Env → R OV := (fSh (eB bTuple (aCons (eVar 18) aNil)))
def c_p_law_changed_3 : L3.Env → R OV := (fSh (eB bTuple (aCons (eVar 18) aNil)))
def b_p_law_changed_1 : L3.Env → RS := (sTry (sDo (fMeth true 7 "with_move" F_Game_with_move [] (eVar 0) (aCons (eVar 4) (aCons (eIdx (eFz (fLst (aCons (eVar 6) (aCons (eVar 6) (aCons (eB bLen (aCons (eIdx (eVar 2) (eVar 4)) aNil)) (aCons (eUn pyNeg (eCst (.int 1))) aNil)))))) (eVar 14)) (aCons (eIdx (eFz (fLst (aCons (eCst (.int 10)) (aCons (eCst (.int 3)) (aCons (eCst (.int 99)) (aCons (eCst (.int 3)) aNil)))))) (eVar 14)) (aCons (eIdx (eFz (fLst (aCons (eCst (.int 10)) (aCons (eCst (.int 4)) (aCons (eCst (.int 0)) (aCons (eCst (.int 3)) aNil)))))) (eVar 14)) aNil)))))) (⟨mt_BadGame, some 15, fun x => (sSet 13 (mSh (eBin pyAdd (eVar 13) (eB bInt (aCons (eAnd (eBin pyLt (eVar 14) (eCst (.int 2))) (eFz (fCall true F_p_law_is [] (aCons (eXf okx_position x "position") (aCons (eVar 4) aNil))))) aNil)))))⟩ :: (⟨mt_NoMove, some 15, fun x => (sSet 13 (mSh (eBin pyAdd (eVar 13) (eB bInt (aCons (eAnd (eBin pyGt (eVar 14) (eCst (.int 1))) (eFz (fCall true F_p_law_is [] (aCons (eXf okx_move x "move") (aCons (eIdx (eFz (fLst (aCons (eCst (.int 0)) (aCons (eCst (.int 0)) (aCons (eB bLen (aCons (eIdx (eVar 2) (eVar 4)) aNil)) (aCons (eUn pyNeg (eCst (.int 1))) aNil)))))) (eVar 14)) aNil))))) aNil)))))⟩ :: [])))
def t_p_law_changed_1 : L3.Env → R Bool := (bAnd (eTst (eBin pyLt (eIdx (eVar 1) (eVar 19)) (eCst (.int 3)))) (eTst (eBin (pyIn true) (eVar 19) (eVar 3))))
def c_p_law_changed_4 : L3.Env → R OV := (fSh (eVar 19))
def s_p_law_changed  : L3.Env → RS := (sSeq (sSet 6 (mSh (eBin pyMod (eVar 5) (eB bLen (aCons (eIdx (eVar 2) (eVar 4)) aNil))))) (sSeq (sTg (.tp [7, 8, 9, 10]) (eIdx (eIdx (eVar 2) (eVar 4)) (eVar 6))) (sSeq (sSet 11 (mFr (fLc (.nm 18) [18] (iSeq (eVar 2)) tYesB c_p_law_changed_1))) (sSeq (sSt (pIx (pVar 11) (eVar 4)) (eVar 6) (mSh (eTup (aCons (eVar 7) (aCons (eVar 8) (aCons (eBin pyMod (eBin pyFdiv (eVar 5) (eCst (.int 17))) (eCst (.int 10))) (aCons (eBin pyMod (eBin pyFdiv (eVar 5) (eCst (.int 170))) (eBin pyAdd (eCst (.int 1)) (eBin pyMod (eBin pyFdiv (eVar 5) (eCst (.int 17))) (eCst (.int 10))))) aNil))))))) (sSeq (sSet 12 (mSh (eFz (fMeth false 7 "with_move" F_Game_with_move [] (eVar 0) (aCons (eVar 4) (aCons (eVar 6) (aCons (eIdx (eIdx (eIdx (eOwn 11) (eVar 4)) (eVar 6)) (eCst (.int 2))) (aCons (eIdx (eIdx (eIdx (eOwn 11) (eVar 4)) (eVar 6)) (eCst (.int 3))) aNil)))))))) (sFz 11 (sSeq (sIf (bOr (eTst (eBin pyNe (eFld "moves" ok_moves (eVar 12)) (eB bTuple (aCons (eFz (fLc (.nm 18) [18] (iSeq (eVar 11)) tYesB c_p_law_changed_3)) aNil)))) (bOr (eTst (eBin pyNe (eFld "marks" ok_marks (eVar 12)) (eB bTuple (aCons (eVar 1) aNil)))) (eTst (eBin pyNe (eFld "safe" ok_safe (eVar 12)) (eB bTuple (aCons (eVar 3) aNil)))))) (sRt (mSh (eCst (.bl false)))) sNx) (sSeq (sIf (bOr (eTst (eBin pyNe (eEqO false 7 F_Game_eq (eVar 12) (eVar 0)) (eBin pyEq (eIdx (eIdx (eVar 11) (eVar 4)) (eVar 6)) (eIdx (eIdx (eVar 2) (eVar 4)) (eVar 6))))) (eTst (eBin pyNe (eIdx (eIdx (eIdx (eFld "moves" ok_moves (eVar 0)) (eVar 4)) (eVar 6)) (eCst (.int 2))) (eVar 9)))) (sRt (mSh (eCst (.bl false)))) sNx) (sSeq (sSet 13 (mSh (eCst (.int 0)))) (sSeq (sFor (.nm 14) [14, 15] (iRg rng1R (aCons (eCst (.int 4)) aNil)) b_p_law_changed_1) (sSeq (sSet 16 (mFr (fLc (.nm 19) [19] (iRg rng1R (aCons (eB bLen (aCons (eVar 1) aNil)) aNil)) t_p_law_changed_1 c_p_law_changed_4))) (sFz 16 (sSeq (sSet 17 (mSh (eFz (fMeth true 7 "with_safe" F_Game_with_safe [] (eVar 0) (aCons (eVar 16) aNil))))) (sSeq (sIf (bOr (eTst (eBin pyNe (eFld "safe" ok_safe (eVar 17)) (eB bTuple (aCons (eVar 16) aNil)))) (bOr (eTst (eBin pyNe (eFld "moves" ok_moves (eVar 17)) (eFld "moves" ok_moves (eVar 0)))) (eTst (eBin pyNe (eEqO false 7 F_Game_eq (eVar 17) (eVar 0)) (eBin pyEq (eVar 16) (eVar 3)))))) (sRt (mSh (eCst (.bl false)))) sNx) (sRt (mSh (eBin pyEq (eVar 13) (eCst (.int 4)))))))))))))))))))
def F_p_law_changed : List PV → R OV := defF 20 6 s_p_law_changed
theorem F_p_law_changed_at {a0 a1 a2 a3 a4 a5 : PV} : F_p_law_changed [a0, a1, a2, a3, a4, a5] = outS (s_p_law_changed [some (.sh a0), some (.sh a1), some (.sh a2), some (.sh a3), some (.sh a4), some (.sh a5), none, none, none, none, none, none, none, none, none, none, none, none, none, none]) := rfl
/-- law: slots 0 script, 1 marks, 2 moves, 3 safe, 4 size, 5 handed, 6 game, 7 n, 8 big, 9 position, 10 turned, 11 due, 12 told, 13 many, 14 row, 15 mark, 16 at, 17 k -/
def c_law_1 : L3.Env → R OV := (fB bList (aCons (eVar 14) aNil))
def c_law_2 : L3.Env → R OV := (fB bList (aCons (eVar 14) aNil))
def c_law_3 : L3.Env → R OV := (fSh (eB bTuple (aCons (eVar 14) aNil)))
def b_law_1 : L3.Env → RS := (sIf (bNot (eTst (eFz (fCall true F_p_law_place [] (aCons (eVar 6) (aCons (eVar 9) (aCons (eVar 1) (aCons (eVar 2) (aCons (eVar 3) (aCons (eVar 8) aNil)))))))))) (sRt (mSh (eCst (.bl false)))) sNx)
def c_law_4 : L3.Env → R OV := (fSh (eIdx (eFz (fLst (aCons (eCst (.int 0)) (aCons (eCst (.int 2)) (aCons (eCst (.int 1)) (aCons (eCst (.int 4)) (aCons (eCst (.int 3)) (aCons (eCst (.int 5)) aNil)))))))) (eVar 15)))
def c_law_5 : L3.Env → R OV := (fSh (eIdx (eFz (fLst (aCons (eCst (.int 0)) (aCons (eCst (.int 2)) (aCons (eCst (.int 1)) (aCons (eCst (.int 4)) (aCons (eCst (.int 3)) (aCons (eCst (.int 5)) aNil)))))))) (eVar 15)))
def t_law_1 : L3.Env → R Bool := (eTst (eBin pyLt (eIdx (eVar 1) (eVar 16)) (eCst (.int 3))))
def c_law_6 : L3.Env → R OV := (fSh (eVar 16))
def b_law_2 : L3.Env → RS := (sSeq (sIf (bNot (eTst (eFz (fCall true F_p_law_changed [] (aCons (eVar 6) (aCons (eVar 1) (aCons (eVar 2) (aCons (eVar 3) (aCons (eVar 9) (aCons (eBin pyAdd (eIdx (eVar 7) (eCst (.int 1))) (eBin pyMul (eCst (.int 37)) (eVar 9))) aNil)))))))))) (sRt (mSh (eCst (.bl false)))) sNx) (sIf (bNot (eTst (eFz (fCall true F_p_law_errors [] (aCons (eVar 6) (aCons (eVar 4) (aCons (eVar 9) (aCons (eB bLen (aCons (eIdx (eVar 2) (eVar 9)) aNil)) (aCons (eBin pyPow (eCst (.int 10)) (eCst (.int 30))) aNil))))))))) (sRt (mSh (eCst (.bl false)))) sNx))
def c_law_7 : L3.Env → R OV := (fSh (eFz (fLst aNil)))
def c_law_8 : L3.Env → R OV := (fSh (eFz (fLst aNil)))
def c_law_9 : L3.Env → R OV := (fSh (eFz (fLst aNil)))
def c_law_10 : L3.Env → R OV := (fSh (eFz (fLst aNil)))
def s_law  : L3.Env → RS := (sSeq (sTg (.tp [1, 2, 3]) (eFz (fCall true F_p_law_build [] (aCons (eVar 0) aNil)))) (sSeq (sSet 4 (mSh (eB bLen (aCons (eVar 1) aNil)))) (sSeq (sSet 5 (mFr (fLstO (oCons (fLstO (oCons (fB bList (aCons (eVar 1) aNil)) (oCons (fLc (.nm 14) [14] (iSeq (eVar 2)) tYesB c_law_2) (oCons (fB bList (aCons (eVar 3) aNil)) oNil)))) (oCons (fLstO (oCons (fB bList (aCons (eVar 1) aNil)) (oCons (fLc (.nm 14) [14] (iSeq (eVar 2)) tYesB c_law_1) (oCons (fB bList (aCons (eVar 3) aNil)) oNil)))) oNil))))) (sSeq (sSet 6 (mSh (eFz (fMake false 7 F_Game_init [] (aCons (eIdx (eIdx (eOwn 5) (eCst (.int 0))) (eCst (.int 0))) (aCons (eIdx (eIdx (eOwn 5) (eCst (.int 0))) (eCst (.int 1))) (aCons (eIdx (eIdx (eOwn 5) (eCst (.int 0))) (eCst (.int 2))) aNil))))))) (sSeq (sIf (eTst (eBin pyNe (eIdx (eOwn 5) (eCst (.int 0))) (eIdx (eOwn 5) (eCst (.int 1))))) (sRt (mSh (eCst (.bl false)))) sNx) (sSeq (sSt (pIx (pIx (pVar 5) (eCst (.int 0))) (eCst (.int 0))) (eCst (.int 0)) (mSh (eCst (.int 9)))) (sSeq (sApp (pIx (pIx (pIx (pVar 5) (eCst (.int 0))) (eCst (.int 1))) (eCst (.int 0))) (mSh (eTup (aCons (eCst (.str "late")) (aCons (eCst (.int 0)) (aCons (eCst (.int 0)) (aCons (eCst (.int 0)) aNil))))))) (sSeq (sApp (pIx (pIx (pVar 5) (eCst (.int 0))) (eCst (.int 2))) (mSh (eCst (.int 0)))) (sSeq (sIf (bOr (bNot (eTst (eFz (fCall true F_p_law_is [] (aCons (eFld "size" ok_size (eVar 6)) (aCons (eVar 4) aNil)))))) (bOr (eTst (eBin pyNe (eFld "marks" ok_marks (eVar 6)) (eB bTuple (aCons (eVar 1) aNil)))) (eTst (eBin pyNe (eFld "safe" ok_safe (eVar 6)) (eB bTuple (aCons (eVar 3) aNil)))))) (sRt (mSh (eCst (.bl false)))) sNx) (sSeq (sIf (eTst (eBin pyNe (eFld "moves" ok_moves (eVar 6)) (eB bTuple (aCons (eFz (fLc (.nm 14) [14] (iSeq (eVar 2)) tYesB c_law_3)) aNil)))) (sRt (mSh (eCst (.bl false)))) sNx) (sSeq (sSet 7 (mSh (eFz (fCall true F_p_law_numbers [] (aCons (eFz (fCall true F_p_law_cell [] (aCons (eVar 0) (aCons (eCst (.int 11)) aNil)))) (aCons (eCst (.int 11)) (aCons (eCst (.int 4)) (aCons (eCst (.int 5000)) aNil)))))))) (sSeq (sSet 8 (mSh (eBin pySub (eBin pyPow (eCst (.int 10)) (eCst (.int 30))) (eBin pyMul (eBin pyMod (eB bInt (aCons (eB bAbs (aCons (eFz (fCall true F_p_law_cell [] (aCons (eVar 0) (aCons (eCst (.int 12)) aNil)))) aNil)) aNil)) (eBin pyPow (eCst (.int 10)) (eCst (.int 20)))) (eBin pyMod (eIdx (eVar 7) (eCst (.int 0))) (eCst (.int 2))))))) (sSeq (sFor (.nm 9) [9] (iRg rng1R (aCons (eVar 4) aNil)) b_law_1) (sSeq (sSet 10 (mSh (eFz (fMeth true 7 "turned" F_Game_turned [] (eVar 6) aNil)))) (sSeq (sIf (bOr (eTst (eBin pyNe (eFld "marks" ok_marks (eVar 10)) (eB bTuple (aCons (eFz (fLc (.nm 15) [15] (iSeq (eVar 1)) tYesB c_law_5)) aNil)))) (eTst (eBin pyNe (eFld "moves" ok_moves (eVar 10)) (eFld "moves" ok_moves (eVar 6))))) (sRt (mSh (eCst (.bl false)))) sNx) (sSeq (sIf (bOr (eTst (eBin pyNe (eFld "safe" ok_safe (eVar 10)) (eFld "safe" ok_safe (eVar 6)))) (bOr (bNot (eTst (eEqO false 7 F_Game_eq (eFz (fMeth true 7 "turned" F_Game_turned [] (eVar 10) aNil)) (eVar 6)))) (eTst (eBin pyNe (eEqO false 7 F_Game_eq (eVar 10) (eVar 6)) (eBin pyEq (eB bMin (aCons (eVar 1) aNil)) (eCst (.int 5))))))) (sRt (mSh (eCst (.bl false)))) sNx) (sSeq (sSet 11 (mSh (eFz (fCall true F_p_law_hopeless [] (aCons (eVar 1) (aCons (eVar 2) aNil)))))) (sSeq (sSet 12 (mSh (eFz (fCall true F_hopeless [] (aCons (eVar 6) aNil))))) (sSeq (sIf (bOr (bNot (eTst (eIsi (tbT "list") ibN (eVar 12)))) (bOr (eTst (eBin pyNe (eVar 12) (eVar 11))) (eTst (eBin pyNe (eFz (fCall true F_hopeless [] (aCons (eFz (fMeth true 7 "with_safe" F_Game_with_safe [] (eVar 6) (aCons (eVar 11) aNil))) aNil))) (eVar 11))))) (sRt (mSh (eCst (.bl false)))) sNx) (sSeq (sFor (.nm 9) [9, 16] (iSeq (eFz (fLc (.nm 16) [16] (iRg rng1R (aCons (eVar 4) aNil)) t_law_1 c_law_6))) b_law_2) (sSeq (sIf (bNot (eTst (eFz (fCall true F_p_law_base [] (aCons (eVar 1) (aCons (eVar 2) aNil)))))) (sRt (mSh (eCst (.bl false)))) sNx) (sSeq (sSet 13 (mSh (eBin pyAdd (eCst (.int 1000)) (eBin pyMod (eIdx (eVar 7) (eCst (.int 2))) (eCst (.int 2)))))) (sSeq (sIf (bAnd (eTst (eBin pyEq (eVar 13) (eCst (.int 1000)))) (eTst (eBin pyNe (eFld "size" ok_size (eFz (fMake true 7 F_Game_init [(.tup [])] (aCons (eBin pyMul (eFz (fLst (aCons (eCst (.int 5)) aNil))) (eCst (.int 1000))) (aCons (eFz (fLc (.nm 17) [17] (iRg rng1R (aCons (eCst (.int 1000)) aNil)) tYesB c_law_8)) aNil))))) (eCst (.int 1000))))) (sRt (mSh (eCst (.bl false)))) sNx) (sSeq (sIf (bAnd (eTst (eBin pyEq (eVar 13) (eCst (.int 1001)))) (bNot (eTst (eFz (fCall true F_p_law_bad [] (aCons (eBin pyMul (eFz (fLst (aCons (eCst (.int 5)) aNil))) (eCst (.int 1001))) (aCons (eFz (fLc (.nm 17) [17] (iRg rng1R (aCons (eCst (.int 1001)) aNil)) tYesB c_law_10)) (aCons (eTup aNil) (aCons (eUn pyNeg (eCst (.int 1))) aNil))))))))) (sRt (mSh (eCst (.bl false)))) sNx) (sRt (mSh (eFz (fCall true F_p_law_refusals [] (aCons (eVar 1) (aCons (eVar 2) (aCons (eVar 3) (aCons (eBin pyMod (eIdx (eVar 7) (eCst (.int 3))) (eCst (.int 10))) (aCons (eIdx (eVar 7) (eCst (.int 1))) aNil)))))))))))))))))))))))))))))))))
def F_law : List PV → R OV := defF 18 1 s_law
theorem F_law_at {a0 : PV} : F_law [a0] = outS (s_law [some (.sh a0), none, none, none, none, none, none, none, none, none, none, none, none, none, none, none, none, none]) := rfl
end K00

end
section

/-! The derivations, as gen.py prints them. -/
namespace K00
open PySem PySem.Spec PyProof.Rows L2 L3 He
def top (i : Nat) : Stmt := PySem.Challenge.pw_flagfalls_k00_games.main.body.getD i (.Pass ⟨0, 0, 0, 0⟩)
def cbody (s : Stmt) : List Stmt := match s with
  | .ClassDef (body := b) .. => b
  | _ => []
def mth (i j : Nat) : Stmt := (cbody (top i)).getD j (.Pass ⟨0, 0, 0, 0⟩)
theorem S_checked_amount : FnScope ["amount"] ["amount"] (defScope (top 10)) := ⟨rfl, rfl, rfl, by decide +kernel, rfl, by decide +kernel, by decide +kernel⟩
theorem S_other_side : FnScope ["side"] ["side"] (defScope (top 11)) := ⟨rfl, rfl, rfl, by decide +kernel, rfl, by decide +kernel, by decide +kernel⟩
theorem S_is_word : FnScope ["word", "sign"] ["word"] (defScope (top 24)) := ⟨rfl, rfl, rfl, by decide +kernel, rfl, by decide +kernel, by decide +kernel⟩
theorem S_moves_fit : FnScope ["moves", "size", "seen", "word", "target", "need", "drop"] ["moves", "size"] (defScope (top 25)) := ⟨rfl, rfl, rfl, by decide +kernel, rfl, by decide +kernel, by decide +kernel⟩
theorem S_position_fits : FnScope ["mark", "moves", "size", "guarded"] ["mark", "moves", "size", "guarded"] (defScope (top 26)) := ⟨rfl, rfl, rfl, by decide +kernel, rfl, by decide +kernel, by decide +kernel⟩
theorem S_guards : FnScope ["safe", "size", "found", "last", "position"] ["safe", "size"] (defScope (top 27)) := ⟨rfl, rfl, rfl, by decide +kernel, rfl, by decide +kernel, by decide +kernel⟩
theorem S_Game_init : FnScope ["self", "marks", "moves", "safe", "size", "guarded", "position", "row", "move"] ["self", "marks", "moves", "safe"] (defScope (mth 28 0)) := ⟨rfl, rfl, rfl, by decide +kernel, rfl, by decide +kernel, by decide +kernel⟩
theorem S_Game_checked : FnScope ["self", "position"] ["self", "position"] (defScope (mth 28 1)) := ⟨rfl, rfl, rfl, by decide +kernel, rfl, by decide +kernel, by decide +kernel⟩
theorem S_Game_mover : FnScope ["self", "position", "mark"] ["self", "position"] (defScope (mth 28 2)) := ⟨rfl, rfl, rfl, by decide +kernel, rfl, by decide +kernel, by decide +kernel⟩
theorem S_Game_is_safe : FnScope ["self", "position"] ["self", "position"] (defScope (mth 28 3)) := ⟨rfl, rfl, rfl, by decide +kernel, rfl, by decide +kernel, by decide +kernel⟩
theorem S_Game_index_of : FnScope ["self", "position", "word", "row", "index"] ["self", "position", "word"] (defScope (mth 28 4)) := ⟨rfl, rfl, rfl, by decide +kernel, rfl, by decide +kernel, by decide +kernel⟩
theorem S_Game_turned : FnScope ["self", "mark"] ["self"] (defScope (mth 28 5)) := ⟨rfl, rfl, rfl, by decide +kernel, rfl, by decide +kernel, by decide +kernel⟩
theorem S_Game_with_move : FnScope ["self", "position", "index", "need", "drop", "row", "moves"] ["self", "position", "index", "need", "drop"] (defScope (mth 28 6)) := ⟨rfl, rfl, rfl, by decide +kernel, rfl, by decide +kernel, by decide +kernel⟩
theorem S_Game_with_safe : FnScope ["self", "safe"] ["self", "safe"] (defScope (mth 28 7)) := ⟨rfl, rfl, rfl, by decide +kernel, rfl, by decide +kernel, by decide +kernel⟩
theorem S_Game_eq : FnScope ["self", "other"] ["self", "other"] (defScope (mth 28 8)) := ⟨rfl, rfl, rfl, by decide +kernel, rfl, by decide +kernel, by decide +kernel⟩
theorem S_ended_outcome : FnScope ["game", "position"] ["game", "position"] (defScope (top 29)) := ⟨rfl, rfl, rfl, by decide +kernel, rfl, by decide +kernel, by decide +kernel⟩
theorem S_flag_outcome : FnScope ["game", "position", "side"] ["game", "position"] (defScope (top 30)) := ⟨rfl, rfl, rfl, by decide +kernel, rfl, by decide +kernel, by decide +kernel⟩
theorem S_allowed_moves : FnScope ["game", "position", "amount", "row", "index"] ["game", "position", "amount"] (defScope (top 31)) := ⟨rfl, rfl, rfl, by decide +kernel, rfl, by decide +kernel, by decide +kernel⟩
theorem S_play : FnScope ["game", "position", "first", "second", "index", "side", "row", "target", "need", "drop", "amount"] ["game", "position", "first", "second", "index"] (defScope (top 32)) := ⟨rfl, rfl, rfl, by decide +kernel, rfl, by decide +kernel, by decide +kernel⟩
theorem S_reaching : FnScope ["game", "mark", "sources", "position", "move", "found", "waiting"] ["game", "mark"] (defScope (top 33)) := ⟨rfl, rfl, rfl, by decide +kernel, rfl, by decide +kernel, by decide +kernel⟩
theorem S_hopeless : FnScope ["game", "by_first", "by_second", "positions", "position", "side"] ["game"] (defScope (top 34)) := ⟨rfl, rfl, rfl, by decide +kernel, rfl, by decide +kernel, by decide +kernel⟩
theorem S_p_law_cell : FnScope ["script", "k"] ["script", "k"] (defScope (top 36)) := ⟨rfl, rfl, rfl, by decide +kernel, rfl, by decide +kernel, by decide +kernel⟩
theorem S_p_law_numbers : FnScope ["cell", "salt", "count", "many", "numbers", "rest", "great", "k", "mixed"] ["cell", "salt", "count", "many"] (defScope (top 37)) := ⟨rfl, rfl, rfl, by decide +kernel, rfl, by decide +kernel, by decide +kernel⟩
theorem S_p_law_is : FnScope ["actual", "expected"] ["actual", "expected"] (defScope (top 38)) := ⟨rfl, rfl, rfl, by decide +kernel, rfl, by decide +kernel, by decide +kernel⟩
theorem S_p_law_word : FnScope ["cell", "salt", "k", "signs", "n", "word", "at", "place"] ["cell", "salt", "k"] (defScope (top 39)) := ⟨rfl, rfl, rfl, by decide +kernel, rfl, by decide +kernel, by decide +kernel⟩
theorem S_p_law_build : FnScope ["script", "n", "size", "kinds", "marks", "moves", "safe", "position", "row", "count", "parts", "k", "need", "drop", "word", "kind"] ["script"] (defScope (top 40)) := ⟨rfl, rfl, rfl, by decide +kernel, rfl, by decide +kernel, by decide +kernel⟩
theorem S_p_law_bad : FnScope ["marks", "moves", "safe", "position", "e"] ["marks", "moves", "safe", "position"] (defScope (top 41)) := ⟨rfl, rfl, rfl, by decide +kernel, rfl, by decide +kernel, by decide +kernel⟩
theorem S_p_law_base : FnScope ["marks", "moves", "e"] ["marks", "moves"] (defScope (top 42)) := ⟨rfl, rfl, rfl, by decide +kernel, rfl, by decide +kernel, by decide +kernel⟩
theorem S_p_law_broken : FnScope ["move", "way", "size", "word", "target", "need", "drop"] ["move", "way", "size"] (defScope (top 43)) := ⟨rfl, rfl, rfl, by decide +kernel, rfl, by decide +kernel, by decide +kernel⟩
theorem S_p_law_refusals : FnScope ["marks", "moves", "safe", "way", "cell", "size", "movers", "ends", "position", "first", "worse", "row", "at", "twice", "wrong", "k"] ["marks", "moves", "safe", "way", "cell"] (defScope (top 44)) := ⟨rfl, rfl, rfl, by decide +kernel, rfl, by decide +kernel, by decide +kernel⟩
theorem S_p_law_reach : FnScope ["marks", "moves", "position", "mark", "seen", "k", "move", "at"] ["marks", "moves", "position", "mark"] (defScope (top 45)) := ⟨rfl, rfl, rfl, by decide +kernel, rfl, by decide +kernel, by decide +kernel⟩
theorem S_p_law_hopeless : FnScope ["marks", "moves", "found", "position"] ["marks", "moves"] (defScope (top 46)) := ⟨rfl, rfl, rfl, by decide +kernel, rfl, by decide +kernel, by decide +kernel⟩
theorem S_p_law_error : FnScope ["game", "position", "first", "second", "index", "e"] ["game", "position", "first", "second", "index"] (defScope (top 47)) := ⟨rfl, rfl, rfl, by decide +kernel, rfl, by decide +kernel, by decide +kernel⟩
theorem S_p_law_standing : FnScope ["game", "position", "amount", "other", "index", "marks", "moves", "move", "side", "first", "second", "told", "due"] ["game", "position", "amount", "other", "index", "marks", "moves"] (defScope (top 48)) := ⟨rfl, rfl, rfl, by decide +kernel, rfl, by decide +kernel, by decide +kernel⟩
theorem S_p_law_errors : FnScope ["game", "size", "position", "count", "big", "found", "at", "deed", "e"] ["game", "size", "position", "count", "big"] (defScope (top 49)) := ⟨rfl, rfl, rfl, by decide +kernel, rfl, by decide +kernel, by decide +kernel⟩
theorem S_p_law_place : FnScope ["game", "position", "marks", "moves", "safe", "big", "mark", "mover", "told", "e", "amount", "due", "index", "k", "move"] ["game", "position", "marks", "moves", "safe", "big"] (defScope (top 50)) := ⟨rfl, rfl, rfl, by decide +kernel, rfl, by decide +kernel, by decide +kernel⟩
theorem S_p_law_changed : FnScope ["game", "marks", "moves", "safe", "position", "cell", "index", "word", "target", "need", "drop", "due", "told", "found", "way", "e", "other", "guarded", "row", "at"] ["game", "marks", "moves", "safe", "position", "cell"] (defScope (top 51)) := ⟨rfl, rfl, rfl, by decide +kernel, rfl, by decide +kernel, by decide +kernel⟩
theorem S_law : FnScope ["script", "marks", "moves", "safe", "size", "handed", "game", "n", "big", "position", "turned", "due", "told", "many", "row", "mark", "at", "k"] ["script"] (defScope (top 52)) := ⟨rfl, rfl, rfl, by decide +kernel, rfl, by decide +kernel, by decide +kernel⟩
/-- what is known of the head; ad, fd: the functions; cv, cu: the constants -/
structure Fx (P : Program) (Γ : Gc) (mg : Str → Option Value) (ad : Nat → Addr) (fd : Nat → FuncData) (dv : Nat → List V) (cv : Nat → V) (cu : Nat → Value) (fI : Nat → Addr) : Prop where
  gl_len : mg "len" = none
  gl_abs : mg "abs" = none
  gl_int : mg "int" = none
  gl_max : mg "max" = none
  gl_min : mg "min" = none
  gl_sum : mg "sum" = none
  gl_all : mg "all" = none
  gl_any : mg "any" = none
  gl_tuple : mg "tuple" = none
  gl_list : mg "list" = none
  gl_range : mg "range" = none
  gl_isinstance : mg "isinstance" = none
  gl_str : mg "str" = none
  gl_bool : mg "bool" = none
  gl_sorted : mg "sorted" = none
  gl_ValueError : mg "ValueError" = none
  F_checked_amount : FunD Γ.K "checked_amount" "checked_amount" (defArgs (top 10)) (defBody (top 10)) (defScope (top 10)) (dv 0) [] (ad 0) (fd 0)
  B0_checked_amount : Vals [] [] ∧ Binds Γ.K (fd 0) ["amount"] []
  G_checked_amount : mg "checked_amount" = some (.ref (ad 0))
  F_other_side : FunD Γ.K "other_side" "other_side" (defArgs (top 11)) (defBody (top 11)) (defScope (top 11)) (dv 1) [] (ad 1) (fd 1)
  B0_other_side : Vals [] [] ∧ Binds Γ.K (fd 1) ["side"] []
  G_other_side : mg "other_side" = some (.ref (ad 1))
  F_is_word : FunD Γ.K "is_word" "is_word" (defArgs (top 24)) (defBody (top 24)) (defScope (top 24)) (dv 2) [] (ad 2) (fd 2)
  B0_is_word : Vals [] [] ∧ Binds Γ.K (fd 2) ["word"] []
  G_is_word : mg "is_word" = some (.ref (ad 2))
  F_moves_fit : FunD Γ.K "moves_fit" "moves_fit" (defArgs (top 25)) (defBody (top 25)) (defScope (top 25)) (dv 3) [] (ad 3) (fd 3)
  B0_moves_fit : Vals [] [] ∧ Binds Γ.K (fd 3) ["moves", "size"] []
  G_moves_fit : mg "moves_fit" = some (.ref (ad 3))
  F_position_fits : FunD Γ.K "position_fits" "position_fits" (defArgs (top 26)) (defBody (top 26)) (defScope (top 26)) (dv 4) [] (ad 4) (fd 4)
  B0_position_fits : Vals [] [] ∧ Binds Γ.K (fd 4) ["mark", "moves", "size", "guarded"] []
  G_position_fits : mg "position_fits" = some (.ref (ad 4))
  F_guards : FunD Γ.K "guards" "guards" (defArgs (top 27)) (defBody (top 27)) (defScope (top 27)) (dv 5) [] (ad 5) (fd 5)
  B0_guards : Vals [] [] ∧ Binds Γ.K (fd 5) ["safe", "size"] []
  G_guards : mg "guards" = some (.ref (ad 5))
  F_Game_init : FunD Γ.K "__init__" "Game.__init__" (defArgs (mth 28 0)) (defBody (mth 28 0)) (defScope (mth 28 0)) (dv 6) [] (ad 6) (fd 6)
  B0_Game_init : Vals [] [] ∧ Binds Γ.K (fd 6) ["self", "marks", "moves", "safe"] []
  D1_Game_init : ∃ q : List V × List Value, Vals q.1 q.2 ∧ Binds Γ.K (fd 6) ["self", "marks", "moves", "safe"] q.2 ∧ ∀ H, Reps Γ H [(.tup [])] q.1
  F_Game_checked : FunD Γ.K "checked" "Game.checked" (defArgs (mth 28 1)) (defBody (mth 28 1)) (defScope (mth 28 1)) (dv 7) [] (ad 7) (fd 7)
  B0_Game_checked : Vals [] [] ∧ Binds Γ.K (fd 7) ["self", "position"] []
  MT_Game_checked : Meth Γ.K (Γ.CA 7) "checked" (ad 7)
  F_Game_mover : FunD Γ.K "mover" "Game.mover" (defArgs (mth 28 2)) (defBody (mth 28 2)) (defScope (mth 28 2)) (dv 8) [] (ad 8) (fd 8)
  B0_Game_mover : Vals [] [] ∧ Binds Γ.K (fd 8) ["self", "position"] []
  MT_Game_mover : Meth Γ.K (Γ.CA 7) "mover" (ad 8)
  F_Game_is_safe : FunD Γ.K "is_safe" "Game.is_safe" (defArgs (mth 28 3)) (defBody (mth 28 3)) (defScope (mth 28 3)) (dv 9) [] (ad 9) (fd 9)
  B0_Game_is_safe : Vals [] [] ∧ Binds Γ.K (fd 9) ["self", "position"] []
  MT_Game_is_safe : Meth Γ.K (Γ.CA 7) "is_safe" (ad 9)
  F_Game_index_of : FunD Γ.K "index_of" "Game.index_of" (defArgs (mth 28 4)) (defBody (mth 28 4)) (defScope (mth 28 4)) (dv 10) [] (ad 10) (fd 10)
  B0_Game_index_of : Vals [] [] ∧ Binds Γ.K (fd 10) ["self", "position", "word"] []
  MT_Game_index_of : Meth Γ.K (Γ.CA 7) "index_of" (ad 10)
  F_Game_turned : FunD Γ.K "turned" "Game.turned" (defArgs (mth 28 5)) (defBody (mth 28 5)) (defScope (mth 28 5)) (dv 11) [] (ad 11) (fd 11)
  B0_Game_turned : Vals [] [] ∧ Binds Γ.K (fd 11) ["self"] []
  MT_Game_turned : Meth Γ.K (Γ.CA 7) "turned" (ad 11)
  F_Game_with_move : FunD Γ.K "with_move" "Game.with_move" (defArgs (mth 28 6)) (defBody (mth 28 6)) (defScope (mth 28 6)) (dv 12) [] (ad 12) (fd 12)
  B0_Game_with_move : Vals [] [] ∧ Binds Γ.K (fd 12) ["self", "position", "index", "need", "drop"] []
  MT_Game_with_move : Meth Γ.K (Γ.CA 7) "with_move" (ad 12)
  F_Game_with_safe : FunD Γ.K "with_safe" "Game.with_safe" (defArgs (mth 28 7)) (defBody (mth 28 7)) (defScope (mth 28 7)) (dv 13) [] (ad 13) (fd 13)
  B0_Game_with_safe : Vals [] [] ∧ Binds Γ.K (fd 13) ["self", "safe"] []
  MT_Game_with_safe : Meth Γ.K (Γ.CA 7) "with_safe" (ad 13)
  F_Game_eq : FunD Γ.K "__eq__" "Game.__eq__" (defArgs (mth 28 8)) (defBody (mth 28 8)) (defScope (mth 28 8)) (dv 14) [] (ad 14) (fd 14)
  B0_Game_eq : Vals [] [] ∧ Binds Γ.K (fd 14) ["self", "other"] []
  MT_Game_eq : Meth Γ.K (Γ.CA 7) "__eq__" (ad 14)
  F_ended_outcome : FunD Γ.K "ended_outcome" "ended_outcome" (defArgs (top 29)) (defBody (top 29)) (defScope (top 29)) (dv 15) [] (ad 15) (fd 15)
  B0_ended_outcome : Vals [] [] ∧ Binds Γ.K (fd 15) ["game", "position"] []
  G_ended_outcome : mg "ended_outcome" = some (.ref (ad 15))
  F_flag_outcome : FunD Γ.K "flag_outcome" "flag_outcome" (defArgs (top 30)) (defBody (top 30)) (defScope (top 30)) (dv 16) [] (ad 16) (fd 16)
  B0_flag_outcome : Vals [] [] ∧ Binds Γ.K (fd 16) ["game", "position"] []
  G_flag_outcome : mg "flag_outcome" = some (.ref (ad 16))
  F_allowed_moves : FunD Γ.K "allowed_moves" "allowed_moves" (defArgs (top 31)) (defBody (top 31)) (defScope (top 31)) (dv 17) [] (ad 17) (fd 17)
  B0_allowed_moves : Vals [] [] ∧ Binds Γ.K (fd 17) ["game", "position", "amount"] []
  G_allowed_moves : mg "allowed_moves" = some (.ref (ad 17))
  F_play : FunD Γ.K "play" "play" (defArgs (top 32)) (defBody (top 32)) (defScope (top 32)) (dv 18) [] (ad 18) (fd 18)
  B0_play : Vals [] [] ∧ Binds Γ.K (fd 18) ["game", "position", "first", "second", "index"] []
  G_play : mg "play" = some (.ref (ad 18))
  F_reaching : FunD Γ.K "reaching" "reaching" (defArgs (top 33)) (defBody (top 33)) (defScope (top 33)) (dv 19) [] (ad 19) (fd 19)
  B0_reaching : Vals [] [] ∧ Binds Γ.K (fd 19) ["game", "mark"] []
  G_reaching : mg "reaching" = some (.ref (ad 19))
  F_hopeless : FunD Γ.K "hopeless" "hopeless" (defArgs (top 34)) (defBody (top 34)) (defScope (top 34)) (dv 20) [] (ad 20) (fd 20)
  B0_hopeless : Vals [] [] ∧ Binds Γ.K (fd 20) ["game"] []
  G_hopeless : mg "hopeless" = some (.ref (ad 20))
  F_p_law_cell : FunD Γ.K "_law_cell" "_law_cell" (defArgs (top 36)) (defBody (top 36)) (defScope (top 36)) (dv 21) [] (ad 21) (fd 21)
  B0_p_law_cell : Vals [] [] ∧ Binds Γ.K (fd 21) ["script", "k"] []
  G_p_law_cell : mg "_law_cell" = some (.ref (ad 21))
  F_p_law_numbers : FunD Γ.K "_law_numbers" "_law_numbers" (defArgs (top 37)) (defBody (top 37)) (defScope (top 37)) (dv 22) [] (ad 22) (fd 22)
  B0_p_law_numbers : Vals [] [] ∧ Binds Γ.K (fd 22) ["cell", "salt", "count", "many"] []
  G_p_law_numbers : mg "_law_numbers" = some (.ref (ad 22))
  F_p_law_is : FunD Γ.K "_law_is" "_law_is" (defArgs (top 38)) (defBody (top 38)) (defScope (top 38)) (dv 23) [] (ad 23) (fd 23)
  B0_p_law_is : Vals [] [] ∧ Binds Γ.K (fd 23) ["actual", "expected"] []
  G_p_law_is : mg "_law_is" = some (.ref (ad 23))
  F_p_law_word : FunD Γ.K "_law_word" "_law_word" (defArgs (top 39)) (defBody (top 39)) (defScope (top 39)) (dv 24) [] (ad 24) (fd 24)
  B0_p_law_word : Vals [] [] ∧ Binds Γ.K (fd 24) ["cell", "salt", "k"] []
  G_p_law_word : mg "_law_word" = some (.ref (ad 24))
  F_p_law_build : FunD Γ.K "_law_build" "_law_build" (defArgs (top 40)) (defBody (top 40)) (defScope (top 40)) (dv 25) [] (ad 25) (fd 25)
  B0_p_law_build : Vals [] [] ∧ Binds Γ.K (fd 25) ["script"] []
  G_p_law_build : mg "_law_build" = some (.ref (ad 25))
  F_p_law_bad : FunD Γ.K "_law_bad" "_law_bad" (defArgs (top 41)) (defBody (top 41)) (defScope (top 41)) (dv 26) [] (ad 26) (fd 26)
  B0_p_law_bad : Vals [] [] ∧ Binds Γ.K (fd 26) ["marks", "moves", "safe", "position"] []
  G_p_law_bad : mg "_law_bad" = some (.ref (ad 26))
  F_p_law_base : FunD Γ.K "_law_base" "_law_base" (defArgs (top 42)) (defBody (top 42)) (defScope (top 42)) (dv 27) [] (ad 27) (fd 27)
  B0_p_law_base : Vals [] [] ∧ Binds Γ.K (fd 27) ["marks", "moves"] []
  G_p_law_base : mg "_law_base" = some (.ref (ad 27))
  F_p_law_broken : FunD Γ.K "_law_broken" "_law_broken" (defArgs (top 43)) (defBody (top 43)) (defScope (top 43)) (dv 28) [] (ad 28) (fd 28)
  B0_p_law_broken : Vals [] [] ∧ Binds Γ.K (fd 28) ["move", "way", "size"] []
  G_p_law_broken : mg "_law_broken" = some (.ref (ad 28))
  F_p_law_refusals : FunD Γ.K "_law_refusals" "_law_refusals" (defArgs (top 44)) (defBody (top 44)) (defScope (top 44)) (dv 29) [] (ad 29) (fd 29)
  B0_p_law_refusals : Vals [] [] ∧ Binds Γ.K (fd 29) ["marks", "moves", "safe", "way", "cell"] []
  G_p_law_refusals : mg "_law_refusals" = some (.ref (ad 29))
  F_p_law_reach : FunD Γ.K "_law_reach" "_law_reach" (defArgs (top 45)) (defBody (top 45)) (defScope (top 45)) (dv 30) [] (ad 30) (fd 30)
  B0_p_law_reach : Vals [] [] ∧ Binds Γ.K (fd 30) ["marks", "moves", "position", "mark"] []
  G_p_law_reach : mg "_law_reach" = some (.ref (ad 30))
  F_p_law_hopeless : FunD Γ.K "_law_hopeless" "_law_hopeless" (defArgs (top 46)) (defBody (top 46)) (defScope (top 46)) (dv 31) [] (ad 31) (fd 31)
  B0_p_law_hopeless : Vals [] [] ∧ Binds Γ.K (fd 31) ["marks", "moves"] []
  G_p_law_hopeless : mg "_law_hopeless" = some (.ref (ad 31))
  F_p_law_error : FunD Γ.K "_law_error" "_law_error" (defArgs (top 47)) (defBody (top 47)) (defScope (top 47)) (dv 32) [] (ad 32) (fd 32)
  B0_p_law_error : Vals [] [] ∧ Binds Γ.K (fd 32) ["game", "position", "first", "second", "index"] []
  G_p_law_error : mg "_law_error" = some (.ref (ad 32))
  F_p_law_standing : FunD Γ.K "_law_standing" "_law_standing" (defArgs (top 48)) (defBody (top 48)) (defScope (top 48)) (dv 33) [] (ad 33) (fd 33)
  B0_p_law_standing : Vals [] [] ∧ Binds Γ.K (fd 33) ["game", "position", "amount", "other", "index", "marks", "moves"] []
  G_p_law_standing : mg "_law_standing" = some (.ref (ad 33))
  F_p_law_errors : FunD Γ.K "_law_errors" "_law_errors" (defArgs (top 49)) (defBody (top 49)) (defScope (top 49)) (dv 34) [] (ad 34) (fd 34)
  B0_p_law_errors : Vals [] [] ∧ Binds Γ.K (fd 34) ["game", "size", "position", "count", "big"] []
  G_p_law_errors : mg "_law_errors" = some (.ref (ad 34))
  F_p_law_place : FunD Γ.K "_law_place" "_law_place" (defArgs (top 50)) (defBody (top 50)) (defScope (top 50)) (dv 35) [] (ad 35) (fd 35)
  B0_p_law_place : Vals [] [] ∧ Binds Γ.K (fd 35) ["game", "position", "marks", "moves", "safe", "big"] []
  G_p_law_place : mg "_law_place" = some (.ref (ad 35))
  F_p_law_changed : FunD Γ.K "_law_changed" "_law_changed" (defArgs (top 51)) (defBody (top 51)) (defScope (top 51)) (dv 36) [] (ad 36) (fd 36)
  B0_p_law_changed : Vals [] [] ∧ Binds Γ.K (fd 36) ["game", "marks", "moves", "safe", "position", "cell"] []
  G_p_law_changed : mg "_law_changed" = some (.ref (ad 36))
  F_law : FunD Γ.K "law" "law" (defArgs (top 52)) (defBody (top 52)) (defScope (top 52)) (dv 37) [] (ad 37) (fd 37)
  B0_law : Vals [] [] ∧ Binds Γ.K (fd 37) ["script"] []
  G_law : mg "law" = some (.ref (ad 37))
  G_Fault : mg "Fault" = some (.ref (Γ.CA 0))
  G_BadAmount : mg "BadAmount" = some (.ref (Γ.CA 1))
  SU_BadAmount : X3.SupC P Γ.K (Γ.CA 1) (fI 1) "amount"
  KP_BadAmount : PySem.W.keepIn Γ.K (.ref (Γ.CA 1)) = true
  RS_BadAmount : ∀ X : Cx, X.K = Γ.K → Raises X (.ref (Γ.CA 1))
  G_BadSide : mg "BadSide" = some (.ref (Γ.CA 2))
  SU_BadSide : X3.SupC P Γ.K (Γ.CA 2) (fI 2) "side"
  KP_BadSide : PySem.W.keepIn Γ.K (.ref (Γ.CA 2)) = true
  RS_BadSide : ∀ X : Cx, X.K = Γ.K → Raises X (.ref (Γ.CA 2))
  G_BadGame : mg "BadGame" = some (.ref (Γ.CA 3))
  SU_BadGame : X3.SupC P Γ.K (Γ.CA 3) (fI 3) "position"
  KP_BadGame : PySem.W.keepIn Γ.K (.ref (Γ.CA 3)) = true
  RS_BadGame : ∀ X : Cx, X.K = Γ.K → Raises X (.ref (Γ.CA 3))
  G_NoPosition : mg "NoPosition" = some (.ref (Γ.CA 4))
  SU_NoPosition : X3.SupC P Γ.K (Γ.CA 4) (fI 4) "position"
  KP_NoPosition : PySem.W.keepIn Γ.K (.ref (Γ.CA 4)) = true
  RS_NoPosition : ∀ X : Cx, X.K = Γ.K → Raises X (.ref (Γ.CA 4))
  G_NoMove : mg "NoMove" = some (.ref (Γ.CA 5))
  SU_NoMove : X3.SupC P Γ.K (Γ.CA 5) (fI 5) "move"
  KP_NoMove : PySem.W.keepIn Γ.K (.ref (Γ.CA 5)) = true
  RS_NoMove : ∀ X : Cx, X.K = Γ.K → Raises X (.ref (Γ.CA 5))
  G_NoTime : mg "NoTime" = some (.ref (Γ.CA 6))
  SU_NoTime : X3.SupC P Γ.K (Γ.CA 6) (fI 6) "need"
  KP_NoTime : PySem.W.keepIn Γ.K (.ref (Γ.CA 6)) = true
  RS_NoTime : ∀ X : Cx, X.K = Γ.K → Raises X (.ref (Γ.CA 6))
  G_Game : mg "Game" = some (.ref (Γ.CA 7))
  C_Game : Cls Γ.K (Γ.CA 7)
  M_Game : Mk Γ.K (Γ.CA 7) (ad 6)
  EO_Game : EqC Γ.K (Γ.CA 7) (ad 14)
  FL__guarded : ∀ c, ok__guarded c = true → Cls Γ.K (Γ.CA c) ∧ NoAttr Γ.K (Γ.CA c) "_guarded"
  FL_marks : ∀ c, ok_marks c = true → Cls Γ.K (Γ.CA c) ∧ NoAttr Γ.K (Γ.CA c) "marks"
  FL_moves : ∀ c, ok_moves c = true → Cls Γ.K (Γ.CA c) ∧ NoAttr Γ.K (Γ.CA c) "moves"
  FL_safe : ∀ c, ok_safe c = true → Cls Γ.K (Γ.CA c) ∧ NoAttr Γ.K (Γ.CA c) "safe"
  FL_size : ∀ c, ok_size c = true → Cls Γ.K (Γ.CA c) ∧ NoAttr Γ.K (Γ.CA c) "size"
  XF_amount : ∀ c, okx_amount c = true → XfC Γ.K (Γ.CA c) ∧ PySem.W.findIn Γ.K (.ref (Γ.CA c)) "amount" = some none
  XF_move : ∀ c, okx_move c = true → XfC Γ.K (Γ.CA c) ∧ PySem.W.findIn Γ.K (.ref (Γ.CA c)) "move" = some none
  XF_need : ∀ c, okx_need c = true → XfC Γ.K (Γ.CA c) ∧ PySem.W.findIn Γ.K (.ref (Γ.CA c)) "need" = some none
  XF_position : ∀ c, okx_position c = true → XfC Γ.K (Γ.CA c) ∧ PySem.W.findIn Γ.K (.ref (Γ.CA c)) "position" = some none
  XF_side : ∀ c, okx_side c = true → XfC Γ.K (Γ.CA c) ∧ PySem.W.findIn Γ.K (.ref (Γ.CA c)) "side" = some none
  MTX_BadAmount : ∀ c b, mt_BadAmount c = some b → PySem.W.exmOne Γ.K (.ref (Γ.CA c)) (.ref (Γ.CA 1)) = some b
  MTX_BadGame : ∀ c b, mt_BadGame c = some b → PySem.W.exmOne Γ.K (.ref (Γ.CA c)) (.ref (Γ.CA 3)) = some b
  MTX_Fault : ∀ c b, mt_Fault c = some b → PySem.W.exmOne Γ.K (.ref (Γ.CA c)) (.ref (Γ.CA 0)) = some b
  MTX_NoMove : ∀ c b, mt_NoMove c = some b → PySem.W.exmOne Γ.K (.ref (Γ.CA c)) (.ref (Γ.CA 5)) = some b
  MTX_NoPosition : ∀ c b, mt_NoPosition c = some b → PySem.W.exmOne Γ.K (.ref (Γ.CA c)) (.ref (Γ.CA 4)) = some b
  MTX_NoTime : ∀ c b, mt_NoTime c = some b → PySem.W.exmOne Γ.K (.ref (Γ.CA c)) (.ref (Γ.CA 6)) = some b
  XI_BadGame : ∀ c b, ib_BadGame c = some b → X3.ExI Γ.K (Γ.CA c) ∧ PySem.W.kitOne Γ.K (.ref (Γ.CA c)) (.ref (Γ.CA 3)) = some b
  XI_Fault : ∀ c b, ib_Fault c = some b → X3.ExI Γ.K (Γ.CA c) ∧ PySem.W.kitOne Γ.K (.ref (Γ.CA c)) (.ref (Γ.CA 0)) = some b
  XI_NoMove : ∀ c b, ib_NoMove c = some b → X3.ExI Γ.K (Γ.CA c) ∧ PySem.W.kitOne Γ.K (.ref (Γ.CA c)) (.ref (Γ.CA 5)) = some b
  XI_NoPosition : ∀ c b, ib_NoPosition c = some b → X3.ExI Γ.K (Γ.CA c) ∧ PySem.W.kitOne Γ.K (.ref (Γ.CA c)) (.ref (Γ.CA 4)) = some b
  XI_NoTime : ∀ c b, ib_NoTime c = some b → X3.ExI Γ.K (Γ.CA c) ∧ PySem.W.kitOne Γ.K (.ref (Γ.CA c)) (.ref (Γ.CA 6)) = some b
  XI_ValueError : ∀ c b, ib_ValueError c = some b → X3.ExI Γ.K (Γ.CA c) ∧ PySem.W.kitOne Γ.K (.ref (Γ.CA c)) (.type "ValueError") = some b
  IC_Game : ∀ c b, ic_Game c = some b → IsC Γ.K (Γ.CA c) ∧ PySem.W.kitOne Γ.K (.ref (Γ.CA c)) (.ref (Γ.CA 7)) = some b
  IT_Game : ∀ s b, tb_Game s = some b → PySem.W.kitOne Γ.K (.type s) (.ref (Γ.CA 7)) = some b
  G_MOST : mg "MOST" = some (cu 0) ∧ RelV (cv 0) (cu 0)
  R_MOST : ∀ H, Rep Γ H (.int 1000000000000000000000000000000) (cv 0)
  G_FIRST : mg "FIRST" = some (cu 1) ∧ RelV (cv 1) (cu 1)
  R_FIRST : ∀ H, Rep Γ H (.int 1) (cv 1)
  G_SECOND : mg "SECOND" = some (cu 2) ∧ RelV (cv 2) (cu 2)
  R_SECOND : ∀ H, Rep Γ H (.int 2) (cv 2)
  G_WON : mg "WON" = some (cu 3) ∧ RelV (cv 3) (cu 3)
  R_WON : ∀ H, Rep Γ H (.int 3) (cv 3)
  G_LOST : mg "LOST" = some (cu 4) ∧ RelV (cv 4) (cu 4)
  R_LOST : ∀ H, Rep Γ H (.int 4) (cv 4)
  G_DRAWN : mg "DRAWN" = some (cu 5) ∧ RelV (cv 5) (cu 5)
  R_DRAWN : ∀ H, Rep Γ H (.int 5) (cv 5)
  G_MOST_POSITIONS : mg "MOST_POSITIONS" = some (cu 6) ∧ RelV (cv 6) (cu 6)
  R_MOST_POSITIONS : ∀ H, Rep Γ H (.int 1000) (cv 6)
  G_MOST_MOVES : mg "MOST_MOVES" = some (cu 7) ∧ RelV (cv 7) (cu 7)
  R_MOST_MOVES : ∀ H, Rep Γ H (.int 16) (cv 7)
  G_MOST_NEED : mg "MOST_NEED" = some (cu 8) ∧ RelV (cv 8) (cu 8)
  R_MOST_NEED : ∀ H, Rep Γ H (.int 9) (cv 8)
  G_WORD_SIGNS : mg "WORD_SIGNS" = some (cu 9) ∧ RelV (cv 9) (cu 9)
  R_WORD_SIGNS : ∀ H, Rep Γ H (.str "abcdefghijklmnopqrstuvwxyz0123456789") (cv 9)
  G_TURNED_MARKS : mg "TURNED_MARKS" = some (cu 10) ∧ RelV (cv 10) (cu 10)
  R_TURNED_MARKS : ∀ H, Rep Γ H (.tup [(.int 0), (.int 2), (.int 1), (.int 4), (.int 3), (.int 5)]) (cv 10)
  G_ENDED_OUTCOMES : mg "ENDED_OUTCOMES" = some (cu 11) ∧ RelV (cv 11) (cu 11)
  R_ENDED_OUTCOMES : ∀ H, Rep Γ H (.tup [(.non), (.non), (.non), (.int 1), (.int 2), (.int 0)]) (cv 11)
section
variable {P : Program} {w : World} {Γ : Gc} {mg : Str → Option Value} {base : Heap} {ad : Nat → Addr} {fd : Nat → FuncData} {dv : Nat → List V} {cv : Nat → V} {cu : Nat → Value} {fI : Nat → Addr}
theorem ok_checked_amount (fx : Fx P Γ mg ad fd dv cv cu fI) : FnOk P w Γ.K mg base (L2N.CX P w) 1 (ad 0) (fd 0) ["amount"] (spP Γ F_checked_amount) := by
  refine qDef fx.F_checked_amount S_checked_amount rfl rfl fun cdv A outer s H E C hG hfx hr tk hp => ?_
  obtain ⟨G, He, Hz, fx0, Hx⟩ := C
  dsimp only at hG hfx
  subst hG hfx
  have hu := L3.hu_of hr
  have hrH := L2H.roomH_of hr
  have hdep := L3.dep_of hr
  unfold s_checked_amount
  exact qCons (qIfS (qt_w (qw_or (tLt (m := true)  (qVar 0) (qInt)) (qw_or1 (tGt (m := true)  (qVar 0) (qGlob fx.G_MOST.1 fx.G_MOST.2 fx.R_MOST))))) (qLast (qRz (c := 1) rfl tk fx.SU_BadAmount fx.G_BadAmount fx.KP_BadAmount (fx.RS_BadAmount _ rfl) hdep (qVar 0))) (qNil)) (qLast (qRt (qmSh (qVar 0))))
theorem ok_other_side (fx : Fx P Γ mg ad fd dv cv cu fI) : FnOk P w Γ.K mg base (L2N.CX P w) 1 (ad 1) (fd 1) ["side"] (spP Γ F_other_side) := by
  refine qDef fx.F_other_side S_other_side rfl rfl fun cdv A outer s H E C hG hfx hr tk hp => ?_
  obtain ⟨G, He, Hz, fx0, Hx⟩ := C
  dsimp only at hG hfx
  subst hG hfx
  have hu := L3.hu_of hr
  have hrH := L2H.roomH_of hr
  have hdep := L3.dep_of hr
  unfold s_other_side
  exact qCons (qIfS (qt_w (qw_and (tNe (m := true) rfl hu (qVar 0) (qInt)) (qw_and1 (tNe (m := true) rfl hu (qVar 0) (qInt))))) (qLast (qRz (c := 2) rfl tk fx.SU_BadSide fx.G_BadSide fx.KP_BadSide (fx.RS_BadSide _ rfl) hdep (qVar 0))) (qNil)) (qLast (qRt (qmSh (qSub (qInt) (qVar 0)))))
theorem ok_is_word (fx : Fx P Γ mg ad fd dv cv cu fI) : FnOk P w Γ.K mg base (L2N.CX P w) 1 (ad 2) (fd 2) ["word"] (spP Γ F_is_word) := by
  refine qDef fx.F_is_word S_is_word rfl rfl fun cdv A outer s H E C hG hfx hr tk hp => ?_
  obtain ⟨G, He, Hz, fx0, Hx⟩ := C
  dsimp only at hG hfx
  subst hG hfx
  have hu := L3.hu_of hr
  have hrH := L2H.roomH_of hr
  have hdep := L3.dep_of hr
  unfold s_is_word
  exact qCons (qIfS (qt_w (qw_or (tLt (m := true)  (qLen rfl fx.gl_len (qaCons (qVar 0) qaNil)) (qInt)) (qw_or1 (tGt (m := true)  (qLen rfl fx.gl_len (qaCons (qVar 0) qaNil)) (qInt))))) (qLast (qRt (qmSh (qBl)))) (qNil)) (qCons (qFor (T := (.nm 1)) [1] hp rfl (qiSeq rfl (qVar 0)) (fun _ => qgName (i := 1) fxo_none S_is_word.nd) (fun _ => qLast (qIfS (tNotIn (m := true) rfl hu (qVar 1) (qGlob fx.G_WORD_SIGNS.1 fx.G_WORD_SIGNS.2 fx.R_WORD_SIGNS)) (qLast (qRt (qmSh (qBl)))) (qNil)))) (qLast (qRt (qmSh (qBl)))))
theorem ok_guards (fx : Fx P Γ mg ad fd dv cv cu fI) : FnOk P w Γ.K mg base (L2N.CX P w) 1 (ad 5) (fd 5) ["safe", "size"] (spP Γ F_guards) := by
  refine qDef fx.F_guards S_guards rfl rfl fun cdv A outer s H E C hG hfx hr tk hp => ?_
  obtain ⟨G, He, Hz, fx0, Hx⟩ := C
  dsimp only at hG hfx
  subst hG hfx
  have hu := L3.hu_of hr
  have hrH := L2H.roomH_of hr
  have hdep := L3.dep_of hr
  unfold s_guards
  exact qCons (qSet (i := 2) fxo_none S_guards.nd (qmFr (qMulF (qFz (qLst (qaCons (qBl) qaNil))) (qVar 1)))) (qCons (qSet (i := 3) fxo_none S_guards.nd (qmSh (qNeg (qInt)))) (qCons (qFor (T := (.nm 4)) [4] hp rfl (qiSeq rfl (qVar 0)) (fun _ => qgName (i := 4) fxo_none S_guards.nd) (fun _ => qCons (qIfS (qt_w (qw_or (tLe (m := true)  (qVar 4) (qVar 3)) (qw_or1 (tGe (m := true)  (qVar 4) (qVar 1))))) (qLast (qRz (c := 3) rfl tk fx.SU_BadGame fx.G_BadGame fx.KP_BadGame (fx.RS_BadGame _ rfl) hdep (qNeg (qInt)))) (qNil)) (qCons (qSt (m := true) (qmSh (qBl)) (qpVar 2) (qVar 4)) (qLast (qSet (i := 3) fxo_none S_guards.nd (qmSh (qVar 4))))))) (qLast (qRt (qmSh (qFlat (qTuple rfl fx.gl_tuple (qaCons (qOwn 2) qaNil))))))))
theorem ok_Game_checked (fx : Fx P Γ mg ad fd dv cv cu fI) : FnOk P w Γ.K mg base (L2N.CX P w) 1 (ad 7) (fd 7) ["self", "position"] (spP Γ F_Game_checked) := by
  refine qDef fx.F_Game_checked S_Game_checked rfl rfl fun cdv A outer s H E C hG hfx hr tk hp => ?_
  obtain ⟨G, He, Hz, fx0, Hx⟩ := C
  dsimp only at hG hfx
  subst hG hfx
  have hu := L3.hu_of hr
  have hrH := L2H.roomH_of hr
  have hdep := L3.dep_of hr
  unfold s_Game_checked
  exact qCons (qIfS (qt_w (qw_or (tLt (m := true)  (qVar 1) (qInt)) (qw_or1 (tGe (m := true)  (qVar 1) (qFld (ok := ok_size) rfl fx.FL_size (qVar 0)))))) (qLast (qRz (c := 4) rfl tk fx.SU_NoPosition fx.G_NoPosition fx.KP_NoPosition (fx.RS_NoPosition _ rfl) hdep (qVar 1))) (qNil)) (qLast (qRt (qmSh (qVar 1))))
theorem ok_Game_eq (fx : Fx P Γ mg ad fd dv cv cu fI) : FnOk P w Γ.K mg base (L2N.CX P w) 1 (ad 14) (fd 14) ["self", "other"] (spP Γ F_Game_eq) := by
  refine qDef fx.F_Game_eq S_Game_eq rfl rfl fun cdv A outer s H E C hG hfx hr tk hp => ?_
  obtain ⟨G, He, Hz, fx0, Hx⟩ := C
  dsimp only at hG hfx
  subst hG hfx
  have hu := L3.hu_of hr
  have hrH := L2H.roomH_of hr
  have hdep := L3.dep_of hr
  unfold s_Game_eq
  exact qCons (qIfS (qt_not (qtVal (m := true) (qIsiC (tb := tb_Game) (ib := ic_Game) rfl fx.gl_isinstance fx.G_Game fx.IT_Game fx.IC_Game (qVar 1)))) (qLast (qRt (qmSh (qBl)))) (qNil)) (qLast (qRt (qmSh (qAnd (qEq rfl hu (qFld (ok := ok_marks) rfl fx.FL_marks (qVar 0)) (qFld (ok := ok_marks) rfl fx.FL_marks (qVar 1))) (qAnd (qEq rfl hu (qFld (ok := ok_moves) rfl fx.FL_moves (qVar 0)) (qFld (ok := ok_moves) rfl fx.FL_moves (qVar 1))) (qOne (qEq rfl hu (qFld (ok := ok_safe) rfl fx.FL_safe (qVar 0)) (qFld (ok := ok_safe) rfl fx.FL_safe (qVar 1)))))))))
theorem ok_reaching (fx : Fx P Γ mg ad fd dv cv cu fI) : FnOk P w Γ.K mg base (L2N.CX P w) 1 (ad 19) (fd 19) ["game", "mark"] (spP Γ F_reaching) := by
  refine qDef fx.F_reaching S_reaching rfl rfl fun cdv A outer s H E C hG hfx hr tk hp => ?_
  obtain ⟨G, He, Hz, fx0, Hx⟩ := C
  dsimp only at hG hfx
  subst hG hfx
  have hu := L3.hu_of hr
  have hrH := L2H.roomH_of hr
  have hdep := L3.dep_of hr
  unfold s_reaching
  exact qCons (qSetLc (T := .nm 3) fxo_none rfl S_reaching.nd (qiRng1 fx.gl_range (qaCons (qFld (ok := ok_size) rfl fx.FL_size (qVar 0)) qaNil)) (own := [("position", 3)]) (blkOk_by rfl) (by decide) fxs_none (lcName (i := 3) fxo_none S_reaching.nd rfl (fun _ _ => rfl)) (fun _ _ _ _ _ => qtsNil) (fun _ _ _ _ _ => qLst qaNil) (sw_true rfl rfl rfl rfl)) (qCons (qFor (T := (.nm 3)) [4] hp rfl (qiRng1 fx.gl_range (qaCons (qFld (ok := ok_size) rfl fx.FL_size (qVar 0)) qaNil)) (fun _ => qgName (i := 3) fxo_none S_reaching.nd) (fun _ => qLast (qFor (T := (.nm 4)) [4] hp rfl (qiSeq rfl (qIdx rfl (qFld (ok := ok_moves) rfl fx.FL_moves (qVar 0)) (qVar 3))) (fun _ => qgName (i := 4) fxo_none S_reaching.nd) (fun _ => qLast (qApp (qpIx (m := true) (qpVar 2) (qIdx rfl (qVar 4) (qInt))) (qmSh (qVar 3))))))) (qCons (qSet (i := 5) fxo_none S_reaching.nd (qmFr ((qLc (T := .nm 3) rfl S_reaching.nd (qiRng1 fx.gl_range (qaCons (qFld (ok := ok_size) rfl fx.FL_size (qVar 0)) qaNil)) (own := [("position", 3)]) (blkOk_by rfl) (by decide) fxs_none (lcName (i := 3) fxo_none S_reaching.nd rfl (fun _ _ => rfl)) (fun _ _ _ _ _ => qtsNil) (fun _ _ _ _ _ => qSh (qEq rfl hu (qIdx rfl (qFld (ok := ok_marks) rfl fx.FL_marks (qVar 0)) (qVar 3)) (qVar 1))))))) (qCons (qSetLc (T := .nm 3) fxo_none rfl S_reaching.nd (qiRng1 fx.gl_range (qaCons (qFld (ok := ok_size) rfl fx.FL_size (qVar 0)) qaNil)) (own := [("position", 3)]) (blkOk_by rfl) (by decide) fxs_none (lcName (i := 3) fxo_none S_reaching.nd rfl (fun _ _ => rfl)) (fun _ _ _ _ _ => qtsOne (qtVal (m := false) (qIdx rfl (qOwn 5) (qVar 3)))) (fun _ _ _ _ _ => qSh (qVar 3)) (sw_true rfl rfl rfl rfl)) (qFzS 2 (qCons (qWhile fuel_reaching [3] hp (qtTru rfl (m := false) (qOwn 6)) (qLast (qForN (T := (.nm 3)) [3] hp rfl (qiN rfl (qnIx rfl (qVar 2) (qnPop rfl (qpVar 6)))) (fun _ => qgName (i := 3) fxo_none S_reaching.nd) (fun _ => qLast (qIfS (qt_not (qtVal (m := false) (qIdx rfl (qOwn 5) (qVar 3)))) (qCons (qSt (m := true) (qmSh (qBl)) (qpVar 5) (qVar 3)) (qLast (qApp (qpVar 6) (qmSh (qVar 3))))) (qNil)))))) (qLast (qRt (qmMv 5))))))))
theorem ok_p_law_cell (fx : Fx P Γ mg ad fd dv cv cu fI) : FnOk P w Γ.K mg base (L2N.CX P w) 1 (ad 21) (fd 21) ["script", "k"] (spP Γ F_p_law_cell) := by
  refine qDef fx.F_p_law_cell S_p_law_cell rfl rfl fun cdv A outer s H E C hG hfx hr tk hp => ?_
  obtain ⟨G, He, Hz, fx0, Hx⟩ := C
  dsimp only at hG hfx
  subst hG hfx
  have hu := L3.hu_of hr
  have hrH := L2H.roomH_of hr
  have hdep := L3.dep_of hr
  unfold s_p_law_cell
  exact qCons (qIfS (tLt (m := true)  (qVar 1) (qLen rfl fx.gl_len (qaCons (qVar 0) qaNil))) (qLast (qRt (qmSh (qIdx rfl (qVar 0) (qVar 1))))) (qNil)) (qLast (qRt (qmSh (qInt))))
theorem ok_p_law_numbers (fx : Fx P Γ mg ad fd dv cv cu fI) : FnOk P w Γ.K mg base (L2N.CX P w) 1 (ad 22) (fd 22) ["cell", "salt", "count", "many"] (spP Γ F_p_law_numbers) := by
  refine qDef fx.F_p_law_numbers S_p_law_numbers rfl rfl fun cdv A outer s H E C hG hfx hr tk hp => ?_
  obtain ⟨G, He, Hz, fx0, Hx⟩ := C
  dsimp only at hG hfx
  subst hG hfx
  have hu := L3.hu_of hr
  have hrH := L2H.roomH_of hr
  have hdep := L3.dep_of hr
  unfold s_p_law_numbers
  exact qCons (qSet (i := 4) fxo_none S_p_law_numbers.nd (qmFr (qLst qaNil))) (qCons (qSet (i := 5) fxo_none S_p_law_numbers.nd (qmSh (qAbs fx.gl_abs (qaCons (qVar 0) qaNil)))) (qCons (qSet (i := 6) fxo_none S_p_law_numbers.nd (qmSh (qGe  (qVar 5) (qPow (qInt) (qInt))))) (qCons (qFor (T := (.nm 7)) [7, 8] hp rfl (qiRng1 fx.gl_range (qaCons (qVar 2) qaNil)) (fun _ => qgName (i := 7) fxo_none S_p_law_numbers.nd) (fun _ => qLast (qIfS (qt_w (qw_and (qtVal (m := true) (qVar 6)) (qw_and1 (tGt (m := true)  (qVar 5) (qInt))))) (qCons (qApp (qpVar 4) (qmSh (qMod (qIntB fx.gl_int (qaCons (qVar 5) qaNil)) (qVar 3)))) (qLast (qSet (i := 5) fxo_none S_p_law_numbers.nd (qmSh (qFdiv (qVar 5) (qVar 3)))))) (qCons (qSet (i := 8) fxo_none S_p_law_numbers.nd (qmSh (qMod (qIntB fx.gl_int (qaCons (qAdd rfl (qAdd rfl (qAdd rfl (qAbs fx.gl_abs (qaCons (qVar 0) qaNil)) (qMul (qVar 1) (qInt))) (qMul (qVar 7) (qInt))) (qInt)) qaNil)) (qInt)))) (qCons (qSet (i := 8) fxo_none S_p_law_numbers.nd (qmSh (qMod (qIntB fx.gl_int (qaCons (qAdd rfl (qMul (qVar 8) (qInt)) (qInt)) qaNil)) (qInt)))) (qCons (qSet (i := 8) fxo_none S_p_law_numbers.nd (qmSh (qMod (qIntB fx.gl_int (qaCons (qAdd rfl (qAdd rfl (qMul (qVar 8) (qVar 8)) (qMul (qVar 8) (qInt))) (qMul (qVar 7) (qInt))) qaNil)) (qInt)))) (qLast (qApp (qpVar 4) (qmSh (qMod (qIntB fx.gl_int (qaCons (qFdiv (qVar 8) (qInt)) qaNil)) (qVar 3))))))))))) (qLast (qRt (qmMv 4))))))
theorem ok_p_law_is (fx : Fx P Γ mg ad fd dv cv cu fI) : FnOk P w Γ.K mg base (L2N.CX P w) 1 (ad 23) (fd 23) ["actual", "expected"] (spP Γ F_p_law_is) := by
  refine qDef fx.F_p_law_is S_p_law_is rfl rfl fun cdv A outer s H E C hG hfx hr tk hp => ?_
  obtain ⟨G, He, Hz, fx0, Hx⟩ := C
  dsimp only at hG hfx
  subst hG hfx
  have hu := L3.hu_of hr
  have hrH := L2H.roomH_of hr
  have hdep := L3.dep_of hr
  unfold s_p_law_is
  exact qCons (qIfS (tIsN (m := true) (qVar 1)) (qLast (qRt (qmSh (qIsN (qVar 0))))) (qNil)) (qLast (qRt (qmSh (qAnd (qIsiT (tb := tbT "int") (ib := ibN) rfl fx.gl_isinstance fx.gl_int bt_int tbT_ok ibN_ok (qVar 0)) (qAnd (qNot (qIsiT (tb := tbT "bool") (ib := ibN) rfl fx.gl_isinstance fx.gl_bool bt_bool tbT_ok ibN_ok (qVar 0))) (qOne (qEq rfl hu (qVar 0) (qVar 1))))))))
theorem okH_p_law_is (fx : Fx P Γ mg ad fd dv cv cu fI) : L2H.FnH P w Γ.K mg base (L2N.CX P w) 1 (ad 23) (fd 23) ["actual", "expected"] (spP Γ F_p_law_is) := by
  refine qDefH fx.F_p_law_is S_p_law_is rfl rfl fun cdv A outer s H E q0 C hG hfx hot hrH tk => ?_
  obtain ⟨G, He, Hz, fx0, Hx⟩ := C
  dsimp only at hG hfx
  subst hG hfx
  have hu := L3.huH_of hrH
  unfold s_p_law_is
  exact qCons (qIfS (tIsN (m := true) (qVar 1)) (qLast (qRt (qmSh (qIsN (qVar 0))))) (qNil)) (qLast (qRt (qmSh (qAnd (qIsiT (tb := tbT "int") (ib := ibN) rfl fx.gl_isinstance fx.gl_int bt_int tbT_ok ibN_ok (qVar 0)) (qAnd (qNot (qIsiT (tb := tbT "bool") (ib := ibN) rfl fx.gl_isinstance fx.gl_bool bt_bool tbT_ok ibN_ok (qVar 0))) (qOne (qEq rfl hu (qVar 0) (qVar 1))))))))
theorem ok_p_law_broken (fx : Fx P Γ mg ad fd dv cv cu fI) : FnOk P w Γ.K mg base (L2N.CX P w) 1 (ad 28) (fd 28) ["move", "way", "size"] (spP Γ F_p_law_broken) := by
  refine qDef fx.F_p_law_broken S_p_law_broken rfl rfl fun cdv A outer s H E C hG hfx hr tk hp => ?_
  obtain ⟨G, He, Hz, fx0, Hx⟩ := C
  dsimp only at hG hfx
  subst hG hfx
  have hu := L3.hu_of hr
  have hrH := L2H.roomH_of hr
  have hdep := L3.dep_of hr
  unfold s_p_law_broken
  exact qCons (qTg (qVar 0) (qgTup rfl rfl (qgsCons (i := 3) fxo_none S_p_law_broken.nd (qgsCons (i := 4) fxo_none S_p_law_broken.nd (qgsCons (i := 5) fxo_none S_p_law_broken.nd (qgsCons (i := 6) fxo_none S_p_law_broken.nd qgsNil)))))) (qCons (qIfS (tEq (m := true) rfl hu (qVar 1) (qInt)) (qLast (qRt (qmSh (qTup (qaCons (qAdd rfl (qVar 3) (qStr)) (qaCons (qVar 4) (qaCons (qVar 5) (qaCons (qVar 6) qaNil)))))))) (qNil)) (qCons (qIfS (tEq (m := true) rfl hu (qVar 1) (qInt)) (qLast (qRt (qmSh (qTup (qaCons (qStr) (qaCons (qVar 4) (qaCons (qVar 5) (qaCons (qVar 6) qaNil)))))))) (qNil)) (qCons (qIfS (tEq (m := true) rfl hu (qVar 1) (qInt)) (qLast (qRt (qmSh (qTup (qaCons (qAdd rfl (qMul (qStr) (qInt)) (qStr)) (qaCons (qVar 4) (qaCons (qVar 5) (qaCons (qVar 6) qaNil)))))))) (qNil)) (qCons (qIfS (tEq (m := true) rfl hu (qVar 1) (qInt)) (qLast (qRt (qmSh (qTup (qaCons (qVar 3) (qaCons (qVar 2) (qaCons (qVar 5) (qaCons (qVar 6) qaNil)))))))) (qNil)) (qCons (qIfS (tEq (m := true) rfl hu (qVar 1) (qInt)) (qLast (qRt (qmSh (qTup (qaCons (qVar 3) (qaCons (qNeg (qInt)) (qaCons (qVar 5) (qaCons (qVar 6) qaNil)))))))) (qNil)) (qCons (qIfS (tEq (m := true) rfl hu (qVar 1) (qInt)) (qLast (qRt (qmSh (qTup (qaCons (qVar 3) (qaCons (qVar 4) (qaCons (qInt) (qaCons (qVar 6) qaNil)))))))) (qNil)) (qCons (qIfS (tEq (m := true) rfl hu (qVar 1) (qInt)) (qLast (qRt (qmSh (qTup (qaCons (qVar 3) (qaCons (qVar 4) (qaCons (qVar 5) (qaCons (qAdd rfl (qVar 5) (qInt)) qaNil)))))))) (qNil)) (qCons (qIfS (tEq (m := true) rfl hu (qVar 1) (qInt)) (qLast (qRt (qmSh (qTup (qaCons (qVar 3) (qaCons (qVar 4) (qaCons (qVar 5) (qaCons (qNeg (qInt)) qaNil)))))))) (qNil)) (qLast (qRt (qmSh (qTup (qaCons (qAdd rfl (qSl rfl (qStr) (qoSome (qMod (qVar 1) (qInt))) (qoSome (qAdd rfl (qMod (qVar 1) (qInt)) (qInt)))) (qStr)) (qaCons (qVar 4) (qaCons (qVar 5) (qaCons (qVar 6) qaNil))))))))))))))))
theorem ok_p_law_reach (fx : Fx P Γ mg ad fd dv cv cu fI) : FnOk P w Γ.K mg base (L2N.CX P w) 1 (ad 30) (fd 30) ["marks", "moves", "position", "mark"] (spP Γ F_p_law_reach) := by
  refine qDef fx.F_p_law_reach S_p_law_reach rfl rfl fun cdv A outer s H E C hG hfx hr tk hp => ?_
  obtain ⟨G, He, Hz, fx0, Hx⟩ := C
  dsimp only at hG hfx
  subst hG hfx
  have hu := L3.hu_of hr
  have hrH := L2H.roomH_of hr
  have hdep := L3.dep_of hr
  unfold s_p_law_reach
  exact qCons (qSet (i := 4) fxo_none S_p_law_reach.nd (qmFr (qLst (qaCons (qVar 2) qaNil)))) (qCons (qFor (T := (.nm 5)) [5, 6] hp rfl (qiRng1 fx.gl_range (qaCons (qLen rfl fx.gl_len (qaCons (qVar 0) qaNil)) qaNil)) (fun _ => qgName (i := 5) fxo_none S_p_law_reach.nd) (fun _ => qLast (qIfS (tLt (m := false)  (qVar 5) (qLen rfl fx.gl_len (qaCons (qOwn 4) qaNil))) (qLast (qFor (T := (.nm 6)) [6] hp rfl (qiSeq rfl (qIdx rfl (qVar 1) (qFlat (qIdx rfl (qOwn 4) (qVar 5))))) (fun _ => qgName (i := 6) fxo_none S_p_law_reach.nd) (fun _ => qLast (qIfS (tNotIn (m := false) rfl hu (qIdx rfl (qVar 6) (qInt)) (qOwn 4)) (qLast (qApp (qpVar 4) (qmSh (qIdx rfl (qVar 6) (qInt))))) (qNil))))) (qNil)))) (qFzS 4 (qLast (qRt (qmSh (qIn rfl hu (qVar 3) (qFz ((qLc (T := .nm 7) rfl S_p_law_reach.nd (qiSeq rfl (qVar 4)) (own := [("at", 7)]) (blkOk_by rfl) (by decide) fxs_none (lcName (i := 7) fxo_none S_p_law_reach.nd rfl (fun _ _ => rfl)) (fun _ _ _ _ _ => qtsNil) (fun _ _ _ _ _ => qSh (qIdx rfl (qVar 0) (qVar 7))))))))))))
theorem ok_moves_fit (fx : Fx P Γ mg ad fd dv cv cu fI) (k_is_word : FnOk P w Γ.K mg base (L2N.CX P w) 1 (ad 2) (fd 2) ["word"] (spP Γ F_is_word)) : FnOk P w Γ.K mg base (L2N.CX P w) 2 (ad 3) (fd 3) ["moves", "size"] (spP Γ F_moves_fit) := by
  refine qDef fx.F_moves_fit S_moves_fit rfl rfl fun cdv A outer s H E C hG hfx hr tk hp => ?_
  obtain ⟨G, He, Hz, fx0, Hx⟩ := C
  dsimp only at hG hfx
  subst hG hfx
  have hu := L3.hu_of hr
  have hrH := L2H.roomH_of hr
  have hdep := L3.dep_of hr
  unfold s_moves_fit
  exact qCons (qIfS (qt_w (qw_or (tLt (m := true)  (qLen rfl fx.gl_len (qaCons (qVar 0) qaNil)) (qInt)) (qw_or1 (tGt (m := true)  (qLen rfl fx.gl_len (qaCons (qVar 0) qaNil)) (qGlob fx.G_MOST_MOVES.1 fx.G_MOST_MOVES.2 fx.R_MOST_MOVES))))) (qLast (qRt (qmSh (qBl)))) (qNil)) (qCons (qSet (i := 2) fxo_none S_moves_fit.nd (qmFr (qLst qaNil))) (qCons (qFor (T := (.tp [3, 4, 5, 6])) [3, 4, 5, 6] hp rfl (qiSeq rfl (qVar 0)) (fun _ => qgTup rfl rfl (qgsCons (i := 3) fxo_none S_moves_fit.nd (qgsCons (i := 4) fxo_none S_moves_fit.nd (qgsCons (i := 5) fxo_none S_moves_fit.nd (qgsCons (i := 6) fxo_none S_moves_fit.nd qgsNil))))) (fun _ => qCons (qIfS (qt_w (qw_or (qt_not (qtVal (m := true) (qFz ((qCall k_is_word (hr.mono (by decide)) tk fx.G_is_word fx.F_is_word.kp fx.B0_is_word.2 fx.B0_is_word.1 (fun _ => Reps.nil) (qaCons (qVar 3) qaNil)))))) (qw_or1 (tIn (m := false) rfl hu (qVar 3) (qOwn 2))))) (qLast (qRt (qmSh (qBl)))) (qNil)) (qCons (qIfS (qt_w (qw_or (tLt (m := true)  (qVar 4) (qInt)) (qw_or1 (tGe (m := true)  (qVar 4) (qVar 1))))) (qLast (qRt (qmSh (qBl)))) (qNil)) (qCons (qIfS (qt_w (qw_or (tLt (m := true)  (qVar 6) (qInt)) (qw_or (tLt (m := true)  (qVar 5) (qVar 6)) (qw_or1 (tGt (m := true)  (qVar 5) (qGlob fx.G_MOST_NEED.1 fx.G_MOST_NEED.2 fx.R_MOST_NEED)))))) (qLast (qRt (qmSh (qBl)))) (qNil)) (qLast (qApp (qpVar 2) (qmSh (qVar 3)))))))) (qLast (qRt (qmSh (qBl))))))
theorem ok_Game_mover (fx : Fx P Γ mg ad fd dv cv cu fI) (k_Game_checked : FnOk P w Γ.K mg base (L2N.CX P w) 1 (ad 7) (fd 7) ["self", "position"] (spP Γ F_Game_checked)) : FnOk P w Γ.K mg base (L2N.CX P w) 2 (ad 8) (fd 8) ["self", "position"] (spP Γ F_Game_mover) := by
  refine qDef fx.F_Game_mover S_Game_mover rfl rfl fun cdv A outer s H E C hG hfx hr tk hp => ?_
  obtain ⟨G, He, Hz, fx0, Hx⟩ := C
  dsimp only at hG hfx
  subst hG hfx
  have hu := L3.hu_of hr
  have hrH := L2H.roomH_of hr
  have hdep := L3.dep_of hr
  unfold s_Game_mover
  exact qCons (qSet (i := 2) fxo_none S_Game_mover.nd (qmSh (qIdx rfl (qFld (ok := ok_marks) rfl fx.FL_marks (qVar 0)) (qFz ((qMeth (c := 7) k_Game_checked fx.C_Game fx.MT_Game_checked (hr.mono (by decide)) tk fx.B0_Game_checked.2 fx.B0_Game_checked.1 (fun _ => Reps.nil) (qVar 0) (qaCons (qVar 1) qaNil))))))) (qCons (qIfS (qt_w (qw_or (tEq (m := true) rfl hu (qVar 2) (qGlob fx.G_FIRST.1 fx.G_FIRST.2 fx.R_FIRST)) (qw_or1 (tEq (m := true) rfl hu (qVar 2) (qGlob fx.G_SECOND.1 fx.G_SECOND.2 fx.R_SECOND))))) (qLast (qRt (qmSh (qVar 2)))) (qNil)) (qLast (qRt (qmSh (qInt)))))
theorem ok_Game_is_safe (fx : Fx P Γ mg ad fd dv cv cu fI) (k_Game_checked : FnOk P w Γ.K mg base (L2N.CX P w) 1 (ad 7) (fd 7) ["self", "position"] (spP Γ F_Game_checked)) : FnOk P w Γ.K mg base (L2N.CX P w) 2 (ad 9) (fd 9) ["self", "position"] (spP Γ F_Game_is_safe) := by
  refine qDef fx.F_Game_is_safe S_Game_is_safe rfl rfl fun cdv A outer s H E C hG hfx hr tk hp => ?_
  obtain ⟨G, He, Hz, fx0, Hx⟩ := C
  dsimp only at hG hfx
  subst hG hfx
  have hu := L3.hu_of hr
  have hrH := L2H.roomH_of hr
  have hdep := L3.dep_of hr
  unfold s_Game_is_safe
  exact qLast (qRt (qmSh (qIdx rfl (qFld (ok := ok__guarded) rfl fx.FL__guarded (qVar 0)) (qFz ((qMeth (c := 7) k_Game_checked fx.C_Game fx.MT_Game_checked (hr.mono (by decide)) tk fx.B0_Game_checked.2 fx.B0_Game_checked.1 (fun _ => Reps.nil) (qVar 0) (qaCons (qVar 1) qaNil)))))))
theorem ok_Game_index_of (fx : Fx P Γ mg ad fd dv cv cu fI) (k_Game_checked : FnOk P w Γ.K mg base (L2N.CX P w) 1 (ad 7) (fd 7) ["self", "position"] (spP Γ F_Game_checked)) : FnOk P w Γ.K mg base (L2N.CX P w) 2 (ad 10) (fd 10) ["self", "position", "word"] (spP Γ F_Game_index_of) := by
  refine qDef fx.F_Game_index_of S_Game_index_of rfl rfl fun cdv A outer s H E C hG hfx hr tk hp => ?_
  obtain ⟨G, He, Hz, fx0, Hx⟩ := C
  dsimp only at hG hfx
  subst hG hfx
  have hu := L3.hu_of hr
  have hrH := L2H.roomH_of hr
  have hdep := L3.dep_of hr
  unfold s_Game_index_of
  exact qCons (qSet (i := 3) fxo_none S_Game_index_of.nd (qmSh (qIdx rfl (qFld (ok := ok_moves) rfl fx.FL_moves (qVar 0)) (qFz ((qMeth (c := 7) k_Game_checked fx.C_Game fx.MT_Game_checked (hr.mono (by decide)) tk fx.B0_Game_checked.2 fx.B0_Game_checked.1 (fun _ => Reps.nil) (qVar 0) (qaCons (qVar 1) qaNil))))))) (qCons (qFor (T := (.nm 4)) [4] hp rfl (qiRng1 fx.gl_range (qaCons (qLen rfl fx.gl_len (qaCons (qVar 3) qaNil)) qaNil)) (fun _ => qgName (i := 4) fxo_none S_Game_index_of.nd) (fun _ => qLast (qIfS (tEq (m := true) rfl hu (qIdx rfl (qIdx rfl (qVar 3) (qVar 4)) (qInt)) (qVar 2)) (qLast (qRt (qmSh (qVar 4)))) (qNil)))) (qLast (qRz (c := 5) rfl tk fx.SU_NoMove fx.G_NoMove fx.KP_NoMove (fx.RS_NoMove _ rfl) hdep (qVar 2))))
theorem ok_ended_outcome (fx : Fx P Γ mg ad fd dv cv cu fI) (k_Game_checked : FnOk P w Γ.K mg base (L2N.CX P w) 1 (ad 7) (fd 7) ["self", "position"] (spP Γ F_Game_checked)) : FnOk P w Γ.K mg base (L2N.CX P w) 2 (ad 15) (fd 15) ["game", "position"] (spP Γ F_ended_outcome) := by
  refine qDef fx.F_ended_outcome S_ended_outcome rfl rfl fun cdv A outer s H E C hG hfx hr tk hp => ?_
  obtain ⟨G, He, Hz, fx0, Hx⟩ := C
  dsimp only at hG hfx
  subst hG hfx
  have hu := L3.hu_of hr
  have hrH := L2H.roomH_of hr
  have hdep := L3.dep_of hr
  unfold s_ended_outcome
  exact qLast (qRt (qmSh (qIdx rfl (qGlob fx.G_ENDED_OUTCOMES.1 fx.G_ENDED_OUTCOMES.2 fx.R_ENDED_OUTCOMES) (qIdx rfl (qFld (ok := ok_marks) rfl fx.FL_marks (qVar 0)) (qFz ((qMeth (c := 7) k_Game_checked fx.C_Game fx.MT_Game_checked (hr.mono (by decide)) tk fx.B0_Game_checked.2 fx.B0_Game_checked.1 (fun _ => Reps.nil) (qVar 0) (qaCons (qVar 1) qaNil))))))))
theorem ok_allowed_moves (fx : Fx P Γ mg ad fd dv cv cu fI) (k_Game_checked : FnOk P w Γ.K mg base (L2N.CX P w) 1 (ad 7) (fd 7) ["self", "position"] (spP Γ F_Game_checked)) (k_checked_amount : FnOk P w Γ.K mg base (L2N.CX P w) 1 (ad 0) (fd 0) ["amount"] (spP Γ F_checked_amount)) : FnOk P w Γ.K mg base (L2N.CX P w) 2 (ad 17) (fd 17) ["game", "position", "amount"] (spP Γ F_allowed_moves) := by
  refine qDef fx.F_allowed_moves S_allowed_moves rfl rfl fun cdv A outer s H E C hG hfx hr tk hp => ?_
  obtain ⟨G, He, Hz, fx0, Hx⟩ := C
  dsimp only at hG hfx
  subst hG hfx
  have hu := L3.hu_of hr
  have hrH := L2H.roomH_of hr
  have hdep := L3.dep_of hr
  unfold s_allowed_moves
  exact qCons (qSet (i := 3) fxo_none S_allowed_moves.nd (qmSh (qIdx rfl (qFld (ok := ok_moves) rfl fx.FL_moves (qVar 0)) (qFz ((qMeth (c := 7) k_Game_checked fx.C_Game fx.MT_Game_checked (hr.mono (by decide)) tk fx.B0_Game_checked.2 fx.B0_Game_checked.1 (fun _ => Reps.nil) (qVar 0) (qaCons (qVar 1) qaNil))))))) (qCons (qDoF ((qCall k_checked_amount (hr.mono (by decide)) tk fx.G_checked_amount fx.F_checked_amount.kp fx.B0_checked_amount.2 fx.B0_checked_amount.1 (fun _ => Reps.nil) (qaCons (qVar 2) qaNil)))) (qLast (qRt (qmSh (qFz ((qLc (T := .nm 4) rfl S_allowed_moves.nd (qiRng1 fx.gl_range (qaCons (qLen rfl fx.gl_len (qaCons (qVar 3) qaNil)) qaNil)) (own := [("index", 4)]) (blkOk_by rfl) (by decide) fxs_none (lcName (i := 4) fxo_none S_allowed_moves.nd rfl (fun _ _ => rfl)) (fun _ _ _ _ _ => qtsOne (tLe (m := true)  (qIdx rfl (qIdx rfl (qVar 3) (qVar 4)) (qInt)) (qVar 2))) (fun _ _ _ _ _ => qSh (qVar 4)))))))))
theorem ok_p_law_word (fx : Fx P Γ mg ad fd dv cv cu fI) (k_p_law_numbers : FnOk P w Γ.K mg base (L2N.CX P w) 1 (ad 22) (fd 22) ["cell", "salt", "count", "many"] (spP Γ F_p_law_numbers)) : FnOk P w Γ.K mg base (L2N.CX P w) 2 (ad 24) (fd 24) ["cell", "salt", "k"] (spP Γ F_p_law_word) := by
  refine qDef fx.F_p_law_word S_p_law_word rfl rfl fun cdv A outer s H E C hG hfx hr tk hp => ?_
  obtain ⟨G, He, Hz, fx0, Hx⟩ := C
  dsimp only at hG hfx
  subst hG hfx
  have hu := L3.hu_of hr
  have hrH := L2H.roomH_of hr
  have hdep := L3.dep_of hr
  unfold s_p_law_word
  exact qCons (qSet (i := 3) fxo_none S_p_law_word.nd (qmSh (qStr))) (qCons (qSet (i := 4) fxo_none S_p_law_word.nd (qmSh (qFz ((qCall k_p_law_numbers (hr.mono (by decide)) tk fx.G_p_law_numbers fx.F_p_law_numbers.kp fx.B0_p_law_numbers.2 fx.B0_p_law_numbers.1 (fun _ => Reps.nil) (qaCons (qVar 0) (qaCons (qVar 1) (qaCons (qInt) (qaCons (qInt) qaNil))))))))) (qCons (qSet (i := 5) fxo_none S_p_law_word.nd (qmSh (qStr))) (qCons (qFor (T := (.nm 6)) [6] hp rfl (qiRng1 fx.gl_range (qaCons (qMod (qIdx rfl (qVar 4) (qInt)) (qInt)) qaNil)) (fun _ => qgName (i := 6) fxo_none S_p_law_word.nd) (fun _ => qLast (qSet (i := 5) fxo_none S_p_law_word.nd (qmSh (qAdd rfl (qVar 5) (qIdx rfl (qVar 3) (qMod (qIdx rfl (qVar 4) (qVar 6)) (qInt)))))))) (qCons (qSet (i := 7) fxo_none S_p_law_word.nd (qmSh (qMod (qIdx rfl (qVar 4) (qInt)) (qAdd rfl (qLen rfl fx.gl_len (qaCons (qVar 5) qaNil)) (qInt))))) (qLast (qRt (qmSh (qAdd rfl (qAdd rfl (qSl rfl (qVar 5) qoNone (qoSome (qVar 7))) (qIdx rfl (qVar 3) (qMod (qAdd rfl (qIdx rfl (qVar 4) (qInt)) (qVar 2)) (qInt)))) (qSl rfl (qVar 5) (qoSome (qVar 7)) qoNone)))))))))
theorem ok_p_law_hopeless (fx : Fx P Γ mg ad fd dv cv cu fI) (k_p_law_reach : FnOk P w Γ.K mg base (L2N.CX P w) 1 (ad 30) (fd 30) ["marks", "moves", "position", "mark"] (spP Γ F_p_law_reach)) : FnOk P w Γ.K mg base (L2N.CX P w) 2 (ad 31) (fd 31) ["marks", "moves"] (spP Γ F_p_law_hopeless) := by
  refine qDef fx.F_p_law_hopeless S_p_law_hopeless rfl rfl fun cdv A outer s H E C hG hfx hr tk hp => ?_
  obtain ⟨G, He, Hz, fx0, Hx⟩ := C
  dsimp only at hG hfx
  subst hG hfx
  have hu := L3.hu_of hr
  have hrH := L2H.roomH_of hr
  have hdep := L3.dep_of hr
  unfold s_p_law_hopeless
  exact qCons (qSet (i := 2) fxo_none S_p_law_hopeless.nd (qmFr (qLst qaNil))) (qCons (qFor (T := (.nm 3)) [3] hp rfl (qiRng1 fx.gl_range (qaCons (qLen rfl fx.gl_len (qaCons (qVar 0) qaNil)) qaNil)) (fun _ => qgName (i := 3) fxo_none S_p_law_hopeless.nd) (fun _ => qLast (qIfS (qt_w (qw_and (tLt (m := true)  (qIdx rfl (qVar 0) (qVar 3)) (qInt)) (qw_and1 (qt_not (qtVal (m := true) (qFz ((qCall k_p_law_reach (hr.mono (by decide)) tk fx.G_p_law_reach fx.F_p_law_reach.kp fx.B0_p_law_reach.2 fx.B0_p_law_reach.1 (fun _ => Reps.nil) (qaCons (qVar 0) (qaCons (qVar 1) (qaCons (qVar 3) (qaCons (qSub (qInt) (qIdx rfl (qVar 0) (qVar 3))) qaNil)))))))))))) (qLast (qApp (qpVar 2) (qmSh (qVar 3)))) (qNil)))) (qLast (qRt (qmMv 2))))
theorem ok_position_fits (fx : Fx P Γ mg ad fd dv cv cu fI) (k_moves_fit : FnOk P w Γ.K mg base (L2N.CX P w) 2 (ad 3) (fd 3) ["moves", "size"] (spP Γ F_moves_fit)) : FnOk P w Γ.K mg base (L2N.CX P w) 3 (ad 4) (fd 4) ["mark", "moves", "size", "guarded"] (spP Γ F_position_fits) := by
  refine qDef fx.F_position_fits S_position_fits rfl rfl fun cdv A outer s H E C hG hfx hr tk hp => ?_
  obtain ⟨G, He, Hz, fx0, Hx⟩ := C
  dsimp only at hG hfx
  subst hG hfx
  have hu := L3.hu_of hr
  have hrH := L2H.roomH_of hr
  have hdep := L3.dep_of hr
  unfold s_position_fits
  exact qCons (qIfS (qt_w (qw_or (tEq (m := true) rfl hu (qVar 0) (qGlob fx.G_FIRST.1 fx.G_FIRST.2 fx.R_FIRST)) (qw_or1 (tEq (m := true) rfl hu (qVar 0) (qGlob fx.G_SECOND.1 fx.G_SECOND.2 fx.R_SECOND))))) (qLast (qRt (qmSh (qFz ((qCall k_moves_fit (hr.mono (by decide)) tk fx.G_moves_fit fx.F_moves_fit.kp fx.B0_moves_fit.2 fx.B0_moves_fit.1 (fun _ => Reps.nil) (qaCons (qVar 1) (qaCons (qVar 2) qaNil)))))))) (qNil)) (qCons (qIfS (qt_w (qw_and (tNe (m := true) rfl hu (qVar 0) (qGlob fx.G_WON.1 fx.G_WON.2 fx.R_WON)) (qw_and (tNe (m := true) rfl hu (qVar 0) (qGlob fx.G_LOST.1 fx.G_LOST.2 fx.R_LOST)) (qw_and1 (tNe (m := true) rfl hu (qVar 0) (qGlob fx.G_DRAWN.1 fx.G_DRAWN.2 fx.R_DRAWN)))))) (qLast (qRt (qmSh (qBl)))) (qNil)) (qLast (qRt (qmSh (qAnd (qEq rfl hu (qLen rfl fx.gl_len (qaCons (qVar 1) qaNil)) (qInt)) (qOne (qNot (qVar 3))))))))
theorem ok_flag_outcome (fx : Fx P Γ mg ad fd dv cv cu fI) (k_Game_is_safe : FnOk P w Γ.K mg base (L2N.CX P w) 2 (ad 9) (fd 9) ["self", "position"] (spP Γ F_Game_is_safe)) (k_Game_mover : FnOk P w Γ.K mg base (L2N.CX P w) 2 (ad 8) (fd 8) ["self", "position"] (spP Γ F_Game_mover)) (k_other_side : FnOk P w Γ.K mg base (L2N.CX P w) 1 (ad 1) (fd 1) ["side"] (spP Γ F_other_side)) : FnOk P w Γ.K mg base (L2N.CX P w) 3 (ad 16) (fd 16) ["game", "position"] (spP Γ F_flag_outcome) := by
  refine qDef fx.F_flag_outcome S_flag_outcome rfl rfl fun cdv A outer s H E C hG hfx hr tk hp => ?_
  obtain ⟨G, He, Hz, fx0, Hx⟩ := C
  dsimp only at hG hfx
  subst hG hfx
  have hu := L3.hu_of hr
  have hrH := L2H.roomH_of hr
  have hdep := L3.dep_of hr
  unfold s_flag_outcome
  exact qCons (qSet (i := 2) fxo_none S_flag_outcome.nd (qmSh (qFz ((qMeth (c := 7) k_Game_mover fx.C_Game fx.MT_Game_mover (hr.mono (by decide)) tk fx.B0_Game_mover.2 fx.B0_Game_mover.1 (fun _ => Reps.nil) (qVar 0) (qaCons (qVar 1) qaNil)))))) (qCons (qIfS (tEq (m := true) rfl hu (qVar 2) (qInt)) (qLast (qRz (c := 4) rfl tk fx.SU_NoPosition fx.G_NoPosition fx.KP_NoPosition (fx.RS_NoPosition _ rfl) hdep (qVar 1))) (qNil)) (qCons (qIfS (qtVal (m := true) (qFz ((qMeth (c := 7) k_Game_is_safe fx.C_Game fx.MT_Game_is_safe (hr.mono (by decide)) tk fx.B0_Game_is_safe.2 fx.B0_Game_is_safe.1 (fun _ => Reps.nil) (qVar 0) (qaCons (qVar 1) qaNil))))) (qLast (qRt (qmSh (qInt)))) (qNil)) (qLast (qRt (qmSh (qFz ((qCall k_other_side (hr.mono (by decide)) tk fx.G_other_side fx.F_other_side.kp fx.B0_other_side.2 fx.B0_other_side.1 (fun _ => Reps.nil) (qaCons (qVar 2) qaNil)))))))))
theorem ok_play (fx : Fx P Γ mg ad fd dv cv cu fI) (k_Game_mover : FnOk P w Γ.K mg base (L2N.CX P w) 2 (ad 8) (fd 8) ["self", "position"] (spP Γ F_Game_mover)) (k_checked_amount : FnOk P w Γ.K mg base (L2N.CX P w) 1 (ad 0) (fd 0) ["amount"] (spP Γ F_checked_amount)) : FnOk P w Γ.K mg base (L2N.CX P w) 3 (ad 18) (fd 18) ["game", "position", "first", "second", "index"] (spP Γ F_play) := by
  refine qDef fx.F_play S_play rfl rfl fun cdv A outer s H E C hG hfx hr tk hp => ?_
  obtain ⟨G, He, Hz, fx0, Hx⟩ := C
  dsimp only at hG hfx
  subst hG hfx
  have hu := L3.hu_of hr
  have hrH := L2H.roomH_of hr
  have hdep := L3.dep_of hr
  unfold s_play
  exact qCons (qSet (i := 5) fxo_none S_play.nd (qmSh (qFz ((qMeth (c := 7) k_Game_mover fx.C_Game fx.MT_Game_mover (hr.mono (by decide)) tk fx.B0_Game_mover.2 fx.B0_Game_mover.1 (fun _ => Reps.nil) (qVar 0) (qaCons (qVar 1) qaNil)))))) (qCons (qDoF ((qCall k_checked_amount (hr.mono (by decide)) tk fx.G_checked_amount fx.F_checked_amount.kp fx.B0_checked_amount.2 fx.B0_checked_amount.1 (fun _ => Reps.nil) (qaCons (qVar 2) qaNil)))) (qCons (qDoF ((qCall k_checked_amount (hr.mono (by decide)) tk fx.G_checked_amount fx.F_checked_amount.kp fx.B0_checked_amount.2 fx.B0_checked_amount.1 (fun _ => Reps.nil) (qaCons (qVar 3) qaNil)))) (qCons (qSet (i := 6) fxo_none S_play.nd (qmSh (qIdx rfl (qFld (ok := ok_moves) rfl fx.FL_moves (qVar 0)) (qVar 1)))) (qCons (qIfS (qt_w (qw_or (tLt (m := true)  (qVar 4) (qInt)) (qw_or1 (tGe (m := true)  (qVar 4) (qLen rfl fx.gl_len (qaCons (qVar 6) qaNil)))))) (qLast (qRz (c := 5) rfl tk fx.SU_NoMove fx.G_NoMove fx.KP_NoMove (fx.RS_NoMove _ rfl) hdep (qVar 4))) (qNil)) (qCons (qTg (qSl rfl (qIdx rfl (qVar 6) (qVar 4)) (qoSome (qInt)) qoNone) (qgTup rfl rfl (qgsCons (i := 7) fxo_none S_play.nd (qgsCons (i := 8) fxo_none S_play.nd (qgsCons (i := 9) fxo_none S_play.nd qgsNil))))) (qCons (qSet (i := 10) fxo_none S_play.nd (qmSh (qIf (tEq (m := true) rfl hu (qVar 5) (qGlob fx.G_FIRST.1 fx.G_FIRST.2 fx.R_FIRST)) (qVar 2) (qVar 3)))) (qCons (qIfS (tGt (m := true)  (qVar 8) (qVar 10)) (qLast (qRz (c := 6) rfl tk fx.SU_NoTime fx.G_NoTime fx.KP_NoTime (fx.RS_NoTime _ rfl) hdep (qVar 8))) (qNil)) (qCons (qIfS (tEq (m := true) rfl hu (qVar 5) (qGlob fx.G_FIRST.1 fx.G_FIRST.2 fx.R_FIRST)) (qLast (qRt (qmSh (qTup (qaCons (qVar 7) (qaCons (qSub (qVar 2) (qVar 9)) (qaCons (qVar 3) qaNil))))))) (qNil)) (qLast (qRt (qmSh (qTup (qaCons (qVar 7) (qaCons (qVar 2) (qaCons (qSub (qVar 3) (qVar 9)) qaNil)))))))))))))))
theorem ok_hopeless (fx : Fx P Γ mg ad fd dv cv cu fI) (k_Game_mover : FnOk P w Γ.K mg base (L2N.CX P w) 2 (ad 8) (fd 8) ["self", "position"] (spP Γ F_Game_mover)) (k_reaching : FnOk P w Γ.K mg base (L2N.CX P w) 1 (ad 19) (fd 19) ["game", "mark"] (spP Γ F_reaching)) : FnOk P w Γ.K mg base (L2N.CX P w) 3 (ad 20) (fd 20) ["game"] (spP Γ F_hopeless) := by
  refine qDef fx.F_hopeless S_hopeless rfl rfl fun cdv A outer s H E C hG hfx hr tk hp => ?_
  obtain ⟨G, He, Hz, fx0, Hx⟩ := C
  dsimp only at hG hfx
  subst hG hfx
  have hu := L3.hu_of hr
  have hrH := L2H.roomH_of hr
  have hdep := L3.dep_of hr
  unfold s_hopeless
  exact qCons (qSet (i := 1) fxo_none S_hopeless.nd (qmSh (qFz ((qCall k_reaching (hr.mono (by decide)) tk fx.G_reaching fx.F_reaching.kp fx.B0_reaching.2 fx.B0_reaching.1 (fun _ => Reps.nil) (qaCons (qVar 0) (qaCons (qGlob fx.G_WON.1 fx.G_WON.2 fx.R_WON) qaNil))))))) (qCons (qSet (i := 2) fxo_none S_hopeless.nd (qmSh (qFz ((qCall k_reaching (hr.mono (by decide)) tk fx.G_reaching fx.F_reaching.kp fx.B0_reaching.2 fx.B0_reaching.1 (fun _ => Reps.nil) (qaCons (qVar 0) (qaCons (qGlob fx.G_LOST.1 fx.G_LOST.2 fx.R_LOST) qaNil))))))) (qCons (qSet (i := 3) fxo_none S_hopeless.nd (qmFr (qLst qaNil))) (qCons (qFor (T := (.nm 4)) [4, 5] hp rfl (qiRng1 fx.gl_range (qaCons (qFld (ok := ok_size) rfl fx.FL_size (qVar 0)) qaNil)) (fun _ => qgName (i := 4) fxo_none S_hopeless.nd) (fun _ => qCons (qSet (i := 5) fxo_none S_hopeless.nd (qmSh (qFz ((qMeth (c := 7) k_Game_mover fx.C_Game fx.MT_Game_mover (hr.mono (by decide)) tk fx.B0_Game_mover.2 fx.B0_Game_mover.1 (fun _ => Reps.nil) (qVar 0) (qaCons (qVar 4) qaNil)))))) (qLast (qIfS (qt_w (qw_or (qt_w (qw_and (tEq (m := true) rfl hu (qVar 5) (qGlob fx.G_FIRST.1 fx.G_FIRST.2 fx.R_FIRST)) (qw_and1 (qt_not (qtVal (m := true) (qIdx rfl (qVar 2) (qVar 4))))))) (qw_or1 (qt_w (qw_and (tEq (m := true) rfl hu (qVar 5) (qGlob fx.G_SECOND.1 fx.G_SECOND.2 fx.R_SECOND)) (qw_and1 (qt_not (qtVal (m := true) (qIdx rfl (qVar 1) (qVar 4)))))))))) (qLast (qApp (qpVar 3) (qmSh (qVar 4)))) (qNil))))) (qLast (qRt (qmMv 3))))))
theorem ok_p_law_build (fx : Fx P Γ mg ad fd dv cv cu fI) (k_p_law_cell : FnOk P w Γ.K mg base (L2N.CX P w) 1 (ad 21) (fd 21) ["script", "k"] (spP Γ F_p_law_cell)) (k_p_law_numbers : FnOk P w Γ.K mg base (L2N.CX P w) 1 (ad 22) (fd 22) ["cell", "salt", "count", "many"] (spP Γ F_p_law_numbers)) (k_p_law_word : FnOk P w Γ.K mg base (L2N.CX P w) 2 (ad 24) (fd 24) ["cell", "salt", "k"] (spP Γ F_p_law_word)) : FnOk P w Γ.K mg base (L2N.CX P w) 3 (ad 25) (fd 25) ["script"] (spP Γ F_p_law_build) := by
  refine qDef fx.F_p_law_build S_p_law_build rfl rfl fun cdv A outer s H E C hG hfx hr tk hp => ?_
  obtain ⟨G, He, Hz, fx0, Hx⟩ := C
  dsimp only at hG hfx
  subst hG hfx
  have hu := L3.hu_of hr
  have hrH := L2H.roomH_of hr
  have hdep := L3.dep_of hr
  unfold s_p_law_build
  exact qCons (qSet (i := 1) fxo_none S_p_law_build.nd (qmSh (qFz ((qCall k_p_law_numbers (hr.mono (by decide)) tk fx.G_p_law_numbers fx.F_p_law_numbers.kp fx.B0_p_law_numbers.2 fx.B0_p_law_numbers.1 (fun _ => Reps.nil) (qaCons (qFz ((qCall k_p_law_cell (hr.mono (by decide)) tk fx.G_p_law_cell fx.F_p_law_cell.kp fx.B0_p_law_cell.2 fx.B0_p_law_cell.1 (fun _ => Reps.nil) (qaCons (qVar 0) (qaCons (qInt) qaNil))))) (qaCons (qInt) (qaCons (qInt) (qaCons (qInt) qaNil))))))))) (qCons (qSet (i := 2) fxo_none S_p_law_build.nd (qmSh (qAdd rfl (qInt) (qMod (qIdx rfl (qVar 1) (qInt)) (qInt))))) (qCons (qIfS (tEq (m := true) rfl hu (qMod (qIdx rfl (qVar 1) (qInt)) (qInt)) (qInt)) (qLast (qSet (i := 2) fxo_none S_p_law_build.nd (qmSh (qAdd rfl (qInt) (qMod (qIdx rfl (qVar 1) (qInt)) (qInt)))))) (qNil)) (qCons (qSet (i := 3) fxo_none S_p_law_build.nd (qmSh (qFz ((qCall k_p_law_numbers (hr.mono (by decide)) tk fx.G_p_law_numbers fx.F_p_law_numbers.kp fx.B0_p_law_numbers.2 fx.B0_p_law_numbers.1 (fun _ => Reps.nil) (qaCons (qFz ((qCall k_p_law_cell (hr.mono (by decide)) tk fx.G_p_law_cell fx.F_p_law_cell.kp fx.B0_p_law_cell.2 fx.B0_p_law_cell.1 (fun _ => Reps.nil) (qaCons (qVar 0) (qaCons (qInt) qaNil))))) (qaCons (qInt) (qaCons (qVar 2) (qaCons (qInt) qaNil))))))))) (qCons (qSetLc (T := .nm 15) fxo_none rfl S_p_law_build.nd (qiSeq rfl (qVar 3)) (own := [("kind", 15)]) (blkOk_by rfl) (by decide) fxs_none (lcName (i := 15) fxo_none S_p_law_build.nd rfl (fun _ _ => rfl)) (fun _ _ _ _ _ => qtsNil) (fun _ _ _ _ _ => qSh (qIdx rfl (qFz (qLst (qaCons (qInt) (qaCons (qInt) (qaCons (qInt) (qaCons (qInt) (qaCons (qInt) (qaCons (qInt) (qaCons (qInt) (qaCons (qInt) (qaCons (qInt) qaNil))))))))))) (qMod (qVar 15) (qInt)))) (sw_true rfl rfl rfl rfl)) (qFzS 4 (qCons (qSet (i := 5) fxo_none S_p_law_build.nd (qmFr (qLst qaNil))) (qCons (qSet (i := 6) fxo_none S_p_law_build.nd (qmFr (qLst qaNil))) (qCons (qFor (T := (.nm 7)) [7, 8, 9, 10, 11, 12, 13, 14] hp rfl (qiRng1 fx.gl_range (qaCons (qVar 2) qaNil)) (fun _ => qgName (i := 7) fxo_none S_p_law_build.nd) (fun _ => qCons (qSet (i := 8) fxo_none S_p_law_build.nd (qmFr (qLst qaNil))) (qCons (qIfS (tLt (m := true)  (qIdx rfl (qVar 4) (qVar 7)) (qInt)) (qCons (qSet (i := 9) fxo_none S_p_law_build.nd (qmSh (qAdd rfl (qInt) (qMod (qFdiv (qIdx rfl (qVar 3) (qVar 7)) (qInt)) (qInt))))) (qCons (qIfS (qt_w (qw_and (tEq (m := true) rfl hu (qMod (qFdiv (qIdx rfl (qVar 3) (qVar 7)) (qInt)) (qInt)) (qInt)) (qw_and1 (tEq (m := true) rfl hu (qMod (qVar 7) (qInt)) (qInt))))) (qLast (qSet (i := 9) fxo_none S_p_law_build.nd (qmSh (qInt)))) (qNil)) (qCons (qSet (i := 10) fxo_none S_p_law_build.nd (qmSh (qFz ((qCall k_p_law_numbers (hr.mono (by decide)) tk fx.G_p_law_numbers fx.F_p_law_numbers.kp fx.B0_p_law_numbers.2 fx.B0_p_law_numbers.1 (fun _ => Reps.nil) (qaCons (qFz ((qCall k_p_law_cell (hr.mono (by decide)) tk fx.G_p_law_cell fx.F_p_law_cell.kp fx.B0_p_law_cell.2 fx.B0_p_law_cell.1 (fun _ => Reps.nil) (qaCons (qVar 0) (qaCons (qAdd rfl (qInt) (qMod (qVar 7) (qInt))) qaNil))))) (qaCons (qAdd rfl (qInt) (qVar 7)) (qaCons (qMul (qInt) (qVar 9)) (qaCons (qMul (qInt) (qVar 2)) qaNil))))))))) (qCons (qFor (T := (.nm 11)) [11, 12, 13, 14] hp rfl (qiRng1 fx.gl_range (qaCons (qVar 9) qaNil)) (fun _ => qgName (i := 11) fxo_none S_p_law_build.nd) (fun _ => qCons (qSet (i := 12) fxo_none S_p_law_build.nd (qmSh (qMod (qIdx rfl (qVar 10) (qMul (qInt) (qVar 11))) (qInt)))) (qCons (qSet (i := 13) fxo_none S_p_law_build.nd (qmSh (qMod (qIdx rfl (qVar 10) (qAdd rfl (qMul (qInt) (qVar 11)) (qInt))) (qAdd rfl (qVar 12) (qInt))))) (qCons (qSet (i := 14) fxo_none S_p_law_build.nd (qmSh (qFz ((qCall k_p_law_word (hr.mono (by decide)) tk fx.G_p_law_word fx.F_p_law_word.kp fx.B0_p_law_word.2 fx.B0_p_law_word.1 (fun _ => Reps.nil) (qaCons (qFz ((qCall k_p_law_cell (hr.mono (by decide)) tk fx.G_p_law_cell fx.F_p_law_cell.kp fx.B0_p_law_cell.2 fx.B0_p_law_cell.1 (fun _ => Reps.nil) (qaCons (qVar 0) (qaCons (qAdd rfl (qInt) (qMod (qVar 7) (qInt))) qaNil))))) (qaCons (qAdd rfl (qInt) (qVar 7)) (qaCons (qVar 11) qaNil)))))))) (qLast (qApp (qpVar 8) (qmSh (qTup (qaCons (qVar 14) (qaCons (qMod (qIdx rfl (qVar 10) (qAdd rfl (qMul (qInt) (qVar 11)) (qInt))) (qVar 2)) (qaCons (qVar 12) (qaCons (qVar 13) qaNil)))))))))))) (qLast (qIfS (tEq (m := true) rfl hu (qMod (qIdx rfl (qVar 3) (qVar 7)) (qInt)) (qInt)) (qLast (qApp (qpVar 6) (qmSh (qVar 7)))) (qNil))))))) (qNil)) (qLast (qApp (qpVar 5) (qmMv 8)))))) (qFzS 5 (qFzS 6 (qLast (qRt (qmSh (qFz (qLst (qaCons (qVar 4) (qaCons (qVar 5) (qaCons (qVar 6) qaNil))))))))))))))))))
theorem ok_Game_init (fx : Fx P Γ mg ad fd dv cv cu fI) (k_guards : FnOk P w Γ.K mg base (L2N.CX P w) 1 (ad 5) (fd 5) ["safe", "size"] (spP Γ F_guards)) (k_position_fits : FnOk P w Γ.K mg base (L2N.CX P w) 3 (ad 4) (fd 4) ["mark", "moves", "size", "guarded"] (spP Γ F_position_fits)) : FnOk P w Γ.K mg base (L2N.CX P w) 4 (ad 6) (fd 6) ["self", "marks", "moves", "safe"] (spI Γ 7 F_Game_init) := by
  refine qInit fx.F_Game_init S_Game_init rfl rfl fun cdv A outer s H E self C hG hfx hr tk hp => ?_
  obtain ⟨G, He, Hz, fx0, Hx⟩ := C
  dsimp only at hG hfx
  subst hG hfx
  have hu := L3.hu_of hr
  have hrH := L2H.roomH_of hr
  have hdep := L3.dep_of hr
  unfold s_Game_init
  exact qCons (qSet (i := 4) (fxo_some (by decide)) S_Game_init.nd (qmSh (qLen rfl fx.gl_len (qaCons (qVar 1) qaNil)))) (qCons (qIfS (qt_w (qw_or (tLt (m := true)  (qVar 4) (qInt)) (qw_or (tGt (m := true)  (qVar 4) (qGlob fx.G_MOST_POSITIONS.1 fx.G_MOST_POSITIONS.2 fx.R_MOST_POSITIONS)) (qw_or1 (tNe (m := true) rfl hu (qLen rfl fx.gl_len (qaCons (qVar 2) qaNil)) (qVar 4)))))) (qLast (qRz (c := 3) rfl tk fx.SU_BadGame fx.G_BadGame fx.KP_BadGame (fx.RS_BadGame _ rfl) hdep (qNeg (qInt)))) (qNil)) (qCons (qSet (i := 5) (fxo_some (by decide)) S_Game_init.nd (qmSh (qFz ((qCall k_guards (hr.mono (by decide)) tk fx.G_guards fx.F_guards.kp fx.B0_guards.2 fx.B0_guards.1 (fun _ => Reps.nil) (qaCons (qVar 3) (qaCons (qVar 4) qaNil))))))) (qCons (qFor (T := (.nm 6)) [6] hp rfl (qiRng1 fx.gl_range (qaCons (qVar 4) qaNil)) (fun _ => qgName (i := 6) (fxo_some (by decide)) S_Game_init.nd) (fun _ => qLast (qIfS (qt_not (qtVal (m := true) (qFz ((qCall k_position_fits (hr.mono (by decide)) tk fx.G_position_fits fx.F_position_fits.kp fx.B0_position_fits.2 fx.B0_position_fits.1 (fun _ => Reps.nil) (qaCons (qIdx rfl (qVar 1) (qVar 6)) (qaCons (qIdx rfl (qVar 2) (qVar 6)) (qaCons (qVar 4) (qaCons (qIdx rfl (qVar 5) (qVar 6)) qaNil))))))))) (qLast (qRz (c := 3) rfl tk fx.SU_BadGame fx.G_BadGame fx.KP_BadGame (fx.RS_BadGame _ rfl) hdep (qVar 6))) (qNil)))) (qCons (qFl (ok := ok_size) rfl fx.FL_size (qmSh (qVar 4)) (qpVar 0)) (qCons (qFl (ok := ok_marks) rfl fx.FL_marks (qmSh (qTuple rfl fx.gl_tuple (qaCons (qVar 1) qaNil))) (qpVar 0)) (qCons (qFl (ok := ok_moves) rfl fx.FL_moves (qmSh (qTuple rfl fx.gl_tuple (qaCons (qFz ((qLc (T := .nm 7) rfl S_Game_init.nd (qiSeq rfl (qVar 2)) (own := [("row", 7)]) (blkOk_by rfl) (by decide) (fxs_some (by decide)) (lcName (i := 7) (fxo_some (by decide)) S_Game_init.nd rfl (fun _ _ => rfl)) (fun _ _ _ _ _ => qtsNil) (fun _ _ _ _ _ => qSh (qTuple rfl fx.gl_tuple (qaCons (qFz ((qLc (T := .nm 8) rfl S_Game_init.nd (qiSeq rfl (qVar 7)) (own := [("move", 8)]) (blkOk_by rfl) (by decide) (fxs_some (by decide)) (lcName (i := 8) (fxo_some (by decide)) S_Game_init.nd rfl (fun _ _ => rfl)) (fun _ _ _ _ _ => qtsNil) (fun _ _ _ _ _ => qSh (qTuple rfl fx.gl_tuple (qaCons (qVar 8) qaNil)))))) qaNil)))))) qaNil))) (qpVar 0)) (qCons (qFl (ok := ok_safe) rfl fx.FL_safe (qmSh (qTuple rfl fx.gl_tuple (qaCons (qVar 3) qaNil))) (qpVar 0)) (qLast (qFl (ok := ok__guarded) rfl fx.FL__guarded (qmSh (qVar 5)) (qpVar 0))))))))))
theorem ok_p_law_error (fx : Fx P Γ mg ad fd dv cv cu fI) (k_play : FnOk P w Γ.K mg base (L2N.CX P w) 3 (ad 18) (fd 18) ["game", "position", "first", "second", "index"] (spP Γ F_play)) : FnOk P w Γ.K mg base (L2N.CX P w) 4 (ad 32) (fd 32) ["game", "position", "first", "second", "index"] (spP Γ F_p_law_error) := by
  refine qDef fx.F_p_law_error S_p_law_error rfl rfl fun cdv A outer s H E C hG hfx hr tk hp => ?_
  obtain ⟨G, He, Hz, fx0, Hx⟩ := C
  dsimp only at hG hfx
  subst hG hfx
  have hu := L3.hu_of hr
  have hrH := L2H.roomH_of hr
  have hdep := L3.dep_of hr
  unfold s_p_law_error
  exact qCons (qTry rfl rfl rfl tk (fun W pl xe tk hp => qLast (qDoF ((qCall k_play (hr.mono (by decide)) tk fx.G_play fx.F_play.kp fx.B0_play.2 fx.B0_play.1 (fun _ => Reps.nil) (qaCons (qVar 0) (qaCons (qVar 1) (qaCons (qVar 2) (qaCons (qVar 3) (qaCons (qVar 4) qaNil))))))))) (.named (i := 5) (mt := mt_NoPosition) S_p_law_error.nd ⟨rfl, by decide, .inl fx.G_NoPosition⟩ fx.MTX_NoPosition (fun a ob cls d pl x Hx hz hf rx => qLast (qRt (qmSh (qFz (qLst (qaCons (qStr) (qaCons (qXf (ok := okx_position) fx.XF_position hz hf rx) qaNil))))))) (.named (i := 5) (mt := mt_BadAmount) S_p_law_error.nd ⟨rfl, by decide, .inl fx.G_BadAmount⟩ fx.MTX_BadAmount (fun a ob cls d pl x Hx hz hf rx => qLast (qRt (qmSh (qFz (qLst (qaCons (qStr) (qaCons (qXf (ok := okx_amount) fx.XF_amount hz hf rx) qaNil))))))) (.named (i := 5) (mt := mt_NoMove) S_p_law_error.nd ⟨rfl, by decide, .inl fx.G_NoMove⟩ fx.MTX_NoMove (fun a ob cls d pl x Hx hz hf rx => qLast (qRt (qmSh (qFz (qLst (qaCons (qStr) (qaCons (qXf (ok := okx_move) fx.XF_move hz hf rx) qaNil))))))) (.named (i := 5) (mt := mt_NoTime) S_p_law_error.nd ⟨rfl, by decide, .inl fx.G_NoTime⟩ fx.MTX_NoTime (fun a ob cls d pl x Hx hz hf rx => qLast (qRt (qmSh (qFz (qLst (qaCons (qStr) (qaCons (qXf (ok := okx_need) fx.XF_need hz hf rx) qaNil))))))) .nil))))) (qLast (qRt (qmSh (qFz (qLst (qaCons (qStr) (qaCons (qInt) qaNil)))))))
theorem ok_p_law_standing (fx : Fx P Γ mg ad fd dv cv cu fI) (k_p_law_error : FnOk P w Γ.K mg base (L2N.CX P w) 4 (ad 32) (fd 32) ["game", "position", "first", "second", "index"] (spP Γ F_p_law_error)) (k_p_law_is : FnOk P w Γ.K mg base (L2N.CX P w) 1 (ad 23) (fd 23) ["actual", "expected"] (spP Γ F_p_law_is)) (k_play : FnOk P w Γ.K mg base (L2N.CX P w) 3 (ad 18) (fd 18) ["game", "position", "first", "second", "index"] (spP Γ F_play)) : FnOk P w Γ.K mg base (L2N.CX P w) 5 (ad 33) (fd 33) ["game", "position", "amount", "other", "index", "marks", "moves"] (spP Γ F_p_law_standing) := by
  refine qDef fx.F_p_law_standing S_p_law_standing rfl rfl fun cdv A outer s H E C hG hfx hr tk hp => ?_
  obtain ⟨G, He, Hz, fx0, Hx⟩ := C
  dsimp only at hG hfx
  subst hG hfx
  have hu := L3.hu_of hr
  have hrH := L2H.roomH_of hr
  have hdep := L3.dep_of hr
  unfold s_p_law_standing
  exact qCons (qSet (i := 7) fxo_none S_p_law_standing.nd (qmSh (qIdx rfl (qIdx rfl (qVar 6) (qVar 1)) (qVar 4)))) (qCons (qSet (i := 8) fxo_none S_p_law_standing.nd (qmSh (qIdx rfl (qVar 5) (qVar 1)))) (qCons (qSet (i := 9) fxo_none S_p_law_standing.nd (qmSh (qIf (tEq (m := true) rfl hu (qVar 8) (qInt)) (qVar 2) (qVar 3)))) (qCons (qSet (i := 10) fxo_none S_p_law_standing.nd (qmSh (qIf (tEq (m := true) rfl hu (qVar 8) (qInt)) (qVar 3) (qVar 2)))) (qCons (qIfS (tGt (m := true)  (qIdx rfl (qVar 7) (qInt)) (qVar 2)) (qLast (qRt (qmSh (qEq rfl hu (qFz ((qCall k_p_law_error (hr.mono (by decide)) tk fx.G_p_law_error fx.F_p_law_error.kp fx.B0_p_law_error.2 fx.B0_p_law_error.1 (fun _ => Reps.nil) (qaCons (qVar 0) (qaCons (qVar 1) (qaCons (qVar 9) (qaCons (qVar 10) (qaCons (qVar 4) qaNil)))))))) (qFz (qLst (qaCons (qStr) (qaCons (qIdx rfl (qVar 7) (qInt)) qaNil)))))))) (qNil)) (qCons (qSet (i := 11) fxo_none S_p_law_standing.nd (qmSh (qFz ((qCall k_play (hr.mono (by decide)) tk fx.G_play fx.F_play.kp fx.B0_play.2 fx.B0_play.1 (fun _ => Reps.nil) (qaCons (qVar 0) (qaCons (qVar 1) (qaCons (qVar 9) (qaCons (qVar 10) (qaCons (qVar 4) qaNil)))))))))) (qCons (qIfS (qt_w (qw_or (qt_not (qtVal (m := true) (qIsiT (tb := tbT "tuple") (ib := ibN) rfl fx.gl_isinstance fx.gl_tuple bt_tuple tbT_ok ibN_ok (qVar 11)))) (qw_or (tNe (m := true) rfl hu (qLen rfl fx.gl_len (qaCons (qVar 11) qaNil)) (qInt)) (qw_or1 (qt_not (qtVal (m := true) (qFz ((qCall k_p_law_is (hr.mono (by decide)) tk fx.G_p_law_is fx.F_p_law_is.kp fx.B0_p_law_is.2 fx.B0_p_law_is.1 (fun _ => Reps.nil) (qaCons (qIdx rfl (qVar 11) (qInt)) (qaCons (qIdx rfl (qVar 7) (qInt)) qaNil))))))))))) (qLast (qRt (qmSh (qBl)))) (qNil)) (qCons (qSet (i := 12) fxo_none S_p_law_standing.nd (qmSh (qIf (tEq (m := true) rfl hu (qVar 8) (qInt)) (qFz (qLst (qaCons (qSub (qVar 9) (qIdx rfl (qVar 7) (qInt))) (qaCons (qVar 10) qaNil)))) (qFz (qLst (qaCons (qVar 9) (qaCons (qSub (qVar 10) (qIdx rfl (qVar 7) (qInt))) qaNil))))))) (qLast (qRt (qmSh (qAnd (qFz ((qCall k_p_law_is (hr.mono (by decide)) tk fx.G_p_law_is fx.F_p_law_is.kp fx.B0_p_law_is.2 fx.B0_p_law_is.1 (fun _ => Reps.nil) (qaCons (qIdx rfl (qVar 11) (qInt)) (qaCons (qIdx rfl (qVar 12) (qInt)) qaNil))))) (qOne (qFz ((qCall k_p_law_is (hr.mono (by decide)) tk fx.G_p_law_is fx.F_p_law_is.kp fx.B0_p_law_is.2 fx.B0_p_law_is.1 (fun _ => Reps.nil) (qaCons (qIdx rfl (qVar 11) (qInt)) (qaCons (qIdx rfl (qVar 12) (qInt)) qaNil)))))))))))))))))
theorem ok_p_law_errors (fx : Fx P Γ mg ad fd dv cv cu fI) (k_Game_index_of : FnOk P w Γ.K mg base (L2N.CX P w) 2 (ad 10) (fd 10) ["self", "position", "word"] (spP Γ F_Game_index_of)) (k_Game_is_safe : FnOk P w Γ.K mg base (L2N.CX P w) 2 (ad 9) (fd 9) ["self", "position"] (spP Γ F_Game_is_safe)) (k_Game_mover : FnOk P w Γ.K mg base (L2N.CX P w) 2 (ad 8) (fd 8) ["self", "position"] (spP Γ F_Game_mover)) (k_p_law_error : FnOk P w Γ.K mg base (L2N.CX P w) 4 (ad 32) (fd 32) ["game", "position", "first", "second", "index"] (spP Γ F_p_law_error)) (h_p_law_is : L2H.FnH P w Γ.K mg base (L2N.CX P w) 1 (ad 23) (fd 23) ["actual", "expected"] (spP Γ F_p_law_is)) (k_allowed_moves : FnOk P w Γ.K mg base (L2N.CX P w) 2 (ad 17) (fd 17) ["game", "position", "amount"] (spP Γ F_allowed_moves)) (k_ended_outcome : FnOk P w Γ.K mg base (L2N.CX P w) 2 (ad 15) (fd 15) ["game", "position"] (spP Γ F_ended_outcome)) (k_flag_outcome : FnOk P w Γ.K mg base (L2N.CX P w) 3 (ad 16) (fd 16) ["game", "position"] (spP Γ F_flag_outcome)) : FnOk P w Γ.K mg base (L2N.CX P w) 5 (ad 34) (fd 34) ["game", "size", "position", "count", "big"] (spP Γ F_p_law_errors) := by
  refine qDef fx.F_p_law_errors S_p_law_errors rfl rfl fun cdv A outer s H E C hG hfx hr tk hp => ?_
  obtain ⟨G, He, Hz, fx0, Hx⟩ := C
  dsimp only at hG hfx
  subst hG hfx
  have hu := L3.hu_of hr
  have hrH := L2H.roomH_of hr
  have hdep := L3.dep_of hr
  unfold s_p_law_errors
  exact qCons (qIfS (qt_w (qw_or (tNe (m := true) rfl hu (qFz ((qCall k_p_law_error (hr.mono (by decide)) tk fx.G_p_law_error fx.F_p_law_error.kp fx.B0_p_law_error.2 fx.B0_p_law_error.1 (fun _ => Reps.nil) (qaCons (qVar 0) (qaCons (qVar 1) (qaCons (qNeg (qInt)) (qaCons (qAdd rfl (qVar 4) (qInt)) (qaCons (qNeg (qInt)) qaNil)))))))) (qFz (qLst (qaCons (qStr) (qaCons (qVar 1) qaNil))))) (qw_or1 (tNe (m := true) rfl hu (qFz ((qCall k_p_law_error (hr.mono (by decide)) tk fx.G_p_law_error fx.F_p_law_error.kp fx.B0_p_law_error.2 fx.B0_p_law_error.1 (fun _ => Reps.nil) (qaCons (qVar 0) (qaCons (qNeg (qInt)) (qaCons (qInt) (qaCons (qInt) (qaCons (qInt) qaNil)))))))) (qFz (qLst (qaCons (qStr) (qaCons (qNeg (qInt)) qaNil)))))))) (qLast (qRt (qmSh (qBl)))) (qNil)) (qCons (qIfS (tNe (m := true) rfl hu (qFz ((qCall k_p_law_error (hr.mono (by decide)) tk fx.G_p_law_error fx.F_p_law_error.kp fx.B0_p_law_error.2 fx.B0_p_law_error.1 (fun _ => Reps.nil) (qaCons (qVar 0) (qaCons (qVar 2) (qaCons (qNeg (qInt)) (qaCons (qAdd rfl (qVar 4) (qInt)) (qaCons (qNeg (qInt)) qaNil)))))))) (qFz (qLst (qaCons (qStr) (qaCons (qNeg (qInt)) qaNil))))) (qLast (qRt (qmSh (qBl)))) (qNil)) (qCons (qIfS (tNe (m := true) rfl hu (qFz ((qCall k_p_law_error (hr.mono (by decide)) tk fx.G_p_law_error fx.F_p_law_error.kp fx.B0_p_law_error.2 fx.B0_p_law_error.1 (fun _ => Reps.nil) (qaCons (qVar 0) (qaCons (qVar 2) (qaCons (qInt) (qaCons (qAdd rfl (qVar 4) (qInt)) (qaCons (qNeg (qInt)) qaNil)))))))) (qFz (qLst (qaCons (qStr) (qaCons (qAdd rfl (qVar 4) (qInt)) qaNil))))) (qLast (qRt (qmSh (qBl)))) (qNil)) (qCons (qIfS (qt_w (qw_or (tNe (m := true) rfl hu (qFz ((qCall k_p_law_error (hr.mono (by decide)) tk fx.G_p_law_error fx.F_p_law_error.kp fx.B0_p_law_error.2 fx.B0_p_law_error.1 (fun _ => Reps.nil) (qaCons (qVar 0) (qaCons (qVar 2) (qaCons (qVar 4) (qaCons (qVar 4) (qaCons (qVar 3) qaNil)))))))) (qFz (qLst (qaCons (qStr) (qaCons (qVar 3) qaNil))))) (qw_or1 (tNe (m := true) rfl hu (qFz ((qCall k_p_law_error (hr.mono (by decide)) tk fx.G_p_law_error fx.F_p_law_error.kp fx.B0_p_law_error.2 fx.B0_p_law_error.1 (fun _ => Reps.nil) (qaCons (qVar 0) (qaCons (qVar 2) (qaCons (qInt) (qaCons (qInt) (qaCons (qNeg (qInt)) qaNil)))))))) (qFz (qLst (qaCons (qStr) (qaCons (qNeg (qInt)) qaNil)))))))) (qLast (qRt (qmSh (qBl)))) (qNil)) (qCons (qSet (i := 5) fxo_none S_p_law_errors.nd (qmSh (qInt))) (qCons (qFor (T := (.nm 6)) [6, 7, 8] hp rfl (qiSeq rfl (qFz (qLst (qaCons (qVar 1) (qaCons (qNeg (qInt)) qaNil))))) (fun _ => qgName (i := 6) fxo_none S_p_law_errors.nd) (fun _ => qLast (qFor (T := (.nm 7)) [7, 8] hp rfl (qiRng1 fx.gl_range (qaCons (qInt) qaNil)) (fun _ => qgName (i := 7) fxo_none S_p_law_errors.nd) (fun _ => qLast (qTry rfl rfl rfl tk (fun W pl xe tk hp => qLast (qIfS (tEq (m := true) rfl hu (qVar 7) (qInt)) (qLast (qDoF ((qMeth (c := 7) k_Game_mover fx.C_Game fx.MT_Game_mover (hr.mono (by decide)) tk fx.B0_Game_mover.2 fx.B0_Game_mover.1 (fun _ => Reps.nil) (qVar 0) (qaCons (qVar 6) qaNil))))) (qLast (qIfS (tEq (m := true) rfl hu (qVar 7) (qInt)) (qLast (qDoF ((qMeth (c := 7) k_Game_is_safe fx.C_Game fx.MT_Game_is_safe (hr.mono (by decide)) tk fx.B0_Game_is_safe.2 fx.B0_Game_is_safe.1 (fun _ => Reps.nil) (qVar 0) (qaCons (qVar 6) qaNil))))) (qLast (qIfS (tEq (m := true) rfl hu (qVar 7) (qInt)) (qLast (qDoF ((qMeth (c := 7) k_Game_index_of fx.C_Game fx.MT_Game_index_of (hr.mono (by decide)) tk fx.B0_Game_index_of.2 fx.B0_Game_index_of.1 (fun _ => Reps.nil) (qVar 0) (qaCons (qVar 6) (qaCons (qStr) qaNil)))))) (qLast (qIfS (tEq (m := true) rfl hu (qVar 7) (qInt)) (qLast (qDoF ((qCall k_flag_outcome (hr.mono (by decide)) tk fx.G_flag_outcome fx.F_flag_outcome.kp fx.B0_flag_outcome.2 fx.B0_flag_outcome.1 (fun _ => Reps.nil) (qaCons (qVar 0) (qaCons (qVar 6) qaNil)))))) (qLast (qIfS (tEq (m := true) rfl hu (qVar 7) (qInt)) (qLast (qDoF ((qCall k_ended_outcome (hr.mono (by decide)) tk fx.G_ended_outcome fx.F_ended_outcome.kp fx.B0_ended_outcome.2 fx.B0_ended_outcome.1 (fun _ => Reps.nil) (qaCons (qVar 0) (qaCons (qVar 6) qaNil)))))) (qLast (qDoF ((qCall k_allowed_moves (hr.mono (by decide)) tk fx.G_allowed_moves fx.F_allowed_moves.kp fx.B0_allowed_moves.2 fx.B0_allowed_moves.1 (fun _ => Reps.nil) (qaCons (qVar 0) (qaCons (qVar 6) (qaCons (qNeg (qInt)) qaNil))))))))))))))))) (.named (i := 8) (mt := mt_NoPosition) S_p_law_errors.nd ⟨rfl, by decide, .inl fx.G_NoPosition⟩ fx.MTX_NoPosition (fun a ob cls d pl x Hx hz hf rx => qLast (qSet (i := 5) (fxo_some (by decide)) S_p_law_errors.nd (qmSh (qAdd rfl (qVar 5) (qIntB fx.gl_int (qaCons (qAnd (qFz ((qCallH h_p_law_is (room_mark (L2H.RoomH.mono (j := 1) hrH (by decide))) (hotc hz hf) takes0 fx.G_p_law_is fx.F_p_law_is.kp fx.B0_p_law_is.2 (qaCons (qXf (ok := okx_position) fx.XF_position hz hf rx) (qaCons (qVar 6) qaNil))))) (qAnd (qXi (ib := ib_Fault) fx.gl_isinstance fx.G_Fault fx.XI_Fault hz hf rx) (qOne (qNot (qXi (ib := ib_NoMove) fx.gl_isinstance fx.G_NoMove fx.XI_NoMove hz hf rx))))) qaNil)))))) .nil)))))) (qLast (qRt (qmSh (qEq rfl hu (qVar 5) (qInt))))))))))
theorem ok_Game_turned (fx : Fx P Γ mg ad fd dv cv cu fI) (k_Game_init : FnOk P w Γ.K mg base (L2N.CX P w) 4 (ad 6) (fd 6) ["self", "marks", "moves", "safe"] (spI Γ 7 F_Game_init)) : FnOk P w Γ.K mg base (L2N.CX P w) 6 (ad 11) (fd 11) ["self"] (spP Γ F_Game_turned) := by
  refine qDef fx.F_Game_turned S_Game_turned rfl rfl fun cdv A outer s H E C hG hfx hr tk hp => ?_
  obtain ⟨G, He, Hz, fx0, Hx⟩ := C
  dsimp only at hG hfx
  subst hG hfx
  have hu := L3.hu_of hr
  have hrH := L2H.roomH_of hr
  have hdep := L3.dep_of hr
  unfold s_Game_turned
  exact qLast (qRt (qmFr ((qMake (c := 7) k_Game_init fx.M_Game (hr.mono (by decide)) tk fx.G_Game fx.B0_Game_init.2 fx.B0_Game_init.1 (fun _ => Reps.nil) (qaCons (qFz ((qLc (T := .nm 1) rfl S_Game_turned.nd (qiSeq rfl (qFld (ok := ok_marks) rfl fx.FL_marks (qVar 0))) (own := [("mark", 1)]) (blkOk_by rfl) (by decide) fxs_none (lcName (i := 1) fxo_none S_Game_turned.nd rfl (fun _ _ => rfl)) (fun _ _ _ _ _ => qtsNil) (fun _ _ _ _ _ => qSh (qIdx rfl (qGlob fx.G_TURNED_MARKS.1 fx.G_TURNED_MARKS.2 fx.R_TURNED_MARKS) (qVar 1)))))) (qaCons (qFld (ok := ok_moves) rfl fx.FL_moves (qVar 0)) (qaCons (qFld (ok := ok_safe) rfl fx.FL_safe (qVar 0)) qaNil)))))))
theorem ok_Game_with_move (fx : Fx P Γ mg ad fd dv cv cu fI) (k_Game_init : FnOk P w Γ.K mg base (L2N.CX P w) 4 (ad 6) (fd 6) ["self", "marks", "moves", "safe"] (spI Γ 7 F_Game_init)) (k_Game_checked : FnOk P w Γ.K mg base (L2N.CX P w) 1 (ad 7) (fd 7) ["self", "position"] (spP Γ F_Game_checked)) : FnOk P w Γ.K mg base (L2N.CX P w) 6 (ad 12) (fd 12) ["self", "position", "index", "need", "drop"] (spP Γ F_Game_with_move) := by
  refine qDef fx.F_Game_with_move S_Game_with_move rfl rfl fun cdv A outer s H E C hG hfx hr tk hp => ?_
  obtain ⟨G, He, Hz, fx0, Hx⟩ := C
  dsimp only at hG hfx
  subst hG hfx
  have hu := L3.hu_of hr
  have hrH := L2H.roomH_of hr
  have hdep := L3.dep_of hr
  unfold s_Game_with_move
  exact qCons (qSet (i := 5) fxo_none S_Game_with_move.nd (qmFr (qList rfl fx.gl_list (qaCons (qIdx rfl (qFld (ok := ok_moves) rfl fx.FL_moves (qVar 0)) (qFz ((qMeth (c := 7) k_Game_checked fx.C_Game fx.MT_Game_checked (hr.mono (by decide)) tk fx.B0_Game_checked.2 fx.B0_Game_checked.1 (fun _ => Reps.nil) (qVar 0) (qaCons (qVar 1) qaNil))))) qaNil)))) (qCons (qIfS (qt_w (qw_or (tLt (m := true)  (qVar 2) (qInt)) (qw_or1 (tGe (m := false)  (qVar 2) (qLen rfl fx.gl_len (qaCons (qOwn 5) qaNil)))))) (qLast (qRz (c := 5) rfl tk fx.SU_NoMove fx.G_NoMove fx.KP_NoMove (fx.RS_NoMove _ rfl) hdep (qVar 2))) (qNil)) (qCons (qSt (m := true) (qmSh (qFlat (qTup (qaCons (qIdx rfl (qIdx rfl (qOwn 5) (qVar 2)) (qInt)) (qaCons (qIdx rfl (qIdx rfl (qOwn 5) (qVar 2)) (qInt)) (qaCons (qVar 3) (qaCons (qVar 4) qaNil))))))) (qpVar 5) (qVar 2)) (qCons (qSet (i := 6) fxo_none S_Game_with_move.nd (qmFr (qList rfl fx.gl_list (qaCons (qFld (ok := ok_moves) rfl fx.FL_moves (qVar 0)) qaNil)))) (qCons (qSt (m := true) (qmMv 5) (qpVar 6) (qVar 1)) (qLast (qRt (qmFr ((qMake (c := 7) k_Game_init fx.M_Game (hr.mono (by decide)) tk fx.G_Game fx.B0_Game_init.2 fx.B0_Game_init.1 (fun _ => Reps.nil) (qaCons (qFld (ok := ok_marks) rfl fx.FL_marks (qVar 0)) (qaCons (qOwn 6) (qaCons (qFld (ok := ok_safe) rfl fx.FL_safe (qVar 0)) qaNil))))))))))))
theorem ok_Game_with_safe (fx : Fx P Γ mg ad fd dv cv cu fI) (k_Game_init : FnOk P w Γ.K mg base (L2N.CX P w) 4 (ad 6) (fd 6) ["self", "marks", "moves", "safe"] (spI Γ 7 F_Game_init)) : FnOk P w Γ.K mg base (L2N.CX P w) 6 (ad 13) (fd 13) ["self", "safe"] (spP Γ F_Game_with_safe) := by
  refine qDef fx.F_Game_with_safe S_Game_with_safe rfl rfl fun cdv A outer s H E C hG hfx hr tk hp => ?_
  obtain ⟨G, He, Hz, fx0, Hx⟩ := C
  dsimp only at hG hfx
  subst hG hfx
  have hu := L3.hu_of hr
  have hrH := L2H.roomH_of hr
  have hdep := L3.dep_of hr
  unfold s_Game_with_safe
  exact qLast (qRt (qmFr ((qMake (c := 7) k_Game_init fx.M_Game (hr.mono (by decide)) tk fx.G_Game fx.B0_Game_init.2 fx.B0_Game_init.1 (fun _ => Reps.nil) (qaCons (qFld (ok := ok_marks) rfl fx.FL_marks (qVar 0)) (qaCons (qFld (ok := ok_moves) rfl fx.FL_moves (qVar 0)) (qaCons (qVar 1) qaNil)))))))
theorem ok_p_law_bad (fx : Fx P Γ mg ad fd dv cv cu fI) (k_Game_init : FnOk P w Γ.K mg base (L2N.CX P w) 4 (ad 6) (fd 6) ["self", "marks", "moves", "safe"] (spI Γ 7 F_Game_init)) (h_p_law_is : L2H.FnH P w Γ.K mg base (L2N.CX P w) 1 (ad 23) (fd 23) ["actual", "expected"] (spP Γ F_p_law_is)) : FnOk P w Γ.K mg base (L2N.CX P w) 6 (ad 26) (fd 26) ["marks", "moves", "safe", "position"] (spP Γ F_p_law_bad) := by
  refine qDef fx.F_p_law_bad S_p_law_bad rfl rfl fun cdv A outer s H E C hG hfx hr tk hp => ?_
  obtain ⟨G, He, Hz, fx0, Hx⟩ := C
  dsimp only at hG hfx
  subst hG hfx
  have hu := L3.hu_of hr
  have hrH := L2H.roomH_of hr
  have hdep := L3.dep_of hr
  unfold s_p_law_bad
  exact qCons (qTry rfl rfl rfl tk (fun W pl xe tk hp => qLast (qDoF ((qMake (c := 7) k_Game_init fx.M_Game (hr.mono (by decide)) tk fx.G_Game fx.B0_Game_init.2 fx.B0_Game_init.1 (fun _ => Reps.nil) (qaCons (qVar 0) (qaCons (qVar 1) (qaCons (qVar 2) qaNil))))))) (.named (i := 4) (mt := mt_BadGame) S_p_law_bad.nd ⟨rfl, by decide, .inl fx.G_BadGame⟩ fx.MTX_BadGame (fun a ob cls d pl x Hx hz hf rx => qLast (qRt (qmSh (qAnd (qFz ((qCallH h_p_law_is (room_mark (L2H.RoomH.mono (j := 1) hrH (by decide))) (hotc hz hf) takes0 fx.G_p_law_is fx.F_p_law_is.kp fx.B0_p_law_is.2 (qaCons (qXf (ok := okx_position) fx.XF_position hz hf rx) (qaCons (qVar 3) qaNil))))) (qAnd (qXi (ib := ib_Fault) fx.gl_isinstance fx.G_Fault fx.XI_Fault hz hf rx) (qOne (qNot (qXi (ib := ib_NoPosition) fx.gl_isinstance fx.G_NoPosition fx.XI_NoPosition hz hf rx)))))))) .nil)) (qLast (qRt (qmSh (qBl))))
theorem ok_p_law_base (fx : Fx P Γ mg ad fd dv cv cu fI) (k_Game_init : FnOk P w Γ.K mg base (L2N.CX P w) 4 (ad 6) (fd 6) ["self", "marks", "moves", "safe"] (spI Γ 7 F_Game_init)) : FnOk P w Γ.K mg base (L2N.CX P w) 6 (ad 27) (fd 27) ["marks", "moves"] (spP Γ F_p_law_base) := by
  refine qDef fx.F_p_law_base S_p_law_base rfl rfl fun cdv A outer s H E C hG hfx hr tk hp => ?_
  obtain ⟨G, He, Hz, fx0, Hx⟩ := C
  dsimp only at hG hfx
  subst hG hfx
  have hu := L3.hu_of hr
  have hrH := L2H.roomH_of hr
  have hdep := L3.dep_of hr
  unfold s_p_law_base
  exact qCons (qTry rfl rfl rfl tk (fun W pl xe tk hp => qLast (qDoF ((qMake (c := 7) k_Game_init fx.M_Game (hr.mono (by decide)) tk fx.G_Game fx.B0_Game_init.2 fx.B0_Game_init.1 (fun _ => Reps.nil) (qaCons (qVar 0) (qaCons (qVar 1) (qaCons (qFz (qLst (qaCons (qNeg (qInt)) qaNil))) qaNil))))))) (.named (i := 2) (mt := mt_Fault) S_p_law_base.nd ⟨rfl, by decide, .inl fx.G_Fault⟩ fx.MTX_Fault (fun a ob cls d pl x Hx hz hf rx => qLast (qRt (qmSh (qAnd (qXiT (t := "ValueError") (ib := ib_ValueError) fx.gl_isinstance fx.gl_ValueError bt_ve fx.XI_ValueError hz hf rx) (qOne (qXi (ib := ib_BadGame) fx.gl_isinstance fx.G_BadGame fx.XI_BadGame hz hf rx)))))) .nil)) (qLast (qRt (qmSh (qBl))))
theorem ok_p_law_place (fx : Fx P Γ mg ad fd dv cv cu fI) (k_Game_index_of : FnOk P w Γ.K mg base (L2N.CX P w) 2 (ad 10) (fd 10) ["self", "position", "word"] (spP Γ F_Game_index_of)) (k_Game_is_safe : FnOk P w Γ.K mg base (L2N.CX P w) 2 (ad 9) (fd 9) ["self", "position"] (spP Γ F_Game_is_safe)) (k_Game_mover : FnOk P w Γ.K mg base (L2N.CX P w) 2 (ad 8) (fd 8) ["self", "position"] (spP Γ F_Game_mover)) (k_p_law_is : FnOk P w Γ.K mg base (L2N.CX P w) 1 (ad 23) (fd 23) ["actual", "expected"] (spP Γ F_p_law_is)) (h_p_law_is : L2H.FnH P w Γ.K mg base (L2N.CX P w) 1 (ad 23) (fd 23) ["actual", "expected"] (spP Γ F_p_law_is)) (k_p_law_standing : FnOk P w Γ.K mg base (L2N.CX P w) 5 (ad 33) (fd 33) ["game", "position", "amount", "other", "index", "marks", "moves"] (spP Γ F_p_law_standing)) (k_allowed_moves : FnOk P w Γ.K mg base (L2N.CX P w) 2 (ad 17) (fd 17) ["game", "position", "amount"] (spP Γ F_allowed_moves)) (k_ended_outcome : FnOk P w Γ.K mg base (L2N.CX P w) 2 (ad 15) (fd 15) ["game", "position"] (spP Γ F_ended_outcome)) (k_flag_outcome : FnOk P w Γ.K mg base (L2N.CX P w) 3 (ad 16) (fd 16) ["game", "position"] (spP Γ F_flag_outcome)) : FnOk P w Γ.K mg base (L2N.CX P w) 6 (ad 35) (fd 35) ["game", "position", "marks", "moves", "safe", "big"] (spP Γ F_p_law_place) := by
  refine qDef fx.F_p_law_place S_p_law_place rfl rfl fun cdv A outer s H E C hG hfx hr tk hp => ?_
  obtain ⟨G, He, Hz, fx0, Hx⟩ := C
  dsimp only at hG hfx
  subst hG hfx
  have hu := L3.hu_of hr
  have hrH := L2H.roomH_of hr
  have hdep := L3.dep_of hr
  unfold s_p_law_place
  exact qCons (qSet (i := 6) fxo_none S_p_law_place.nd (qmSh (qIdx rfl (qVar 2) (qVar 1)))) (qCons (qSet (i := 7) fxo_none S_p_law_place.nd (qmSh (qIf (tLt (m := true)  (qVar 6) (qInt)) (qVar 6) (qInt)))) (qCons (qSet (i := 8) fxo_none S_p_law_place.nd (qmSh (qFz ((qMeth (c := 7) k_Game_is_safe fx.C_Game fx.MT_Game_is_safe (hr.mono (by decide)) tk fx.B0_Game_is_safe.2 fx.B0_Game_is_safe.1 (fun _ => Reps.nil) (qVar 0) (qaCons (qVar 1) qaNil)))))) (qCons (qIfS (qt_w (qw_or (qt_not (qtVal (m := true) (qFz ((qCall k_p_law_is (hr.mono (by decide)) tk fx.G_p_law_is fx.F_p_law_is.kp fx.B0_p_law_is.2 fx.B0_p_law_is.1 (fun _ => Reps.nil) (qaCons (qFz ((qMeth (c := 7) k_Game_mover fx.C_Game fx.MT_Game_mover (hr.mono (by decide)) tk fx.B0_Game_mover.2 fx.B0_Game_mover.1 (fun _ => Reps.nil) (qVar 0) (qaCons (qVar 1) qaNil)))) (qaCons (qVar 7) qaNil))))))) (qw_or (qt_not (qtVal (m := true) (qIsiT (tb := tbT "bool") (ib := ibN) rfl fx.gl_isinstance fx.gl_bool bt_bool tbT_ok ibN_ok (qVar 8)))) (qw_or1 (tNe (m := true) rfl hu (qVar 8) (qIn rfl hu (qVar 1) (qVar 4))))))) (qLast (qRt (qmSh (qBl)))) (qNil)) (qCons (qIfS (qt_not (qtVal (m := true) (qFz ((qCall k_p_law_is (hr.mono (by decide)) tk fx.G_p_law_is fx.F_p_law_is.kp fx.B0_p_law_is.2 fx.B0_p_law_is.1 (fun _ => Reps.nil) (qaCons (qFz ((qCall k_ended_outcome (hr.mono (by decide)) tk fx.G_ended_outcome fx.F_ended_outcome.kp fx.B0_ended_outcome.2 fx.B0_ended_outcome.1 (fun _ => Reps.nil) (qaCons (qVar 0) (qaCons (qVar 1) qaNil))))) (qaCons (qIdx rfl (qFz (qLst (qaCons (qNon) (qaCons (qNon) (qaCons (qNon) (qaCons (qInt) (qaCons (qInt) (qaCons (qInt) qaNil)))))))) (qVar 6)) qaNil))))))) (qLast (qRt (qmSh (qBl)))) (qNil)) (qCons (qTry rfl rfl rfl tk (fun W pl xe tk hp => qCons (qSet (i := 8) fxo_none S_p_law_place.nd (qmSh (qFz ((qCall k_flag_outcome (hr.mono (by decide)) tk fx.G_flag_outcome fx.F_flag_outcome.kp fx.B0_flag_outcome.2 fx.B0_flag_outcome.1 (fun _ => Reps.nil) (qaCons (qVar 0) (qaCons (qVar 1) qaNil))))))) (qLast (qIfS (qt_w (qw_or (tEq (m := true) rfl hu (qVar 7) (qInt)) (qw_or1 (qt_not (qtVal (m := true) (qFz ((qCall k_p_law_is (hr.mono (by decide)) tk fx.G_p_law_is fx.F_p_law_is.kp fx.B0_p_law_is.2 fx.B0_p_law_is.1 (fun _ => Reps.nil) (qaCons (qVar 8) (qaCons (qIf (tIn (m := true) rfl hu (qVar 1) (qVar 4)) (qInt) (qSub (qInt) (qVar 7))) qaNil)))))))))) (qLast (qRt (qmSh (qBl)))) (qNil)))) (.named (i := 9) (mt := mt_NoPosition) S_p_law_place.nd ⟨rfl, by decide, .inl fx.G_NoPosition⟩ fx.MTX_NoPosition (fun a ob cls d pl x Hx hz hf rx => qLast (qIfS (qt_w (qw_or (tGt (m := true)  (qVar 7) (qInt)) (qw_or1 (qt_not (qtVal (m := true) (qFz ((qCallH h_p_law_is (room_mark (L2H.RoomH.mono (j := 1) hrH (by decide))) (hotc hz hf) takes0 fx.G_p_law_is fx.F_p_law_is.kp fx.B0_p_law_is.2 (qaCons (qXf (ok := okx_position) fx.XF_position hz hf rx) (qaCons (qVar 1) qaNil)))))))))) (qLast (qRt (qmSh (qBl)))) (qNil))) .nil)) (qCons (qFor (T := (.nm 10)) [8, 10, 11, 12] hp rfl (qiSeq rfl (qFz (qLst (qaCons (qInt) (qaCons (qAdd rfl (qInt) (qMod (qVar 1) (qInt))) (qaCons (qInt) (qaCons (qVar 5) qaNil))))))) (fun _ => qgName (i := 10) fxo_none S_p_law_place.nd) (fun _ => qCons (qSet (i := 8) fxo_none S_p_law_place.nd (qmSh (qFz ((qCall k_allowed_moves (hr.mono (by decide)) tk fx.G_allowed_moves fx.F_allowed_moves.kp fx.B0_allowed_moves.2 fx.B0_allowed_moves.1 (fun _ => Reps.nil) (qaCons (qVar 0) (qaCons (qVar 1) (qaCons (qVar 10) qaNil)))))))) (qCons (qSetLc (T := .nm 13) fxo_none rfl S_p_law_place.nd (qiRng1 fx.gl_range (qaCons (qLen rfl fx.gl_len (qaCons (qIdx rfl (qVar 3) (qVar 1)) qaNil)) qaNil)) (own := [("k", 13)]) (blkOk_by rfl) (by decide) fxs_none (lcName (i := 13) fxo_none S_p_law_place.nd rfl (fun _ _ => rfl)) (fun _ _ _ _ _ => qtsOne (tLe (m := true)  (qIdx rfl (qIdx rfl (qIdx rfl (qVar 3) (qVar 1)) (qVar 13)) (qInt)) (qVar 10))) (fun _ _ _ _ _ => qSh (qVar 13)) (sw_true rfl rfl rfl rfl)) (qFzS 11 (qCons (qIfS (qt_w (qw_or (qt_not (qtVal (m := true) (qIsiT (tb := tbT "list") (ib := ibN) rfl fx.gl_isinstance fx.gl_list bt_list tbT_ok ibN_ok (qVar 8)))) (qw_or1 (tNe (m := true) rfl hu (qVar 8) (qVar 11))))) (qLast (qRt (qmSh (qBl)))) (qNil)) (qLast (qFor (T := (.nm 12)) [12] hp rfl (qiRng1 fx.gl_range (qaCons (qLen rfl fx.gl_len (qaCons (qIdx rfl (qVar 3) (qVar 1)) qaNil)) qaNil)) (fun _ => qgName (i := 12) fxo_none S_p_law_place.nd) (fun _ => qLast (qIfS (qt_not (qtVal (m := true) (qFz ((qCall k_p_law_standing (hr.mono (by decide)) tk fx.G_p_law_standing fx.F_p_law_standing.kp fx.B0_p_law_standing.2 fx.B0_p_law_standing.1 (fun _ => Reps.nil) (qaCons (qVar 0) (qaCons (qVar 1) (qaCons (qVar 10) (qaCons (qSub (qVar 5) (qVar 10)) (qaCons (qVar 12) (qaCons (qVar 2) (qaCons (qVar 3) qaNil)))))))))))) (qLast (qRt (qmSh (qBl)))) (qNil)))))))))) (qCons (qFor (T := (.nm 12)) [12] hp rfl (qiRng1 fx.gl_range (qaCons (qLen rfl fx.gl_len (qaCons (qIdx rfl (qVar 3) (qVar 1)) qaNil)) qaNil)) (fun _ => qgName (i := 12) fxo_none S_p_law_place.nd) (fun _ => qLast (qIfS (qt_not (qtVal (m := true) (qFz ((qCall k_p_law_is (hr.mono (by decide)) tk fx.G_p_law_is fx.F_p_law_is.kp fx.B0_p_law_is.2 fx.B0_p_law_is.1 (fun _ => Reps.nil) (qaCons (qFz ((qMeth (c := 7) k_Game_index_of fx.C_Game fx.MT_Game_index_of (hr.mono (by decide)) tk fx.B0_Game_index_of.2 fx.B0_Game_index_of.1 (fun _ => Reps.nil) (qVar 0) (qaCons (qVar 1) (qaCons (qIdx rfl (qIdx rfl (qIdx rfl (qVar 3) (qVar 1)) (qVar 12)) (qInt)) qaNil))))) (qaCons (qVar 12) qaNil))))))) (qLast (qRt (qmSh (qBl)))) (qNil)))) (qCons (qTry rfl rfl rfl tk (fun W pl xe tk hp => qLast (qDoF ((qMeth (c := 7) k_Game_index_of fx.C_Game fx.MT_Game_index_of (hr.mono (by decide)) tk fx.B0_Game_index_of.2 fx.B0_Game_index_of.1 (fun _ => Reps.nil) (qVar 0) (qaCons (qVar 1) (qaCons (qAdd rfl (qStr) (qStrB fx.gl_str (qaCons (qMod (qVar 1) (qInt)) qaNil))) qaNil)))))) (.named (i := 9) (mt := mt_NoMove) S_p_law_place.nd ⟨rfl, by decide, .inl fx.G_NoMove⟩ fx.MTX_NoMove (fun a ob cls d pl x Hx hz hf rx => qLast (qRt (qmSh (qAnd (qEq rfl hu (qXf (ok := okx_move) fx.XF_move hz hf rx) (qAdd rfl (qStr) (qStrB fx.gl_str (qaCons (qMod (qVar 1) (qInt)) qaNil)))) (qAnd (qXi (ib := ib_Fault) fx.gl_isinstance fx.G_Fault fx.XI_Fault hz hf rx) (qOne (qNot (qXi (ib := ib_NoTime) fx.gl_isinstance fx.G_NoTime fx.XI_NoTime hz hf rx)))))))) .nil)) (qLast (qRt (qmSh (qIn rfl hu (qAdd rfl (qStr) (qStrB fx.gl_str (qaCons (qMod (qVar 1) (qInt)) qaNil))) (qFz ((qLc (T := .nm 14) rfl S_p_law_place.nd (qiSeq rfl (qIdx rfl (qVar 3) (qVar 1))) (own := [("move", 14)]) (blkOk_by rfl) (by decide) fxs_none (lcName (i := 14) fxo_none S_p_law_place.nd rfl (fun _ _ => rfl)) (fun _ _ _ _ _ => qtsNil) (fun _ _ _ _ _ => qSh (qIdx rfl (qVar 14) (qInt))))))))))))))))))
theorem ok_p_law_refusals (fx : Fx P Γ mg ad fd dv cv cu fI) (k_p_law_bad : FnOk P w Γ.K mg base (L2N.CX P w) 6 (ad 26) (fd 26) ["marks", "moves", "safe", "position"] (spP Γ F_p_law_bad)) (k_p_law_broken : FnOk P w Γ.K mg base (L2N.CX P w) 1 (ad 28) (fd 28) ["move", "way", "size"] (spP Γ F_p_law_broken)) : FnOk P w Γ.K mg base (L2N.CX P w) 7 (ad 29) (fd 29) ["marks", "moves", "safe", "way", "cell"] (spP Γ F_p_law_refusals) := by
  refine qDef fx.F_p_law_refusals S_p_law_refusals rfl rfl fun cdv A outer s H E C hG hfx hr tk hp => ?_
  obtain ⟨G, He, Hz, fx0, Hx⟩ := C
  dsimp only at hG hfx
  subst hG hfx
  have hu := L3.hu_of hr
  have hrH := L2H.roomH_of hr
  have hdep := L3.dep_of hr
  unfold s_p_law_refusals
  exact qCons (qSet (i := 5) fxo_none S_p_law_refusals.nd (qmSh (qLen rfl fx.gl_len (qaCons (qVar 0) qaNil)))) (qCons (qSetLc (T := .nm 8) fxo_none rfl S_p_law_refusals.nd (qiRng1 fx.gl_range (qaCons (qVar 5) qaNil)) (own := [("position", 8)]) (blkOk_by rfl) (by decide) fxs_none (lcName (i := 8) fxo_none S_p_law_refusals.nd rfl (fun _ _ => rfl)) (fun _ _ _ _ _ => qtsOne (tLt (m := true)  (qIdx rfl (qVar 0) (qVar 8)) (qInt))) (fun _ _ _ _ _ => qSh (qVar 8)) (sw_true rfl rfl rfl rfl)) (qFzS 6 (qCons (qSetLc (T := .nm 8) fxo_none rfl S_p_law_refusals.nd (qiRng1 fx.gl_range (qaCons (qVar 5) qaNil)) (own := [("position", 8)]) (blkOk_by rfl) (by decide) fxs_none (lcName (i := 8) fxo_none S_p_law_refusals.nd rfl (fun _ _ => rfl)) (fun _ _ _ _ _ => qtsOne (tGt (m := true)  (qIdx rfl (qVar 0) (qVar 8)) (qInt))) (fun _ _ _ _ _ => qSh (qVar 8)) (sw_true rfl rfl rfl rfl)) (qFzS 7 (qCons (qIfS (qt_w (qw_or (qt_not (qtVal (m := true) (qFz ((qCall k_p_law_bad (hr.mono (by decide)) tk fx.G_p_law_bad fx.F_p_law_bad.kp fx.B0_p_law_bad.2 fx.B0_p_law_bad.1 (fun _ => Reps.nil) (qaCons (qAdd rfl (qVar 0) (qFz (qLst (qaCons (qInt) qaNil)))) (qaCons (qVar 1) (qaCons (qVar 2) (qaCons (qNeg (qInt)) qaNil))))))))) (qw_or1 (qt_not (qtVal (m := true) (qFz ((qCall k_p_law_bad (hr.mono (by decide)) tk fx.G_p_law_bad fx.F_p_law_bad.kp fx.B0_p_law_bad.2 fx.B0_p_law_bad.1 (fun _ => Reps.nil) (qaCons (qFz (qLst qaNil)) (qaCons (qFz (qLst qaNil)) (qaCons (qFz (qLst qaNil)) (qaCons (qNeg (qInt)) qaNil)))))))))))) (qLast (qRt (qmSh (qBl)))) (qNil)) (qCons (qIfS (qt_w (qw_or (qt_not (qtVal (m := true) (qFz ((qCall k_p_law_bad (hr.mono (by decide)) tk fx.G_p_law_bad fx.F_p_law_bad.kp fx.B0_p_law_bad.2 fx.B0_p_law_bad.1 (fun _ => Reps.nil) (qaCons (qVar 0) (qaCons (qVar 1) (qaCons (qFz (qLst (qaCons (qVar 5) qaNil))) (qaCons (qNeg (qInt)) qaNil))))))))) (qw_or1 (qt_not (qtVal (m := true) (qFz ((qCall k_p_law_bad (hr.mono (by decide)) tk fx.G_p_law_bad fx.F_p_law_bad.kp fx.B0_p_law_bad.2 fx.B0_p_law_bad.1 (fun _ => Reps.nil) (qaCons (qVar 0) (qaCons (qVar 1) (qaCons (qFz (qLst (qaCons (qNeg (qInt)) qaNil))) (qaCons (qNeg (qInt)) qaNil)))))))))))) (qLast (qRt (qmSh (qBl)))) (qNil)) (qCons (qFor (T := (.nm 8)) [8] hp rfl (qiSeq rfl (qVar 7)) (fun _ => qgName (i := 8) fxo_none S_p_law_refusals.nd) (fun _ => qCons (qIfS (qt_not (qtVal (m := true) (qFz ((qCall k_p_law_bad (hr.mono (by decide)) tk fx.G_p_law_bad fx.F_p_law_bad.kp fx.B0_p_law_bad.2 fx.B0_p_law_bad.1 (fun _ => Reps.nil) (qaCons (qVar 0) (qaCons (qVar 1) (qaCons (qFz (qLst (qaCons (qVar 8) qaNil))) (qaCons (qVar 8) qaNil))))))))) (qLast (qRt (qmSh (qBl)))) (qNil)) (qCons (qIfS (qt_not (qtVal (m := true) (qFz ((qCall k_p_law_bad (hr.mono (by decide)) tk fx.G_p_law_bad fx.F_p_law_bad.kp fx.B0_p_law_bad.2 fx.B0_p_law_bad.1 (fun _ => Reps.nil) (qaCons (qVar 0) (qaCons (qAdd rfl (qAdd rfl (qSl rfl (qVar 1) qoNone (qoSome (qVar 8))) (qFz (qLst (qaCons (qFz (qLst (qaCons (qTup (qaCons (qStr) (qaCons (qInt) (qaCons (qInt) (qaCons (qInt) qaNil))))) qaNil))) qaNil)))) (qSl rfl (qVar 1) (qoSome (qAdd rfl (qVar 8) (qInt))) qoNone)) (qaCons (qVar 2) (qaCons (qVar 8) qaNil))))))))) (qLast (qRt (qmSh (qBl)))) (qNil)) (qLast (qIfS (qt_not (qtVal (m := true) (qFz ((qCall k_p_law_bad (hr.mono (by decide)) tk fx.G_p_law_bad fx.F_p_law_bad.kp fx.B0_p_law_bad.2 fx.B0_p_law_bad.1 (fun _ => Reps.nil) (qaCons (qAdd rfl (qAdd rfl (qSl rfl (qVar 0) qoNone (qoSome (qVar 8))) (qFz (qLst (qaCons (qMul (qInt) (qMod (qVar 4) (qInt))) qaNil)))) (qSl rfl (qVar 0) (qoSome (qAdd rfl (qVar 8) (qInt))) qoNone)) (qaCons (qVar 1) (qaCons (qFz (qLst qaNil)) (qaCons (qVar 8) qaNil))))))))) (qLast (qRt (qmSh (qBl)))) (qNil)))))) (qCons (qIfS (tEq (m := true) rfl hu (qLen rfl fx.gl_len (qaCons (qVar 6) qaNil)) (qInt)) (qLast (qRt (qmSh (qBl)))) (qNil)) (qCons (qSet (i := 9) fxo_none S_p_law_refusals.nd (qmSh (qIdx rfl (qVar 6) (qMod (qVar 4) (qLen rfl fx.gl_len (qaCons (qVar 6) qaNil)))))) (qCons (qIfS (qt_not (qtVal (m := true) (qFz ((qCall k_p_law_bad (hr.mono (by decide)) tk fx.G_p_law_bad fx.F_p_law_bad.kp fx.B0_p_law_bad.2 fx.B0_p_law_bad.1 (fun _ => Reps.nil) (qaCons (qVar 0) (qaCons (qVar 1) (qaCons (qFz (qLst (qaCons (qVar 9) (qaCons (qVar 9) qaNil)))) (qaCons (qNeg (qInt)) qaNil))))))))) (qLast (qRt (qmSh (qBl)))) (qNil)) (qCons (qSet (i := 10) fxo_none S_p_law_refusals.nd (qmFr (qList rfl fx.gl_list (qaCons (qVar 1) qaNil)))) (qCons (qFor (T := (.nm 8)) [8, 11, 12] hp rfl (qiSeq rfl (qVar 6)) (fun _ => qgName (i := 8) fxo_none S_p_law_refusals.nd) (fun _ => qLast (qIfS (tGe (m := true)  (qVar 8) (qVar 9)) (qCons (qSet (i := 11) fxo_none S_p_law_refusals.nd (qmFr (qList rfl fx.gl_list (qaCons (qIdx rfl (qVar 1) (qVar 8)) qaNil)))) (qCons (qSet (i := 12) fxo_none S_p_law_refusals.nd (qmSh (qFlat (qMod (qFdiv (qVar 4) (qInt)) (qLen rfl fx.gl_len (qaCons (qOwn 11) qaNil)))))) (qCons (qSt (m := true) (qmSh (qFz ((qCall k_p_law_broken (hr.mono (by decide)) tk fx.G_p_law_broken fx.F_p_law_broken.kp fx.B0_p_law_broken.2 fx.B0_p_law_broken.1 (fun _ => Reps.nil) (qaCons (qIdx rfl (qOwn 11) (qVar 12)) (qaCons (qVar 3) (qaCons (qVar 5) qaNil))))))) (qpVar 11) (qVar 12)) (qLast (qSt (m := true) (qmMv 11) (qpVar 10) (qVar 8)))))) (qNil)))) (qCons (qIfS (qt_not (qtVal (m := true) (qFz ((qCall k_p_law_bad (hr.mono (by decide)) tk fx.G_p_law_bad fx.F_p_law_bad.kp fx.B0_p_law_bad.2 fx.B0_p_law_bad.1 (fun _ => Reps.nil) (qaCons (qVar 0) (qaCons (qOwn 10) (qaCons (qVar 2) (qaCons (qVar 9) qaNil))))))))) (qLast (qRt (qmSh (qBl)))) (qNil)) (qCons (qSet (i := 11) fxo_none S_p_law_refusals.nd (qmFr (qList rfl fx.gl_list (qaCons (qIdx rfl (qVar 1) (qVar 9)) qaNil)))) (qFzS 11 (qCons (qSet (i := 13) fxo_none S_p_law_refusals.nd (qmSh (qAdd rfl (qSl rfl (qVar 11) qoNone (qoSome (qInt))) (qFz (qLst (qaCons (qIdx rfl (qVar 11) (qMod (qFdiv (qVar 4) (qInt)) (qLen rfl fx.gl_len (qaCons (qVar 11) qaNil)))) qaNil)))))) (qCons (qFor (T := (.nm 14)) [14, 15] hp rfl (qiSeq rfl (qFz (qLst (qaCons (qFz (qLst qaNil)) (qaCons (qVar 13) (qaCons (qFz ((qLc (T := .nm 15) rfl S_p_law_refusals.nd (qiRng1 fx.gl_range (qaCons (qInt) qaNil)) (own := [("k", 15)]) (blkOk_by rfl) (by decide) fxs_none (lcName (i := 15) fxo_none S_p_law_refusals.nd rfl (fun _ _ => rfl)) (fun _ _ _ _ _ => qtsNil) (fun _ _ _ _ _ => qSh (qTup (qaCons (qAdd rfl (qStr) (qStrB fx.gl_str (qaCons (qVar 15) qaNil))) (qaCons (qVar 9) (qaCons (qInt) (qaCons (qInt) qaNil))))))))) qaNil)))))) (fun _ => qgName (i := 14) fxo_none S_p_law_refusals.nd) (fun _ => qLast (qIfS (qt_not (qtVal (m := true) (qFz ((qCall k_p_law_bad (hr.mono (by decide)) tk fx.G_p_law_bad fx.F_p_law_bad.kp fx.B0_p_law_bad.2 fx.B0_p_law_bad.1 (fun _ => Reps.nil) (qaCons (qVar 0) (qaCons (qAdd rfl (qAdd rfl (qSl rfl (qVar 1) qoNone (qoSome (qVar 9))) (qFz (qLst (qaCons (qVar 14) qaNil)))) (qSl rfl (qVar 1) (qoSome (qAdd rfl (qVar 9) (qInt))) qoNone)) (qaCons (qVar 2) (qaCons (qVar 9) qaNil))))))))) (qLast (qRt (qmSh (qBl)))) (qNil)))) (qLast (qRt (qmSh (qOr (qLt  (qLen rfl fx.gl_len (qaCons (qVar 6) qaNil)) (qInt)) (qOne (qFz ((qCall k_p_law_bad (hr.mono (by decide)) tk fx.G_p_law_bad fx.F_p_law_bad.kp fx.B0_p_law_bad.2 fx.B0_p_law_bad.1 (fun _ => Reps.nil) (qaCons (qVar 0) (qaCons (qVar 1) (qaCons (qFz (qLst (qaCons (qIdx rfl (qVar 6) (qInt)) (qaCons (qIdx rfl (qVar 6) (qInt)) qaNil)))) (qaCons (qNeg (qInt)) qaNil)))))))))))))))))))))))))))))
theorem ok_p_law_changed (fx : Fx P Γ mg ad fd dv cv cu fI) (k_Game_eq : FnOk P w Γ.K mg base (L2N.CX P w) 1 (ad 14) (fd 14) ["self", "other"] (spP Γ F_Game_eq)) (k_Game_with_move : FnOk P w Γ.K mg base (L2N.CX P w) 6 (ad 12) (fd 12) ["self", "position", "index", "need", "drop"] (spP Γ F_Game_with_move)) (k_Game_with_safe : FnOk P w Γ.K mg base (L2N.CX P w) 6 (ad 13) (fd 13) ["self", "safe"] (spP Γ F_Game_with_safe)) (h_p_law_is : L2H.FnH P w Γ.K mg base (L2N.CX P w) 1 (ad 23) (fd 23) ["actual", "expected"] (spP Γ F_p_law_is)) : FnOk P w Γ.K mg base (L2N.CX P w) 7 (ad 36) (fd 36) ["game", "marks", "moves", "safe", "position", "cell"] (spP Γ F_p_law_changed) := by
  refine qDef fx.F_p_law_changed S_p_law_changed rfl rfl fun cdv A outer s H E C hG hfx hr tk hp => ?_
  obtain ⟨G, He, Hz, fx0, Hx⟩ := C
  dsimp only at hG hfx
  subst hG hfx
  have hu := L3.hu_of hr
  have hrH := L2H.roomH_of hr
  have hdep := L3.dep_of hr
  unfold s_p_law_changed
  exact qCons (qSet (i := 6) fxo_none S_p_law_changed.nd (qmSh (qMod (qVar 5) (qLen rfl fx.gl_len (qaCons (qIdx rfl (qVar 2) (qVar 4)) qaNil))))) (qCons (qTg (qIdx rfl (qIdx rfl (qVar 2) (qVar 4)) (qVar 6)) (qgTup rfl rfl (qgsCons (i := 7) fxo_none S_p_law_changed.nd (qgsCons (i := 8) fxo_none S_p_law_changed.nd (qgsCons (i := 9) fxo_none S_p_law_changed.nd (qgsCons (i := 10) fxo_none S_p_law_changed.nd qgsNil)))))) (qCons (qSetLc (T := .nm 18) fxo_none rfl S_p_law_changed.nd (qiSeq rfl (qVar 2)) (own := [("row", 18)]) (blkOk_by rfl) (by decide) fxs_none (lcName (i := 18) fxo_none S_p_law_changed.nd rfl (fun _ _ => rfl)) (fun _ _ _ _ _ => qtsNil) (fun _ _ _ _ _ => qList rfl fx.gl_list (qaCons (qVar 18) qaNil)) (sw_true rfl rfl rfl rfl)) (qCons (qSt (m := true) (qmSh (qTup (qaCons (qVar 7) (qaCons (qVar 8) (qaCons (qMod (qFdiv (qVar 5) (qInt)) (qInt)) (qaCons (qMod (qFdiv (qVar 5) (qInt)) (qAdd rfl (qInt) (qMod (qFdiv (qVar 5) (qInt)) (qInt)))) qaNil)))))) (qpIx (m := true) (qpVar 11) (qVar 4)) (qVar 6)) (qCons (qSet (i := 12) fxo_none S_p_law_changed.nd (qmSh (qFz ((qMeth (c := 7) k_Game_with_move fx.C_Game fx.MT_Game_with_move (hr.mono (by decide)) tk fx.B0_Game_with_move.2 fx.B0_Game_with_move.1 (fun _ => Reps.nil) (qVar 0) (qaCons (qVar 4) (qaCons (qVar 6) (qaCons (qIdx rfl (qIdx rfl (qIdx rfl (qOwn 11) (qVar 4)) (qVar 6)) (qInt)) (qaCons (qIdx rfl (qIdx rfl (qIdx rfl (qOwn 11) (qVar 4)) (qVar 6)) (qInt)) qaNil))))))))) (qFzS 11 (qCons (qIfS (qt_w (qw_or (tNe (m := true) rfl hu (qFld (ok := ok_moves) rfl fx.FL_moves (qVar 12)) (qTuple rfl fx.gl_tuple (qaCons (qFz ((qLc (T := .nm 18) rfl S_p_law_changed.nd (qiSeq rfl (qVar 11)) (own := [("row", 18)]) (blkOk_by rfl) (by decide) fxs_none (lcName (i := 18) fxo_none S_p_law_changed.nd rfl (fun _ _ => rfl)) (fun _ _ _ _ _ => qtsNil) (fun _ _ _ _ _ => qSh (qTuple rfl fx.gl_tuple (qaCons (qVar 18) qaNil)))))) qaNil))) (qw_or (tNe (m := true) rfl hu (qFld (ok := ok_marks) rfl fx.FL_marks (qVar 12)) (qTuple rfl fx.gl_tuple (qaCons (qVar 1) qaNil))) (qw_or1 (tNe (m := true) rfl hu (qFld (ok := ok_safe) rfl fx.FL_safe (qVar 12)) (qTuple rfl fx.gl_tuple (qaCons (qVar 3) qaNil))))))) (qLast (qRt (qmSh (qBl)))) (qNil)) (qCons (qIfS (qt_w (qw_or (tNe (m := true) rfl hu (qEqO rfl k_Game_eq fx.EO_Game (hr.mono (by decide)) fx.B0_Game_eq.2 (qVar 12) (qVar 0)) (qEq rfl hu (qIdx rfl (qIdx rfl (qVar 11) (qVar 4)) (qVar 6)) (qIdx rfl (qIdx rfl (qVar 2) (qVar 4)) (qVar 6)))) (qw_or1 (tNe (m := true) rfl hu (qIdx rfl (qIdx rfl (qIdx rfl (qFld (ok := ok_moves) rfl fx.FL_moves (qVar 0)) (qVar 4)) (qVar 6)) (qInt)) (qVar 9))))) (qLast (qRt (qmSh (qBl)))) (qNil)) (qCons (qSet (i := 13) fxo_none S_p_law_changed.nd (qmSh (qInt))) (qCons (qFor (T := (.nm 14)) [14, 15] hp rfl (qiRng1 fx.gl_range (qaCons (qInt) qaNil)) (fun _ => qgName (i := 14) fxo_none S_p_law_changed.nd) (fun _ => qLast (qTry rfl rfl rfl tk (fun W pl xe tk hp => qLast (qDoF ((qMeth (c := 7) k_Game_with_move fx.C_Game fx.MT_Game_with_move (hr.mono (by decide)) tk fx.B0_Game_with_move.2 fx.B0_Game_with_move.1 (fun _ => Reps.nil) (qVar 0) (qaCons (qVar 4) (qaCons (qIdx rfl (qFz (qLst (qaCons (qVar 6) (qaCons (qVar 6) (qaCons (qLen rfl fx.gl_len (qaCons (qIdx rfl (qVar 2) (qVar 4)) qaNil)) (qaCons (qNeg (qInt)) qaNil)))))) (qVar 14)) (qaCons (qIdx rfl (qFz (qLst (qaCons (qInt) (qaCons (qInt) (qaCons (qInt) (qaCons (qInt) qaNil)))))) (qVar 14)) (qaCons (qIdx rfl (qFz (qLst (qaCons (qInt) (qaCons (qInt) (qaCons (qInt) (qaCons (qInt) qaNil)))))) (qVar 14)) qaNil)))))))) (.named (i := 15) (mt := mt_BadGame) S_p_law_changed.nd ⟨rfl, by decide, .inl fx.G_BadGame⟩ fx.MTX_BadGame (fun a ob cls d pl x Hx hz hf rx => qLast (qSet (i := 13) (fxo_some (by decide)) S_p_law_changed.nd (qmSh (qAdd rfl (qVar 13) (qIntB fx.gl_int (qaCons (qAnd (qLt  (qVar 14) (qInt)) (qOne (qFz ((qCallH h_p_law_is (room_mark (L2H.RoomH.mono (j := 1) hrH (by decide))) (hotc hz hf) takes0 fx.G_p_law_is fx.F_p_law_is.kp fx.B0_p_law_is.2 (qaCons (qXf (ok := okx_position) fx.XF_position hz hf rx) (qaCons (qVar 4) qaNil))))))) qaNil)))))) (.named (i := 15) (mt := mt_NoMove) S_p_law_changed.nd ⟨rfl, by decide, .inl fx.G_NoMove⟩ fx.MTX_NoMove (fun a ob cls d pl x Hx hz hf rx => qLast (qSet (i := 13) (fxo_some (by decide)) S_p_law_changed.nd (qmSh (qAdd rfl (qVar 13) (qIntB fx.gl_int (qaCons (qAnd (qGt  (qVar 14) (qInt)) (qOne (qFz ((qCallH h_p_law_is (room_mark (L2H.RoomH.mono (j := 1) hrH (by decide))) (hotc hz hf) takes0 fx.G_p_law_is fx.F_p_law_is.kp fx.B0_p_law_is.2 (qaCons (qXf (ok := okx_move) fx.XF_move hz hf rx) (qaCons (qIdx rfl (qFz (qLst (qaCons (qInt) (qaCons (qInt) (qaCons (qLen rfl fx.gl_len (qaCons (qIdx rfl (qVar 2) (qVar 4)) qaNil)) (qaCons (qNeg (qInt)) qaNil)))))) (qVar 14)) qaNil))))))) qaNil)))))) .nil))))) (qCons (qSetLc (T := .nm 19) fxo_none rfl S_p_law_changed.nd (qiRng1 fx.gl_range (qaCons (qLen rfl fx.gl_len (qaCons (qVar 1) qaNil)) qaNil)) (own := [("at", 19)]) (blkOk_by rfl) (by decide) fxs_none (lcName (i := 19) fxo_none S_p_law_changed.nd rfl (fun _ _ => rfl)) (fun _ _ _ _ _ => qtsOne (qt_w (qw_and (tLt (m := true)  (qIdx rfl (qVar 1) (qVar 19)) (qInt)) (qw_and1 (tNotIn (m := true) rfl hu (qVar 19) (qVar 3)))))) (fun _ _ _ _ _ => qSh (qVar 19)) (sw_true rfl rfl rfl rfl)) (qFzS 16 (qCons (qSet (i := 17) fxo_none S_p_law_changed.nd (qmSh (qFz ((qMeth (c := 7) k_Game_with_safe fx.C_Game fx.MT_Game_with_safe (hr.mono (by decide)) tk fx.B0_Game_with_safe.2 fx.B0_Game_with_safe.1 (fun _ => Reps.nil) (qVar 0) (qaCons (qVar 16) qaNil)))))) (qCons (qIfS (qt_w (qw_or (tNe (m := true) rfl hu (qFld (ok := ok_safe) rfl fx.FL_safe (qVar 17)) (qTuple rfl fx.gl_tuple (qaCons (qVar 16) qaNil))) (qw_or (tNe (m := true) rfl hu (qFld (ok := ok_moves) rfl fx.FL_moves (qVar 17)) (qFld (ok := ok_moves) rfl fx.FL_moves (qVar 0))) (qw_or1 (tNe (m := true) rfl hu (qEqO rfl k_Game_eq fx.EO_Game (hr.mono (by decide)) fx.B0_Game_eq.2 (qVar 17) (qVar 0)) (qEq rfl hu (qVar 16) (qVar 3))))))) (qLast (qRt (qmSh (qBl)))) (qNil)) (qLast (qRt (qmSh (qEq rfl hu (qVar 13) (qInt))))))))))))))))))
theorem ok_law (fx : Fx P Γ mg ad fd dv cv cu fI) (k_Game_eq : FnOk P w Γ.K mg base (L2N.CX P w) 1 (ad 14) (fd 14) ["self", "other"] (spP Γ F_Game_eq)) (k_Game_init : FnOk P w Γ.K mg base (L2N.CX P w) 4 (ad 6) (fd 6) ["self", "marks", "moves", "safe"] (spI Γ 7 F_Game_init)) (k_Game_turned : FnOk P w Γ.K mg base (L2N.CX P w) 6 (ad 11) (fd 11) ["self"] (spP Γ F_Game_turned)) (k_Game_with_safe : FnOk P w Γ.K mg base (L2N.CX P w) 6 (ad 13) (fd 13) ["self", "safe"] (spP Γ F_Game_with_safe)) (k_p_law_bad : FnOk P w Γ.K mg base (L2N.CX P w) 6 (ad 26) (fd 26) ["marks", "moves", "safe", "position"] (spP Γ F_p_law_bad)) (k_p_law_base : FnOk P w Γ.K mg base (L2N.CX P w) 6 (ad 27) (fd 27) ["marks", "moves"] (spP Γ F_p_law_base)) (k_p_law_build : FnOk P w Γ.K mg base (L2N.CX P w) 3 (ad 25) (fd 25) ["script"] (spP Γ F_p_law_build)) (k_p_law_cell : FnOk P w Γ.K mg base (L2N.CX P w) 1 (ad 21) (fd 21) ["script", "k"] (spP Γ F_p_law_cell)) (k_p_law_changed : FnOk P w Γ.K mg base (L2N.CX P w) 7 (ad 36) (fd 36) ["game", "marks", "moves", "safe", "position", "cell"] (spP Γ F_p_law_changed)) (k_p_law_errors : FnOk P w Γ.K mg base (L2N.CX P w) 5 (ad 34) (fd 34) ["game", "size", "position", "count", "big"] (spP Γ F_p_law_errors)) (k_p_law_hopeless : FnOk P w Γ.K mg base (L2N.CX P w) 2 (ad 31) (fd 31) ["marks", "moves"] (spP Γ F_p_law_hopeless)) (k_p_law_is : FnOk P w Γ.K mg base (L2N.CX P w) 1 (ad 23) (fd 23) ["actual", "expected"] (spP Γ F_p_law_is)) (k_p_law_numbers : FnOk P w Γ.K mg base (L2N.CX P w) 1 (ad 22) (fd 22) ["cell", "salt", "count", "many"] (spP Γ F_p_law_numbers)) (k_p_law_place : FnOk P w Γ.K mg base (L2N.CX P w) 6 (ad 35) (fd 35) ["game", "position", "marks", "moves", "safe", "big"] (spP Γ F_p_law_place)) (k_p_law_refusals : FnOk P w Γ.K mg base (L2N.CX P w) 7 (ad 29) (fd 29) ["marks", "moves", "safe", "way", "cell"] (spP Γ F_p_law_refusals)) (k_hopeless : FnOk P w Γ.K mg base (L2N.CX P w) 3 (ad 20) (fd 20) ["game"] (spP Γ F_hopeless)) : FnOk P w Γ.K mg base (L2N.CX P w) 8 (ad 37) (fd 37) ["script"] (spP Γ F_law) := by
  refine qDef fx.F_law S_law rfl rfl fun cdv A outer s H E C hG hfx hr tk hp => ?_
  obtain ⟨G, He, Hz, fx0, Hx⟩ := C
  dsimp only at hG hfx
  subst hG hfx
  have hu := L3.hu_of hr
  have hrH := L2H.roomH_of hr
  have hdep := L3.dep_of hr
  unfold s_law
  exact qCons (qTg (qFz ((qCall k_p_law_build (hr.mono (by decide)) tk fx.G_p_law_build fx.F_p_law_build.kp fx.B0_p_law_build.2 fx.B0_p_law_build.1 (fun _ => Reps.nil) (qaCons (qVar 0) qaNil)))) (qgTup rfl rfl (qgsCons (i := 1) fxo_none S_law.nd (qgsCons (i := 2) fxo_none S_law.nd (qgsCons (i := 3) fxo_none S_law.nd qgsNil))))) (qCons (qSet (i := 4) fxo_none S_law.nd (qmSh (qLen rfl fx.gl_len (qaCons (qVar 1) qaNil)))) (qCons (qSet (i := 5) fxo_none S_law.nd (qmFr (qLstO (qoaCons (qLstO (qoaCons (qList rfl fx.gl_list (qaCons (qVar 1) qaNil)) (qoaCons ((qLc (T := .nm 14) rfl S_law.nd (qiSeq rfl (qVar 2)) (own := [("row", 14)]) (blkOk_by rfl) (by decide) fxs_none (lcName (i := 14) fxo_none S_law.nd rfl (fun _ _ => rfl)) (fun _ _ _ _ _ => qtsNil) (fun _ _ _ _ _ => qList rfl fx.gl_list (qaCons (qVar 14) qaNil)))) (qoaCons (qList rfl fx.gl_list (qaCons (qVar 3) qaNil)) qoaNil)))) (qoaCons (qLstO (qoaCons (qList rfl fx.gl_list (qaCons (qVar 1) qaNil)) (qoaCons ((qLc (T := .nm 14) rfl S_law.nd (qiSeq rfl (qVar 2)) (own := [("row", 14)]) (blkOk_by rfl) (by decide) fxs_none (lcName (i := 14) fxo_none S_law.nd rfl (fun _ _ => rfl)) (fun _ _ _ _ _ => qtsNil) (fun _ _ _ _ _ => qList rfl fx.gl_list (qaCons (qVar 14) qaNil)))) (qoaCons (qList rfl fx.gl_list (qaCons (qVar 3) qaNil)) qoaNil)))) qoaNil))))) (qCons (qSet (i := 6) fxo_none S_law.nd (qmSh (qFz ((qMake (c := 7) k_Game_init fx.M_Game (hr.mono (by decide)) tk fx.G_Game fx.B0_Game_init.2 fx.B0_Game_init.1 (fun _ => Reps.nil) (qaCons (qIdx rfl (qIdx rfl (qOwn 5) (qInt)) (qInt)) (qaCons (qIdx rfl (qIdx rfl (qOwn 5) (qInt)) (qInt)) (qaCons (qIdx rfl (qIdx rfl (qOwn 5) (qInt)) (qInt)) qaNil)))))))) (qCons (qIfS (tNe (m := false) rfl hu (qIdx rfl (qOwn 5) (qInt)) (qIdx rfl (qOwn 5) (qInt))) (qLast (qRt (qmSh (qBl)))) (qNil)) (qCons (qSt (m := true) (qmSh (qInt)) (qpIx (m := true) (qpIx (m := true) (qpVar 5) (qInt)) (qInt)) (qInt)) (qCons (qApp (qpIx (m := true) (qpIx (m := true) (qpIx (m := true) (qpVar 5) (qInt)) (qInt)) (qInt)) (qmSh (qTup (qaCons (qStr) (qaCons (qInt) (qaCons (qInt) (qaCons (qInt) qaNil))))))) (qCons (qApp (qpIx (m := true) (qpIx (m := true) (qpVar 5) (qInt)) (qInt)) (qmSh (qInt))) (qCons (qIfS (qt_w (qw_or (qt_not (qtVal (m := true) (qFz ((qCall k_p_law_is (hr.mono (by decide)) tk fx.G_p_law_is fx.F_p_law_is.kp fx.B0_p_law_is.2 fx.B0_p_law_is.1 (fun _ => Reps.nil) (qaCons (qFld (ok := ok_size) rfl fx.FL_size (qVar 6)) (qaCons (qVar 4) qaNil))))))) (qw_or (tNe (m := true) rfl hu (qFld (ok := ok_marks) rfl fx.FL_marks (qVar 6)) (qTuple rfl fx.gl_tuple (qaCons (qVar 1) qaNil))) (qw_or1 (tNe (m := true) rfl hu (qFld (ok := ok_safe) rfl fx.FL_safe (qVar 6)) (qTuple rfl fx.gl_tuple (qaCons (qVar 3) qaNil))))))) (qLast (qRt (qmSh (qBl)))) (qNil)) (qCons (qIfS (tNe (m := true) rfl hu (qFld (ok := ok_moves) rfl fx.FL_moves (qVar 6)) (qTuple rfl fx.gl_tuple (qaCons (qFz ((qLc (T := .nm 14) rfl S_law.nd (qiSeq rfl (qVar 2)) (own := [("row", 14)]) (blkOk_by rfl) (by decide) fxs_none (lcName (i := 14) fxo_none S_law.nd rfl (fun _ _ => rfl)) (fun _ _ _ _ _ => qtsNil) (fun _ _ _ _ _ => qSh (qTuple rfl fx.gl_tuple (qaCons (qVar 14) qaNil)))))) qaNil))) (qLast (qRt (qmSh (qBl)))) (qNil)) (qCons (qSet (i := 7) fxo_none S_law.nd (qmSh (qFz ((qCall k_p_law_numbers (hr.mono (by decide)) tk fx.G_p_law_numbers fx.F_p_law_numbers.kp fx.B0_p_law_numbers.2 fx.B0_p_law_numbers.1 (fun _ => Reps.nil) (qaCons (qFz ((qCall k_p_law_cell (hr.mono (by decide)) tk fx.G_p_law_cell fx.F_p_law_cell.kp fx.B0_p_law_cell.2 fx.B0_p_law_cell.1 (fun _ => Reps.nil) (qaCons (qVar 0) (qaCons (qInt) qaNil))))) (qaCons (qInt) (qaCons (qInt) (qaCons (qInt) qaNil))))))))) (qCons (qSet (i := 8) fxo_none S_law.nd (qmSh (qSub (qPow (qInt) (qInt)) (qMul (qMod (qIntB fx.gl_int (qaCons (qAbs fx.gl_abs (qaCons (qFz ((qCall k_p_law_cell (hr.mono (by decide)) tk fx.G_p_law_cell fx.F_p_law_cell.kp fx.B0_p_law_cell.2 fx.B0_p_law_cell.1 (fun _ => Reps.nil) (qaCons (qVar 0) (qaCons (qInt) qaNil))))) qaNil)) qaNil)) (qPow (qInt) (qInt))) (qMod (qIdx rfl (qVar 7) (qInt)) (qInt)))))) (qCons (qFor (T := (.nm 9)) [9] hp rfl (qiRng1 fx.gl_range (qaCons (qVar 4) qaNil)) (fun _ => qgName (i := 9) fxo_none S_law.nd) (fun _ => qLast (qIfS (qt_not (qtVal (m := true) (qFz ((qCall k_p_law_place (hr.mono (by decide)) tk fx.G_p_law_place fx.F_p_law_place.kp fx.B0_p_law_place.2 fx.B0_p_law_place.1 (fun _ => Reps.nil) (qaCons (qVar 6) (qaCons (qVar 9) (qaCons (qVar 1) (qaCons (qVar 2) (qaCons (qVar 3) (qaCons (qVar 8) qaNil))))))))))) (qLast (qRt (qmSh (qBl)))) (qNil)))) (qCons (qSet (i := 10) fxo_none S_law.nd (qmSh (qFz ((qMeth0 (c := 7) (m := true) k_Game_turned fx.C_Game fx.MT_Game_turned (hr.mono (by decide)) tk fx.B0_Game_turned.2 fx.B0_Game_turned.1 (fun _ => Reps.nil) (qVar 6)))))) (qCons (qIfS (qt_w (qw_or (tNe (m := true) rfl hu (qFld (ok := ok_marks) rfl fx.FL_marks (qVar 10)) (qTuple rfl fx.gl_tuple (qaCons (qFz ((qLc (T := .nm 15) rfl S_law.nd (qiSeq rfl (qVar 1)) (own := [("mark", 15)]) (blkOk_by rfl) (by decide) fxs_none (lcName (i := 15) fxo_none S_law.nd rfl (fun _ _ => rfl)) (fun _ _ _ _ _ => qtsNil) (fun _ _ _ _ _ => qSh (qIdx rfl (qFz (qLst (qaCons (qInt) (qaCons (qInt) (qaCons (qInt) (qaCons (qInt) (qaCons (qInt) (qaCons (qInt) qaNil)))))))) (qVar 15)))))) qaNil))) (qw_or1 (tNe (m := true) rfl hu (qFld (ok := ok_moves) rfl fx.FL_moves (qVar 10)) (qFld (ok := ok_moves) rfl fx.FL_moves (qVar 6)))))) (qLast (qRt (qmSh (qBl)))) (qNil)) (qCons (qIfS (qt_w (qw_or (tNe (m := true) rfl hu (qFld (ok := ok_safe) rfl fx.FL_safe (qVar 10)) (qFld (ok := ok_safe) rfl fx.FL_safe (qVar 6))) (qw_or (qt_not (tEqO (m := true) rfl k_Game_eq fx.EO_Game (hr.mono (by decide)) fx.B0_Game_eq.2 (qFz ((qMeth0 (c := 7) (m := true) k_Game_turned fx.C_Game fx.MT_Game_turned (hr.mono (by decide)) tk fx.B0_Game_turned.2 fx.B0_Game_turned.1 (fun _ => Reps.nil) (qVar 10)))) (qVar 6))) (qw_or1 (tNe (m := true) rfl hu (qEqO rfl k_Game_eq fx.EO_Game (hr.mono (by decide)) fx.B0_Game_eq.2 (qVar 10) (qVar 6)) (qEq rfl hu (qMin rfl rfl fx.gl_min (qaCons (qVar 1) qaNil)) (qInt))))))) (qLast (qRt (qmSh (qBl)))) (qNil)) (qCons (qSet (i := 11) fxo_none S_law.nd (qmSh (qFz ((qCall k_p_law_hopeless (hr.mono (by decide)) tk fx.G_p_law_hopeless fx.F_p_law_hopeless.kp fx.B0_p_law_hopeless.2 fx.B0_p_law_hopeless.1 (fun _ => Reps.nil) (qaCons (qVar 1) (qaCons (qVar 2) qaNil))))))) (qCons (qSet (i := 12) fxo_none S_law.nd (qmSh (qFz ((qCall k_hopeless (hr.mono (by decide)) tk fx.G_hopeless fx.F_hopeless.kp fx.B0_hopeless.2 fx.B0_hopeless.1 (fun _ => Reps.nil) (qaCons (qVar 6) qaNil)))))) (qCons (qIfS (qt_w (qw_or (qt_not (qtVal (m := true) (qIsiT (tb := tbT "list") (ib := ibN) rfl fx.gl_isinstance fx.gl_list bt_list tbT_ok ibN_ok (qVar 12)))) (qw_or (tNe (m := true) rfl hu (qVar 12) (qVar 11)) (qw_or1 (tNe (m := true) rfl hu (qFz ((qCall k_hopeless (hr.mono (by decide)) tk fx.G_hopeless fx.F_hopeless.kp fx.B0_hopeless.2 fx.B0_hopeless.1 (fun _ => Reps.nil) (qaCons (qFz ((qMeth (c := 7) k_Game_with_safe fx.C_Game fx.MT_Game_with_safe (hr.mono (by decide)) tk fx.B0_Game_with_safe.2 fx.B0_Game_with_safe.1 (fun _ => Reps.nil) (qVar 6) (qaCons (qVar 11) qaNil)))) qaNil)))) (qVar 11)))))) (qLast (qRt (qmSh (qBl)))) (qNil)) (qCons (qFor (T := (.nm 9)) [9, 16] hp rfl (qiSeq rfl (qFz ((qLc (T := .nm 16) rfl S_law.nd (qiRng1 fx.gl_range (qaCons (qVar 4) qaNil)) (own := [("at", 16)]) (blkOk_by rfl) (by decide) fxs_none (lcName (i := 16) fxo_none S_law.nd rfl (fun _ _ => rfl)) (fun _ _ _ _ _ => qtsOne (tLt (m := true)  (qIdx rfl (qVar 1) (qVar 16)) (qInt))) (fun _ _ _ _ _ => qSh (qVar 16)))))) (fun _ => qgName (i := 9) fxo_none S_law.nd) (fun _ => qCons (qIfS (qt_not (qtVal (m := true) (qFz ((qCall k_p_law_changed (hr.mono (by decide)) tk fx.G_p_law_changed fx.F_p_law_changed.kp fx.B0_p_law_changed.2 fx.B0_p_law_changed.1 (fun _ => Reps.nil) (qaCons (qVar 6) (qaCons (qVar 1) (qaCons (qVar 2) (qaCons (qVar 3) (qaCons (qVar 9) (qaCons (qAdd rfl (qIdx rfl (qVar 7) (qInt)) (qMul (qInt) (qVar 9))) qaNil))))))))))) (qLast (qRt (qmSh (qBl)))) (qNil)) (qLast (qIfS (qt_not (qtVal (m := true) (qFz ((qCall k_p_law_errors (hr.mono (by decide)) tk fx.G_p_law_errors fx.F_p_law_errors.kp fx.B0_p_law_errors.2 fx.B0_p_law_errors.1 (fun _ => Reps.nil) (qaCons (qVar 6) (qaCons (qVar 4) (qaCons (qVar 9) (qaCons (qLen rfl fx.gl_len (qaCons (qIdx rfl (qVar 2) (qVar 9)) qaNil)) (qaCons (qPow (qInt) (qInt)) qaNil)))))))))) (qLast (qRt (qmSh (qBl)))) (qNil))))) (qCons (qIfS (qt_not (qtVal (m := true) (qFz ((qCall k_p_law_base (hr.mono (by decide)) tk fx.G_p_law_base fx.F_p_law_base.kp fx.B0_p_law_base.2 fx.B0_p_law_base.1 (fun _ => Reps.nil) (qaCons (qVar 1) (qaCons (qVar 2) qaNil))))))) (qLast (qRt (qmSh (qBl)))) (qNil)) (qCons (qSet (i := 13) fxo_none S_law.nd (qmSh (qAdd rfl (qInt) (qMod (qIdx rfl (qVar 7) (qInt)) (qInt))))) (qCons (qIfS (qt_w (qw_and (tEq (m := true) rfl hu (qVar 13) (qInt)) (qw_and1 (tNe (m := true) rfl hu (qFld (ok := ok_size) rfl fx.FL_size (qFz ((qMake (c := 7) k_Game_init fx.M_Game (hr.mono (by decide)) tk fx.G_Game fx.D1_Game_init.choose_spec.2.1 fx.D1_Game_init.choose_spec.1 (fx.D1_Game_init.choose_spec.2.2) (qaCons (qMul (qFz (qLst (qaCons (qInt) qaNil))) (qInt)) (qaCons (qFz ((qLc (T := .nm 17) rfl S_law.nd (qiRng1 fx.gl_range (qaCons (qInt) qaNil)) (own := [("k", 17)]) (blkOk_by rfl) (by decide) fxs_none (lcName (i := 17) fxo_none S_law.nd rfl (fun _ _ => rfl)) (fun _ _ _ _ _ => qtsNil) (fun _ _ _ _ _ => qSh (qFz (qLst qaNil)))))) qaNil)))))) (qInt))))) (qLast (qRt (qmSh (qBl)))) (qNil)) (qCons (qIfS (qt_w (qw_and (tEq (m := true) rfl hu (qVar 13) (qInt)) (qw_and1 (qt_not (qtVal (m := true) (qFz ((qCall k_p_law_bad (hr.mono (by decide)) tk fx.G_p_law_bad fx.F_p_law_bad.kp fx.B0_p_law_bad.2 fx.B0_p_law_bad.1 (fun _ => Reps.nil) (qaCons (qMul (qFz (qLst (qaCons (qInt) qaNil))) (qInt)) (qaCons (qFz ((qLc (T := .nm 17) rfl S_law.nd (qiRng1 fx.gl_range (qaCons (qInt) qaNil)) (own := [("k", 17)]) (blkOk_by rfl) (by decide) fxs_none (lcName (i := 17) fxo_none S_law.nd rfl (fun _ _ => rfl)) (fun _ _ _ _ _ => qtsNil) (fun _ _ _ _ _ => qSh (qFz (qLst qaNil)))))) (qaCons (qTup qaNil) (qaCons (qNeg (qInt)) qaNil)))))))))))) (qLast (qRt (qmSh (qBl)))) (qNil)) (qLast (qRt (qmSh (qFz ((qCall k_p_law_refusals (hr.mono (by decide)) tk fx.G_p_law_refusals fx.F_p_law_refusals.kp fx.B0_p_law_refusals.2 fx.B0_p_law_refusals.1 (fun _ => Reps.nil) (qaCons (qVar 1) (qaCons (qVar 2) (qaCons (qVar 3) (qaCons (qMod (qIdx rfl (qVar 7) (qInt)) (qInt)) (qaCons (qIdx rfl (qVar 7) (qInt)) qaNil))))))))))))))))))))))))))))))))))
end
end K00

end
section

/-! The head, as gen.py prints it. -/
namespace K00
open PySem PySem.Spec PyProof.Rows L2 L3 He X4
def d_checked_amount : DefD := ⟨("checked_amount", none), "checked_amount", "checked_amount", defArgs (top 10), defBody (top 10), defScope (top 10), [], []⟩
def d_other_side : DefD := ⟨("other_side", none), "other_side", "other_side", defArgs (top 11), defBody (top 11), defScope (top 11), [], []⟩
def d_is_word : DefD := ⟨("is_word", none), "is_word", "is_word", defArgs (top 24), defBody (top 24), defScope (top 24), [], []⟩
def d_moves_fit : DefD := ⟨("moves_fit", none), "moves_fit", "moves_fit", defArgs (top 25), defBody (top 25), defScope (top 25), [], []⟩
def d_position_fits : DefD := ⟨("position_fits", none), "position_fits", "position_fits", defArgs (top 26), defBody (top 26), defScope (top 26), [], []⟩
def d_guards : DefD := ⟨("guards", none), "guards", "guards", defArgs (top 27), defBody (top 27), defScope (top 27), [], []⟩
def d_Game_init : DefD := ⟨("Game", some "__init__"), "__init__", "Game.__init__", defArgs (mth 28 0), defBody (mth 28 0), defScope (mth 28 0), [.adr (dflAt ("Game", some "__init__") 0)], []⟩
def d_Game_checked : DefD := ⟨("Game", some "checked"), "checked", "Game.checked", defArgs (mth 28 1), defBody (mth 28 1), defScope (mth 28 1), [], []⟩
def d_Game_mover : DefD := ⟨("Game", some "mover"), "mover", "Game.mover", defArgs (mth 28 2), defBody (mth 28 2), defScope (mth 28 2), [], []⟩
def d_Game_is_safe : DefD := ⟨("Game", some "is_safe"), "is_safe", "Game.is_safe", defArgs (mth 28 3), defBody (mth 28 3), defScope (mth 28 3), [], []⟩
def d_Game_index_of : DefD := ⟨("Game", some "index_of"), "index_of", "Game.index_of", defArgs (mth 28 4), defBody (mth 28 4), defScope (mth 28 4), [], []⟩
def d_Game_turned : DefD := ⟨("Game", some "turned"), "turned", "Game.turned", defArgs (mth 28 5), defBody (mth 28 5), defScope (mth 28 5), [], []⟩
def d_Game_with_move : DefD := ⟨("Game", some "with_move"), "with_move", "Game.with_move", defArgs (mth 28 6), defBody (mth 28 6), defScope (mth 28 6), [], []⟩
def d_Game_with_safe : DefD := ⟨("Game", some "with_safe"), "with_safe", "Game.with_safe", defArgs (mth 28 7), defBody (mth 28 7), defScope (mth 28 7), [], []⟩
def d_Game_eq : DefD := ⟨("Game", some "__eq__"), "__eq__", "Game.__eq__", defArgs (mth 28 8), defBody (mth 28 8), defScope (mth 28 8), [], []⟩
def d_ended_outcome : DefD := ⟨("ended_outcome", none), "ended_outcome", "ended_outcome", defArgs (top 29), defBody (top 29), defScope (top 29), [], []⟩
def d_flag_outcome : DefD := ⟨("flag_outcome", none), "flag_outcome", "flag_outcome", defArgs (top 30), defBody (top 30), defScope (top 30), [], []⟩
def d_allowed_moves : DefD := ⟨("allowed_moves", none), "allowed_moves", "allowed_moves", defArgs (top 31), defBody (top 31), defScope (top 31), [], []⟩
def d_play : DefD := ⟨("play", none), "play", "play", defArgs (top 32), defBody (top 32), defScope (top 32), [], []⟩
def d_reaching : DefD := ⟨("reaching", none), "reaching", "reaching", defArgs (top 33), defBody (top 33), defScope (top 33), [], []⟩
def d_hopeless : DefD := ⟨("hopeless", none), "hopeless", "hopeless", defArgs (top 34), defBody (top 34), defScope (top 34), [], []⟩
def d_p_law_cell : DefD := ⟨("_law_cell", none), "_law_cell", "_law_cell", defArgs (top 36), defBody (top 36), defScope (top 36), [], []⟩
def d_p_law_numbers : DefD := ⟨("_law_numbers", none), "_law_numbers", "_law_numbers", defArgs (top 37), defBody (top 37), defScope (top 37), [], []⟩
def d_p_law_is : DefD := ⟨("_law_is", none), "_law_is", "_law_is", defArgs (top 38), defBody (top 38), defScope (top 38), [], []⟩
def d_p_law_word : DefD := ⟨("_law_word", none), "_law_word", "_law_word", defArgs (top 39), defBody (top 39), defScope (top 39), [], []⟩
def d_p_law_build : DefD := ⟨("_law_build", none), "_law_build", "_law_build", defArgs (top 40), defBody (top 40), defScope (top 40), [], []⟩
def d_p_law_bad : DefD := ⟨("_law_bad", none), "_law_bad", "_law_bad", defArgs (top 41), defBody (top 41), defScope (top 41), [], []⟩
def d_p_law_base : DefD := ⟨("_law_base", none), "_law_base", "_law_base", defArgs (top 42), defBody (top 42), defScope (top 42), [], []⟩
def d_p_law_broken : DefD := ⟨("_law_broken", none), "_law_broken", "_law_broken", defArgs (top 43), defBody (top 43), defScope (top 43), [], []⟩
def d_p_law_refusals : DefD := ⟨("_law_refusals", none), "_law_refusals", "_law_refusals", defArgs (top 44), defBody (top 44), defScope (top 44), [], []⟩
def d_p_law_reach : DefD := ⟨("_law_reach", none), "_law_reach", "_law_reach", defArgs (top 45), defBody (top 45), defScope (top 45), [], []⟩
def d_p_law_hopeless : DefD := ⟨("_law_hopeless", none), "_law_hopeless", "_law_hopeless", defArgs (top 46), defBody (top 46), defScope (top 46), [], []⟩
def d_p_law_error : DefD := ⟨("_law_error", none), "_law_error", "_law_error", defArgs (top 47), defBody (top 47), defScope (top 47), [], []⟩
def d_p_law_standing : DefD := ⟨("_law_standing", none), "_law_standing", "_law_standing", defArgs (top 48), defBody (top 48), defScope (top 48), [], []⟩
def d_p_law_errors : DefD := ⟨("_law_errors", none), "_law_errors", "_law_errors", defArgs (top 49), defBody (top 49), defScope (top 49), [], []⟩
def d_p_law_place : DefD := ⟨("_law_place", none), "_law_place", "_law_place", defArgs (top 50), defBody (top 50), defScope (top 50), [], []⟩
def d_p_law_changed : DefD := ⟨("_law_changed", none), "_law_changed", "_law_changed", defArgs (top 51), defBody (top 51), defScope (top 51), [], []⟩
def d_law : DefD := ⟨("law", none), "law", "law", defArgs (top 52), defBody (top 52), defScope (top 52), [], []⟩
def fn0 : List DefD := [d_checked_amount, d_other_side, d_is_word, d_moves_fit, d_position_fits, d_guards, d_Game_init, d_Game_checked, d_Game_mover, d_Game_is_safe, d_Game_index_of, d_Game_turned, d_Game_with_move, d_Game_with_safe, d_Game_eq, d_ended_outcome, d_flag_outcome, d_allowed_moves, d_play, d_reaching, d_hopeless, d_p_law_cell, d_p_law_numbers, d_p_law_is, d_p_law_word, d_p_law_build, d_p_law_bad, d_p_law_base, d_p_law_broken, d_p_law_refusals]
def fn1 : List DefD := [d_p_law_reach, d_p_law_hopeless, d_p_law_error, d_p_law_standing, d_p_law_errors, d_p_law_place, d_p_law_changed, d_law]
def fn : List DefD := fn0 ++ (fn1)
def x_BadAmount : SupD := ⟨"BadAmount", "amount", "BadAmount.__init__", defArgs (mth 2 0), defBody (mth 2 0), defScope (mth 2 0)⟩
def x_BadSide : SupD := ⟨"BadSide", "side", "BadSide.__init__", defArgs (mth 3 0), defBody (mth 3 0), defScope (mth 3 0)⟩
def x_BadGame : SupD := ⟨"BadGame", "position", "BadGame.__init__", defArgs (mth 4 0), defBody (mth 4 0), defScope (mth 4 0)⟩
def x_NoPosition : SupD := ⟨"NoPosition", "position", "NoPosition.__init__", defArgs (mth 5 0), defBody (mth 5 0), defScope (mth 5 0)⟩
def x_NoMove : SupD := ⟨"NoMove", "move", "NoMove.__init__", defArgs (mth 6 0), defBody (mth 6 0), defScope (mth 6 0)⟩
def x_NoTime : SupD := ⟨"NoTime", "need", "NoTime.__init__", defArgs (mth 7 0), defBody (mth 7 0), defScope (mth 7 0)⟩
def sx : List SupD := [x_BadAmount, x_BadSide, x_BadGame, x_NoPosition, x_NoMove, x_NoTime]
def mfl : Str := "/claim/cut.py"
def isC (x : Str) : Ck := fun K => iscB K x
def fs0 : List Ck := [fa (.int "MOST" 1000000000000000000000000000000), fa (.int "FIRST" 1), fa (.int "SECOND" 2), fa (.int "WON" 3), fa (.int "LOST" 4), fa (.int "DRAWN" 5), fa (.int "MOST_POSITIONS" 1000), fa (.int "MOST_MOVES" 16), fa (.int "MOST_NEED" 9), fa (.str "WORD_SIGNS" "abcdefghijklmnopqrstuvwxyz0123456789"), fa (.glo "TURNED_MARKS"), fa (.glo "ENDED_OUTCOMES"), fa (.free "len"), fa (.free "abs"), fa (.free "int"), fa (.free "max"), fa (.free "min"), fa (.free "sum"), fa (.free "all"), fa (.free "any"), fa (.free "tuple"), fa (.free "list"), fa (.free "range"), fa (.free "isinstance"), fa (.free "str"), fa (.free "bool"), fa (.free "sorted"), fa (.free "ValueError"), fa (.glo "checked_amount"), fa (.glo "other_side")]
def fs1 : List Ck := [fa (.glo "is_word"), fa (.glo "moves_fit"), fa (.glo "position_fits"), fa (.glo "guards"), tupAt (dflAt ("Game", some "__init__") 0) [], fa (.meth "Game" "checked"), fa (.meth "Game" "mover"), fa (.meth "Game" "is_safe"), fa (.meth "Game" "index_of"), fa (.meth "Game" "turned"), fa (.meth "Game" "with_move"), fa (.meth "Game" "with_safe"), fa (.meth "Game" "__eq__"), fa (.glo "ended_outcome"), fa (.glo "flag_outcome"), fa (.glo "allowed_moves"), fa (.glo "play"), fa (.glo "reaching"), fa (.glo "hopeless"), fa (.glo "_law_cell"), fa (.glo "_law_numbers"), fa (.glo "_law_is"), fa (.glo "_law_word"), fa (.glo "_law_build"), fa (.glo "_law_bad"), fa (.glo "_law_base"), fa (.glo "_law_broken"), fa (.glo "_law_refusals"), fa (.glo "_law_reach"), fa (.glo "_law_hopeless")]
def fs2 : List Ck := [fa (.glo "_law_error"), fa (.glo "_law_standing"), fa (.glo "_law_errors"), fa (.glo "_law_place"), fa (.glo "_law_changed"), fa (.glo "law"), fa (.glo "Fault"), fa (.glo "BadAmount"), supB mfl x_BadAmount, fa (.keep "BadAmount"), raisB "BadAmount", fa (.glo "BadSide"), supB mfl x_BadSide, fa (.keep "BadSide"), raisB "BadSide", fa (.glo "BadGame"), supB mfl x_BadGame, fa (.keep "BadGame"), raisB "BadGame", fa (.glo "NoPosition"), supB mfl x_NoPosition, fa (.keep "NoPosition"), raisB "NoPosition", fa (.glo "NoMove"), supB mfl x_NoMove, fa (.keep "NoMove"), raisB "NoMove", fa (.glo "NoTime"), supB mfl x_NoTime, fa (.keep "NoTime")]
def fs3 : List Ck := [raisB "NoTime", fa (.glo "Game"), fa (.cls "Game"), fa (.mkr "Game"), eqcB "Game", fa (.noat "Game" "_guarded"), fa (.noat "Game" "marks"), fa (.noat "Game" "moves"), fa (.noat "Game" "safe"), fa (.noat "Game" "size"), xfCk "BadAmount", fa (.noat "BadAmount" "amount"), xfCk "NoMove", fa (.noat "NoMove" "move"), xfCk "NoTime", fa (.noat "NoTime" "need"), xfCk "BadGame", fa (.noat "BadGame" "position"), xfCk "NoPosition", fa (.noat "NoPosition" "position"), xfCk "BadSide", fa (.noat "BadSide" "side"), exmB "Fault" "BadAmount" false, exmB "BadAmount" "BadAmount" true, exmB "BadSide" "BadAmount" false, exmB "BadGame" "BadAmount" false, exmB "NoPosition" "BadAmount" false, exmB "NoMove" "BadAmount" false, exmB "NoTime" "BadAmount" false, exmB "Fault" "BadGame" false]
def fs4 : List Ck := [exmB "BadAmount" "BadGame" false, exmB "BadSide" "BadGame" false, exmB "BadGame" "BadGame" true, exmB "NoPosition" "BadGame" false, exmB "NoMove" "BadGame" false, exmB "NoTime" "BadGame" false, exmB "Fault" "Fault" true, exmB "BadAmount" "Fault" true, exmB "BadSide" "Fault" true, exmB "BadGame" "Fault" true, exmB "NoPosition" "Fault" true, exmB "NoMove" "Fault" true, exmB "NoTime" "Fault" true, exmB "Fault" "NoMove" false, exmB "BadAmount" "NoMove" false, exmB "BadSide" "NoMove" false, exmB "BadGame" "NoMove" false, exmB "NoPosition" "NoMove" false, exmB "NoMove" "NoMove" true, exmB "NoTime" "NoMove" false, exmB "Fault" "NoPosition" false, exmB "BadAmount" "NoPosition" false, exmB "BadSide" "NoPosition" false, exmB "BadGame" "NoPosition" false, exmB "NoPosition" "NoPosition" true, exmB "NoMove" "NoPosition" false, exmB "NoTime" "NoPosition" false, exmB "Fault" "NoTime" false, exmB "BadAmount" "NoTime" false, exmB "BadSide" "NoTime" false]
def fs5 : List Ck := [exmB "BadGame" "NoTime" false, exmB "NoPosition" "NoTime" false, exmB "NoMove" "NoTime" false, exmB "NoTime" "NoTime" true, exiC "Fault", kitRR "Fault" "BadGame" false, exiC "BadAmount", kitRR "BadAmount" "BadGame" false, exiC "BadSide", kitRR "BadSide" "BadGame" false, exiC "BadGame", kitRR "BadGame" "BadGame" true, exiC "NoPosition", kitRR "NoPosition" "BadGame" false, exiC "NoMove", kitRR "NoMove" "BadGame" false, exiC "NoTime", kitRR "NoTime" "BadGame" false, kitRR "Fault" "Fault" true, kitRR "BadAmount" "Fault" true, kitRR "BadSide" "Fault" true, kitRR "BadGame" "Fault" true, kitRR "NoPosition" "Fault" true, kitRR "NoMove" "Fault" true, kitRR "NoTime" "Fault" true, kitRR "Fault" "NoMove" false, kitRR "BadAmount" "NoMove" false, kitRR "BadSide" "NoMove" false, kitRR "BadGame" "NoMove" false, kitRR "NoPosition" "NoMove" false]
def fs6 : List Ck := [kitRR "NoMove" "NoMove" true, kitRR "NoTime" "NoMove" false, kitRR "Fault" "NoPosition" false, kitRR "BadAmount" "NoPosition" false, kitRR "BadSide" "NoPosition" false, kitRR "BadGame" "NoPosition" false, kitRR "NoPosition" "NoPosition" true, kitRR "NoMove" "NoPosition" false, kitRR "NoTime" "NoPosition" false, kitRR "Fault" "NoTime" false, kitRR "BadAmount" "NoTime" false, kitRR "BadSide" "NoTime" false, kitRR "BadGame" "NoTime" false, kitRR "NoPosition" "NoTime" false, kitRR "NoMove" "NoTime" false, kitRR "NoTime" "NoTime" true, kitRT "Fault" "ValueError" true, kitRT "BadAmount" "ValueError" true, kitRT "BadSide" "ValueError" true, kitRT "BadGame" "ValueError" true, kitRT "NoPosition" "ValueError" true, kitRT "NoMove" "ValueError" true, kitRT "NoTime" "ValueError" true, isC "Game", kitRR "Game" "Game" true, kitTR "tuple" "Game" false, kitTR "int" "Game" false, kitTR "list" "Game" false, kitTR "str" "Game" false, kitTR "NoneType" "Game" false]
def fs7 : List Ck := [kitTR "bool" "Game" false, tupC "TURNED_MARKS" [.int 0, .int 2, .int 1, .int 4, .int 3, .int 5], tupC "ENDED_OUTCOMES" [.non, .non, .non, .int 1, .int 2, .int 0]]
def fs : List Ck := fs0 ++ (fs1 ++ (fs2 ++ (fs3 ++ (fs4 ++ (fs5 ++ (fs6 ++ (fs7)))))))
abbrev Rw : PySem.W.OpenRow := PySem.W.OpenLaw.row PySem.Challenge.rw_flagfalls_k00_games
abbrev hk : PySem.W.Hook := hookX 5 fs fn sx
def ob (s : PySem.W.SharedT) : AlX := obsXG 5 fs fn sx (HandSHeadRun.getT s)
theorem ob_eq (s : PySem.W.SharedT) : ob s = hk.obs s.abs := obsXG_eq (HandSHeadRun.getT_eq s)
def names : List PySem.Str := (PySem.Challenge.pw_flagfalls_k00_games.main.scope.names.map (·.1)).filter (fun x => !(x == "law") && !(x == "__name__"))
theorem run (w : World) : HandSHeadRun.RunEq Rw (PySem.W.view Rw.prog [52]) hk ob 20000 names w := by
  intro os
  kernel_rfl
set_option maxHeartbeats 0 in
theorem facts {P : Program} {K : PySem.W.Frag} {h : Heap} {mg : Str → Option Value} {f : Addr} (hmf : P.main.file = mfl) (htop : (P.main.scope.names.lookup ("super" : Str)).isSome = false) (X : K.In h) (G : h.Ns mainGlobals mg) (hfa : mg ("law" : Str) = some (.ref f)) (c : SaysX fs fn sx K) :
    ∃ (Γ : Gc) (ad : Nat → Addr) (fd : Nat → FuncData) (dv : Nat → List V) (cv : Nat → V) (cu : Nat → Value) (fI : Nat → Addr), Γ.K = K ∧ ad 37 = f ∧ (∀ (s : Shared) (u : Value), BindsTo s (fd 37) ⟨[u], []⟩ [(("script" : Str), u)]) ∧ Fx P Γ mg ad fd dv cv cu fI := by
  obtain ⟨fd, hfd⟩ := c.defs (by decide)
  obtain ⟨t0, g0⟩ := int_ok X G (c.fact 0 (f := fa (.int "MOST" 1000000000000000000000000000000)))
  obtain ⟨t1, g1⟩ := int_ok X G (c.fact 1 (f := fa (.int "FIRST" 1)))
  obtain ⟨t2, g2⟩ := int_ok X G (c.fact 2 (f := fa (.int "SECOND" 2)))
  obtain ⟨t3, g3⟩ := int_ok X G (c.fact 3 (f := fa (.int "WON" 3)))
  obtain ⟨t4, g4⟩ := int_ok X G (c.fact 4 (f := fa (.int "LOST" 4)))
  obtain ⟨t5, g5⟩ := int_ok X G (c.fact 5 (f := fa (.int "DRAWN" 5)))
  obtain ⟨t6, g6⟩ := int_ok X G (c.fact 6 (f := fa (.int "MOST_POSITIONS" 1000)))
  obtain ⟨t7, g7⟩ := int_ok X G (c.fact 7 (f := fa (.int "MOST_MOVES" 16)))
  obtain ⟨t8, g8⟩ := int_ok X G (c.fact 8 (f := fa (.int "MOST_NEED" 9)))
  obtain ⟨t9, g9⟩ := str_ok X G (c.fact 9 (f := fa (.str "WORD_SIGNS" "abcdefghijklmnopqrstuvwxyz0123456789")))
  have g10 := (glo_ok X G (c.fact 10 (f := fa (.glo "TURNED_MARKS"))))
  have g11 := (glo_ok X G (c.fact 11 (f := fa (.glo "ENDED_OUTCOMES"))))
  refine ⟨⟨K, fun i => match i with | 0 => ga K "Fault" | 1 => ga K "BadAmount" | 2 => ga K "BadSide" | 3 => ga K "BadGame" | 4 => ga K "NoPosition" | 5 => ga K "NoMove" | 6 => ga K "NoTime" | 7 => ga K "Game" | _ => 0⟩, fun i => match i with | 0 => fAd K d_checked_amount.at_ | 1 => fAd K d_other_side.at_ | 2 => fAd K d_is_word.at_ | 3 => fAd K d_moves_fit.at_ | 4 => fAd K d_position_fits.at_ | 5 => fAd K d_guards.at_ | 6 => fAd K d_Game_init.at_ | 7 => fAd K d_Game_checked.at_ | 8 => fAd K d_Game_mover.at_ | 9 => fAd K d_Game_is_safe.at_ | 10 => fAd K d_Game_index_of.at_ | 11 => fAd K d_Game_turned.at_ | 12 => fAd K d_Game_with_move.at_ | 13 => fAd K d_Game_with_safe.at_ | 14 => fAd K d_Game_eq.at_ | 15 => fAd K d_ended_outcome.at_ | 16 => fAd K d_flag_outcome.at_ | 17 => fAd K d_allowed_moves.at_ | 18 => fAd K d_play.at_ | 19 => fAd K d_reaching.at_ | 20 => fAd K d_hopeless.at_ | 21 => fAd K d_p_law_cell.at_ | 22 => fAd K d_p_law_numbers.at_ | 23 => fAd K d_p_law_is.at_ | 24 => fAd K d_p_law_word.at_ | 25 => fAd K d_p_law_build.at_ | 26 => fAd K d_p_law_bad.at_ | 27 => fAd K d_p_law_base.at_ | 28 => fAd K d_p_law_broken.at_ | 29 => fAd K d_p_law_refusals.at_ | 30 => fAd K d_p_law_reach.at_ | 31 => fAd K d_p_law_hopeless.at_ | 32 => fAd K d_p_law_error.at_ | 33 => fAd K d_p_law_standing.at_ | 34 => fAd K d_p_law_errors.at_ | 35 => fAd K d_p_law_place.at_ | 36 => fAd K d_p_law_changed.at_ | 37 => fAd K d_law.at_ | _ => 0, fd, fun i => match i with | 0 => d_checked_amount.dvs K | 1 => d_other_side.dvs K | 2 => d_is_word.dvs K | 3 => d_moves_fit.dvs K | 4 => d_position_fits.dvs K | 5 => d_guards.dvs K | 6 => d_Game_init.dvs K | 7 => d_Game_checked.dvs K | 8 => d_Game_mover.dvs K | 9 => d_Game_is_safe.dvs K | 10 => d_Game_index_of.dvs K | 11 => d_Game_turned.dvs K | 12 => d_Game_with_move.dvs K | 13 => d_Game_with_safe.dvs K | 14 => d_Game_eq.dvs K | 15 => d_ended_outcome.dvs K | 16 => d_flag_outcome.dvs K | 17 => d_allowed_moves.dvs K | 18 => d_play.dvs K | 19 => d_reaching.dvs K | 20 => d_hopeless.dvs K | 21 => d_p_law_cell.dvs K | 22 => d_p_law_numbers.dvs K | 23 => d_p_law_is.dvs K | 24 => d_p_law_word.dvs K | 25 => d_p_law_build.dvs K | 26 => d_p_law_bad.dvs K | 27 => d_p_law_base.dvs K | 28 => d_p_law_broken.dvs K | 29 => d_p_law_refusals.dvs K | 30 => d_p_law_reach.dvs K | 31 => d_p_law_hopeless.dvs K | 32 => d_p_law_error.dvs K | 33 => d_p_law_standing.dvs K | 34 => d_p_law_errors.dvs K | 35 => d_p_law_place.dvs K | 36 => d_p_law_changed.dvs K | 37 => d_law.dvs K | _ => [], fun i => match i with | 0 => .int 1000000000000000000000000000000 | 1 => .int 1 | 2 => .int 2 | 3 => .int 3 | 4 => .int 4 | 5 => .int 5 | 6 => .int 1000 | 7 => .int 16 | 8 => .int 9 | 9 => .str "abcdefghijklmnopqrstuvwxyz0123456789" | 10 => .ref (ga K "TURNED_MARKS") | 11 => .ref (ga K "ENDED_OUTCOMES") | _ => .non, fun i => match i with | 0 => .int 1000000000000000000000000000000 t0 | 1 => .int 1 t1 | 2 => .int 2 t2 | 3 => .int 3 t3 | 4 => .int 4 t4 | 5 => .int 5 t5 | 6 => .int 1000 t6 | 7 => .int 16 t7 | 8 => .int 9 t8 | 9 => .str "abcdefghijklmnopqrstuvwxyz0123456789" t9 | 10 => .ref (ga K "TURNED_MARKS") | 11 => .ref (ga K "ENDED_OUTCOMES") | _ => .none, fun i => match i with | 1 => ma K (ga K "BadAmount") "__init__" | 2 => ma K (ga K "BadSide") "__init__" | 3 => ma K (ga K "BadGame") "__init__" | 4 => ma K (ga K "NoPosition") "__init__" | 5 => ma K (ga K "NoMove") "__init__" | 6 => ma K (ga K "NoTime") "__init__" | _ => 0, rfl, ?_, fun s u => FunD.bindsA (ps := ["script"]) (hfd 37 d_law rfl) (fun _ _ _ _ _ _ us hl => match us, hl with | [_], _ => rfl) s [u] rfl, ?_⟩
  · have e := hfa.symm.trans (glo_ok X G (c.fact 65 (f := fa (.glo "law"))))
    cases e
    rfl
  constructor
  case gl_len =>
    exact free_ok X G (c.fact 12 (f := fa (.free "len")))
  case gl_abs =>
    exact free_ok X G (c.fact 13 (f := fa (.free "abs")))
  case gl_int =>
    exact free_ok X G (c.fact 14 (f := fa (.free "int")))
  case gl_max =>
    exact free_ok X G (c.fact 15 (f := fa (.free "max")))
  case gl_min =>
    exact free_ok X G (c.fact 16 (f := fa (.free "min")))
  case gl_sum =>
    exact free_ok X G (c.fact 17 (f := fa (.free "sum")))
  case gl_all =>
    exact free_ok X G (c.fact 18 (f := fa (.free "all")))
  case gl_any =>
    exact free_ok X G (c.fact 19 (f := fa (.free "any")))
  case gl_tuple =>
    exact free_ok X G (c.fact 20 (f := fa (.free "tuple")))
  case gl_list =>
    exact free_ok X G (c.fact 21 (f := fa (.free "list")))
  case gl_range =>
    exact free_ok X G (c.fact 22 (f := fa (.free "range")))
  case gl_isinstance =>
    exact free_ok X G (c.fact 23 (f := fa (.free "isinstance")))
  case gl_str =>
    exact free_ok X G (c.fact 24 (f := fa (.free "str")))
  case gl_bool =>
    exact free_ok X G (c.fact 25 (f := fa (.free "bool")))
  case gl_sorted =>
    exact free_ok X G (c.fact 26 (f := fa (.free "sorted")))
  case gl_ValueError =>
    exact free_ok X G (c.fact 27 (f := fa (.free "ValueError")))
  case F_checked_amount =>
    exact hfd 0 d_checked_amount rfl
  case B0_checked_amount =>
    exact ⟨.nil, FunD.bindsN (hfd 0 d_checked_amount rfl) fun _ _ _ _ _ _ us hl => match us, hl with | [_], _ => rfl⟩
  case G_checked_amount =>
    exact (glo_ok X G (c.fact 28 (f := fa (.glo "checked_amount"))))
  case F_other_side =>
    exact hfd 1 d_other_side rfl
  case B0_other_side =>
    exact ⟨.nil, FunD.bindsN (hfd 1 d_other_side rfl) fun _ _ _ _ _ _ us hl => match us, hl with | [_], _ => rfl⟩
  case G_other_side =>
    exact (glo_ok X G (c.fact 29 (f := fa (.glo "other_side"))))
  case F_is_word =>
    exact hfd 2 d_is_word rfl
  case B0_is_word =>
    exact ⟨.nil, FunD.bindsN (hfd 2 d_is_word rfl) fun _ _ _ _ _ _ us hl => match us, hl with | [_], _ => rfl⟩
  case G_is_word =>
    exact (glo_ok X G (c.fact 30 (f := fa (.glo "is_word"))))
  case F_moves_fit =>
    exact hfd 3 d_moves_fit rfl
  case B0_moves_fit =>
    exact ⟨.nil, FunD.bindsN (hfd 3 d_moves_fit rfl) fun _ _ _ _ _ _ us hl => match us, hl with | [_, _], _ => rfl⟩
  case G_moves_fit =>
    exact (glo_ok X G (c.fact 31 (f := fa (.glo "moves_fit"))))
  case F_position_fits =>
    exact hfd 4 d_position_fits rfl
  case B0_position_fits =>
    exact ⟨.nil, FunD.bindsN (hfd 4 d_position_fits rfl) fun _ _ _ _ _ _ us hl => match us, hl with | [_, _, _, _], _ => rfl⟩
  case G_position_fits =>
    exact (glo_ok X G (c.fact 32 (f := fa (.glo "position_fits"))))
  case F_guards =>
    exact hfd 5 d_guards rfl
  case B0_guards =>
    exact ⟨.nil, FunD.bindsN (hfd 5 d_guards rfl) fun _ _ _ _ _ _ us hl => match us, hl with | [_, _], _ => rfl⟩
  case G_guards =>
    exact (glo_ok X G (c.fact 33 (f := fa (.glo "guards"))))
  case F_Game_init =>
    exact hfd 6 d_Game_init rfl
  case B0_Game_init =>
    exact binds_all (hfd 6 d_Game_init rfl) (by intro z; cases z) fun _ _ _ _ _ _ _ us its hu hi => match us, its, hu, hi with | [_, _, _, _], [_], _, _ => ⟨_, rfl, rfl⟩
  case D1_Game_init =>
    exact by
      obtain ⟨ds, h1, h2⟩ := FunD.binds1 (ps := ["self", "marks", "moves", "safe"]) (hfd 6 d_Game_init rfl) 3 0 (by intro z; cases z) rfl fun _ _ _ _ _ _ _ us its hu hi => match us, its, hu, hi with | [_, _, _], [_], _, _ => ⟨_, rfl, rfl⟩
      exact ⟨(_, ds), h1, h2, fun H => by
        simp only [DefD.dvs, List.map_cons, List.map_nil, List.drop_succ_cons, List.drop_zero, Dv.v, d_Game_init, Reps]
        exact ⟨_, _, rfl, (by simp only [Rep]; exact ⟨_, [], rfl, tupAt_ok (c.fact 34 (f := tupAt (dflAt ("Game", some "__init__") 0) [])) H, rfl⟩), rfl⟩⟩
  case F_Game_checked =>
    exact hfd 7 d_Game_checked rfl
  case B0_Game_checked =>
    exact ⟨.nil, FunD.bindsN (hfd 7 d_Game_checked rfl) fun _ _ _ _ _ _ us hl => match us, hl with | [_, _], _ => rfl⟩
  case MT_Game_checked =>
    exact meth_ok (c.fact 35 (f := fa (.meth "Game" "checked")))
  case F_Game_mover =>
    exact hfd 8 d_Game_mover rfl
  case B0_Game_mover =>
    exact ⟨.nil, FunD.bindsN (hfd 8 d_Game_mover rfl) fun _ _ _ _ _ _ us hl => match us, hl with | [_, _], _ => rfl⟩
  case MT_Game_mover =>
    exact meth_ok (c.fact 36 (f := fa (.meth "Game" "mover")))
  case F_Game_is_safe =>
    exact hfd 9 d_Game_is_safe rfl
  case B0_Game_is_safe =>
    exact ⟨.nil, FunD.bindsN (hfd 9 d_Game_is_safe rfl) fun _ _ _ _ _ _ us hl => match us, hl with | [_, _], _ => rfl⟩
  case MT_Game_is_safe =>
    exact meth_ok (c.fact 37 (f := fa (.meth "Game" "is_safe")))
  case F_Game_index_of =>
    exact hfd 10 d_Game_index_of rfl
  case B0_Game_index_of =>
    exact ⟨.nil, FunD.bindsN (hfd 10 d_Game_index_of rfl) fun _ _ _ _ _ _ us hl => match us, hl with | [_, _, _], _ => rfl⟩
  case MT_Game_index_of =>
    exact meth_ok (c.fact 38 (f := fa (.meth "Game" "index_of")))
  case F_Game_turned =>
    exact hfd 11 d_Game_turned rfl
  case B0_Game_turned =>
    exact ⟨.nil, FunD.bindsN (hfd 11 d_Game_turned rfl) fun _ _ _ _ _ _ us hl => match us, hl with | [_], _ => rfl⟩
  case MT_Game_turned =>
    exact meth_ok (c.fact 39 (f := fa (.meth "Game" "turned")))
  case F_Game_with_move =>
    exact hfd 12 d_Game_with_move rfl
  case B0_Game_with_move =>
    exact ⟨.nil, FunD.bindsN (hfd 12 d_Game_with_move rfl) fun _ _ _ _ _ _ us hl => match us, hl with | [_, _, _, _, _], _ => rfl⟩
  case MT_Game_with_move =>
    exact meth_ok (c.fact 40 (f := fa (.meth "Game" "with_move")))
  case F_Game_with_safe =>
    exact hfd 13 d_Game_with_safe rfl
  case B0_Game_with_safe =>
    exact ⟨.nil, FunD.bindsN (hfd 13 d_Game_with_safe rfl) fun _ _ _ _ _ _ us hl => match us, hl with | [_, _], _ => rfl⟩
  case MT_Game_with_safe =>
    exact meth_ok (c.fact 41 (f := fa (.meth "Game" "with_safe")))
  case F_Game_eq =>
    exact hfd 14 d_Game_eq rfl
  case B0_Game_eq =>
    exact ⟨.nil, FunD.bindsN (hfd 14 d_Game_eq rfl) fun _ _ _ _ _ _ us hl => match us, hl with | [_, _], _ => rfl⟩
  case MT_Game_eq =>
    exact meth_ok (c.fact 42 (f := fa (.meth "Game" "__eq__")))
  case F_ended_outcome =>
    exact hfd 15 d_ended_outcome rfl
  case B0_ended_outcome =>
    exact ⟨.nil, FunD.bindsN (hfd 15 d_ended_outcome rfl) fun _ _ _ _ _ _ us hl => match us, hl with | [_, _], _ => rfl⟩
  case G_ended_outcome =>
    exact (glo_ok X G (c.fact 43 (f := fa (.glo "ended_outcome"))))
  case F_flag_outcome =>
    exact hfd 16 d_flag_outcome rfl
  case B0_flag_outcome =>
    exact ⟨.nil, FunD.bindsN (hfd 16 d_flag_outcome rfl) fun _ _ _ _ _ _ us hl => match us, hl with | [_, _], _ => rfl⟩
  case G_flag_outcome =>
    exact (glo_ok X G (c.fact 44 (f := fa (.glo "flag_outcome"))))
  case F_allowed_moves =>
    exact hfd 17 d_allowed_moves rfl
  case B0_allowed_moves =>
    exact ⟨.nil, FunD.bindsN (hfd 17 d_allowed_moves rfl) fun _ _ _ _ _ _ us hl => match us, hl with | [_, _, _], _ => rfl⟩
  case G_allowed_moves =>
    exact (glo_ok X G (c.fact 45 (f := fa (.glo "allowed_moves"))))
  case F_play =>
    exact hfd 18 d_play rfl
  case B0_play =>
    exact ⟨.nil, FunD.bindsN (hfd 18 d_play rfl) fun _ _ _ _ _ _ us hl => match us, hl with | [_, _, _, _, _], _ => rfl⟩
  case G_play =>
    exact (glo_ok X G (c.fact 46 (f := fa (.glo "play"))))
  case F_reaching =>
    exact hfd 19 d_reaching rfl
  case B0_reaching =>
    exact ⟨.nil, FunD.bindsN (hfd 19 d_reaching rfl) fun _ _ _ _ _ _ us hl => match us, hl with | [_, _], _ => rfl⟩
  case G_reaching =>
    exact (glo_ok X G (c.fact 47 (f := fa (.glo "reaching"))))
  case F_hopeless =>
    exact hfd 20 d_hopeless rfl
  case B0_hopeless =>
    exact ⟨.nil, FunD.bindsN (hfd 20 d_hopeless rfl) fun _ _ _ _ _ _ us hl => match us, hl with | [_], _ => rfl⟩
  case G_hopeless =>
    exact (glo_ok X G (c.fact 48 (f := fa (.glo "hopeless"))))
  case F_p_law_cell =>
    exact hfd 21 d_p_law_cell rfl
  case B0_p_law_cell =>
    exact ⟨.nil, FunD.bindsN (hfd 21 d_p_law_cell rfl) fun _ _ _ _ _ _ us hl => match us, hl with | [_, _], _ => rfl⟩
  case G_p_law_cell =>
    exact (glo_ok X G (c.fact 49 (f := fa (.glo "_law_cell"))))
  case F_p_law_numbers =>
    exact hfd 22 d_p_law_numbers rfl
  case B0_p_law_numbers =>
    exact ⟨.nil, FunD.bindsN (hfd 22 d_p_law_numbers rfl) fun _ _ _ _ _ _ us hl => match us, hl with | [_, _, _, _], _ => rfl⟩
  case G_p_law_numbers =>
    exact (glo_ok X G (c.fact 50 (f := fa (.glo "_law_numbers"))))
  case F_p_law_is =>
    exact hfd 23 d_p_law_is rfl
  case B0_p_law_is =>
    exact ⟨.nil, FunD.bindsN (hfd 23 d_p_law_is rfl) fun _ _ _ _ _ _ us hl => match us, hl with | [_, _], _ => rfl⟩
  case G_p_law_is =>
    exact (glo_ok X G (c.fact 51 (f := fa (.glo "_law_is"))))
  case F_p_law_word =>
    exact hfd 24 d_p_law_word rfl
  case B0_p_law_word =>
    exact ⟨.nil, FunD.bindsN (hfd 24 d_p_law_word rfl) fun _ _ _ _ _ _ us hl => match us, hl with | [_, _, _], _ => rfl⟩
  case G_p_law_word =>
    exact (glo_ok X G (c.fact 52 (f := fa (.glo "_law_word"))))
  case F_p_law_build =>
    exact hfd 25 d_p_law_build rfl
  case B0_p_law_build =>
    exact ⟨.nil, FunD.bindsN (hfd 25 d_p_law_build rfl) fun _ _ _ _ _ _ us hl => match us, hl with | [_], _ => rfl⟩
  case G_p_law_build =>
    exact (glo_ok X G (c.fact 53 (f := fa (.glo "_law_build"))))
  case F_p_law_bad =>
    exact hfd 26 d_p_law_bad rfl
  case B0_p_law_bad =>
    exact ⟨.nil, FunD.bindsN (hfd 26 d_p_law_bad rfl) fun _ _ _ _ _ _ us hl => match us, hl with | [_, _, _, _], _ => rfl⟩
  case G_p_law_bad =>
    exact (glo_ok X G (c.fact 54 (f := fa (.glo "_law_bad"))))
  case F_p_law_base =>
    exact hfd 27 d_p_law_base rfl
  case B0_p_law_base =>
    exact ⟨.nil, FunD.bindsN (hfd 27 d_p_law_base rfl) fun _ _ _ _ _ _ us hl => match us, hl with | [_, _], _ => rfl⟩
  case G_p_law_base =>
    exact (glo_ok X G (c.fact 55 (f := fa (.glo "_law_base"))))
  case F_p_law_broken =>
    exact hfd 28 d_p_law_broken rfl
  case B0_p_law_broken =>
    exact ⟨.nil, FunD.bindsN (hfd 28 d_p_law_broken rfl) fun _ _ _ _ _ _ us hl => match us, hl with | [_, _, _], _ => rfl⟩
  case G_p_law_broken =>
    exact (glo_ok X G (c.fact 56 (f := fa (.glo "_law_broken"))))
  case F_p_law_refusals =>
    exact hfd 29 d_p_law_refusals rfl
  case B0_p_law_refusals =>
    exact ⟨.nil, FunD.bindsN (hfd 29 d_p_law_refusals rfl) fun _ _ _ _ _ _ us hl => match us, hl with | [_, _, _, _, _], _ => rfl⟩
  case G_p_law_refusals =>
    exact (glo_ok X G (c.fact 57 (f := fa (.glo "_law_refusals"))))
  case F_p_law_reach =>
    exact hfd 30 d_p_law_reach rfl
  case B0_p_law_reach =>
    exact ⟨.nil, FunD.bindsN (hfd 30 d_p_law_reach rfl) fun _ _ _ _ _ _ us hl => match us, hl with | [_, _, _, _], _ => rfl⟩
  case G_p_law_reach =>
    exact (glo_ok X G (c.fact 58 (f := fa (.glo "_law_reach"))))
  case F_p_law_hopeless =>
    exact hfd 31 d_p_law_hopeless rfl
  case B0_p_law_hopeless =>
    exact ⟨.nil, FunD.bindsN (hfd 31 d_p_law_hopeless rfl) fun _ _ _ _ _ _ us hl => match us, hl with | [_, _], _ => rfl⟩
  case G_p_law_hopeless =>
    exact (glo_ok X G (c.fact 59 (f := fa (.glo "_law_hopeless"))))
  case F_p_law_error =>
    exact hfd 32 d_p_law_error rfl
  case B0_p_law_error =>
    exact ⟨.nil, FunD.bindsN (hfd 32 d_p_law_error rfl) fun _ _ _ _ _ _ us hl => match us, hl with | [_, _, _, _, _], _ => rfl⟩
  case G_p_law_error =>
    exact (glo_ok X G (c.fact 60 (f := fa (.glo "_law_error"))))
  case F_p_law_standing =>
    exact hfd 33 d_p_law_standing rfl
  case B0_p_law_standing =>
    exact ⟨.nil, FunD.bindsN (hfd 33 d_p_law_standing rfl) fun _ _ _ _ _ _ us hl => match us, hl with | [_, _, _, _, _, _, _], _ => rfl⟩
  case G_p_law_standing =>
    exact (glo_ok X G (c.fact 61 (f := fa (.glo "_law_standing"))))
  case F_p_law_errors =>
    exact hfd 34 d_p_law_errors rfl
  case B0_p_law_errors =>
    exact ⟨.nil, FunD.bindsN (hfd 34 d_p_law_errors rfl) fun _ _ _ _ _ _ us hl => match us, hl with | [_, _, _, _, _], _ => rfl⟩
  case G_p_law_errors =>
    exact (glo_ok X G (c.fact 62 (f := fa (.glo "_law_errors"))))
  case F_p_law_place =>
    exact hfd 35 d_p_law_place rfl
  case B0_p_law_place =>
    exact ⟨.nil, FunD.bindsN (hfd 35 d_p_law_place rfl) fun _ _ _ _ _ _ us hl => match us, hl with | [_, _, _, _, _, _], _ => rfl⟩
  case G_p_law_place =>
    exact (glo_ok X G (c.fact 63 (f := fa (.glo "_law_place"))))
  case F_p_law_changed =>
    exact hfd 36 d_p_law_changed rfl
  case B0_p_law_changed =>
    exact ⟨.nil, FunD.bindsN (hfd 36 d_p_law_changed rfl) fun _ _ _ _ _ _ us hl => match us, hl with | [_, _, _, _, _, _], _ => rfl⟩
  case G_p_law_changed =>
    exact (glo_ok X G (c.fact 64 (f := fa (.glo "_law_changed"))))
  case F_law =>
    exact hfd 37 d_law rfl
  case B0_law =>
    exact ⟨.nil, FunD.bindsN (hfd 37 d_law rfl) fun _ _ _ _ _ _ us hl => match us, hl with | [_], _ => rfl⟩
  case G_law =>
    exact (glo_ok X G (c.fact 65 (f := fa (.glo "law"))))
  case G_Fault =>
    exact (glo_ok X G (c.fact 66 (f := fa (.glo "Fault"))))
  case G_BadAmount =>
    exact (glo_ok X G (c.fact 67 (f := fa (.glo "BadAmount"))))
  case SU_BadAmount =>
    exact sup_ok (d := x_BadAmount) (c.sup 0 (d := x_BadAmount)) (c.fact 68 (f := supB mfl x_BadAmount)) rfl rfl rfl hmf htop ⟨by decide, by decide, by decide, by decide⟩ (fun _ _ _ _ _ _ _ _ _ _ _ _ => rfl) (fun _ => ⟨_, rfl⟩)
  case KP_BadAmount =>
    exact keep_ok (c.fact 69 (f := fa (.keep "BadAmount")))
  case RS_BadAmount =>
    exact fun Y e => by
      subst e
      exact rais_ok (c.fact 70 (f := raisB "BadAmount"))
  case G_BadSide =>
    exact (glo_ok X G (c.fact 71 (f := fa (.glo "BadSide"))))
  case SU_BadSide =>
    exact sup_ok (d := x_BadSide) (c.sup 1 (d := x_BadSide)) (c.fact 72 (f := supB mfl x_BadSide)) rfl rfl rfl hmf htop ⟨by decide, by decide, by decide, by decide⟩ (fun _ _ _ _ _ _ _ _ _ _ _ _ => rfl) (fun _ => ⟨_, rfl⟩)
  case KP_BadSide =>
    exact keep_ok (c.fact 73 (f := fa (.keep "BadSide")))
  case RS_BadSide =>
    exact fun Y e => by
      subst e
      exact rais_ok (c.fact 74 (f := raisB "BadSide"))
  case G_BadGame =>
    exact (glo_ok X G (c.fact 75 (f := fa (.glo "BadGame"))))
  case SU_BadGame =>
    exact sup_ok (d := x_BadGame) (c.sup 2 (d := x_BadGame)) (c.fact 76 (f := supB mfl x_BadGame)) rfl rfl rfl hmf htop ⟨by decide, by decide, by decide, by decide⟩ (fun _ _ _ _ _ _ _ _ _ _ _ _ => rfl) (fun _ => ⟨_, rfl⟩)
  case KP_BadGame =>
    exact keep_ok (c.fact 77 (f := fa (.keep "BadGame")))
  case RS_BadGame =>
    exact fun Y e => by
      subst e
      exact rais_ok (c.fact 78 (f := raisB "BadGame"))
  case G_NoPosition =>
    exact (glo_ok X G (c.fact 79 (f := fa (.glo "NoPosition"))))
  case SU_NoPosition =>
    exact sup_ok (d := x_NoPosition) (c.sup 3 (d := x_NoPosition)) (c.fact 80 (f := supB mfl x_NoPosition)) rfl rfl rfl hmf htop ⟨by decide, by decide, by decide, by decide⟩ (fun _ _ _ _ _ _ _ _ _ _ _ _ => rfl) (fun _ => ⟨_, rfl⟩)
  case KP_NoPosition =>
    exact keep_ok (c.fact 81 (f := fa (.keep "NoPosition")))
  case RS_NoPosition =>
    exact fun Y e => by
      subst e
      exact rais_ok (c.fact 82 (f := raisB "NoPosition"))
  case G_NoMove =>
    exact (glo_ok X G (c.fact 83 (f := fa (.glo "NoMove"))))
  case SU_NoMove =>
    exact sup_ok (d := x_NoMove) (c.sup 4 (d := x_NoMove)) (c.fact 84 (f := supB mfl x_NoMove)) rfl rfl rfl hmf htop ⟨by decide, by decide, by decide, by decide⟩ (fun _ _ _ _ _ _ _ _ _ _ _ _ => rfl) (fun _ => ⟨_, rfl⟩)
  case KP_NoMove =>
    exact keep_ok (c.fact 85 (f := fa (.keep "NoMove")))
  case RS_NoMove =>
    exact fun Y e => by
      subst e
      exact rais_ok (c.fact 86 (f := raisB "NoMove"))
  case G_NoTime =>
    exact (glo_ok X G (c.fact 87 (f := fa (.glo "NoTime"))))
  case SU_NoTime =>
    exact sup_ok (d := x_NoTime) (c.sup 5 (d := x_NoTime)) (c.fact 88 (f := supB mfl x_NoTime)) rfl rfl rfl hmf htop ⟨by decide, by decide, by decide, by decide⟩ (fun _ _ _ _ _ _ _ _ _ _ _ _ => rfl) (fun _ => ⟨_, rfl⟩)
  case KP_NoTime =>
    exact keep_ok (c.fact 89 (f := fa (.keep "NoTime")))
  case RS_NoTime =>
    exact fun Y e => by
      subst e
      exact rais_ok (c.fact 90 (f := raisB "NoTime"))
  case G_Game =>
    exact (glo_ok X G (c.fact 91 (f := fa (.glo "Game"))))
  case C_Game =>
    exact cls_ok (c.fact 92 (f := fa (.cls "Game")))
  case M_Game =>
    exact mkr_ok (c.fact 93 (f := fa (.mkr "Game")))
  case EO_Game =>
    exact eqc_ok (c.fact 94 (f := eqcB "Game"))
  case FL__guarded =>
    exact by
      intro c h
      simp only [ok__guarded, Bool.or_eq_true, beq_iff_eq] at h
      have e := h
      · subst e; exact ⟨cls_ok (c.fact 92 (f := fa (.cls "Game"))), noat_ok (c.fact 95 (f := fa (.noat "Game" "_guarded")))⟩
  case FL_marks =>
    exact by
      intro c h
      simp only [ok_marks, Bool.or_eq_true, beq_iff_eq] at h
      have e := h
      · subst e; exact ⟨cls_ok (c.fact 92 (f := fa (.cls "Game"))), noat_ok (c.fact 96 (f := fa (.noat "Game" "marks")))⟩
  case FL_moves =>
    exact by
      intro c h
      simp only [ok_moves, Bool.or_eq_true, beq_iff_eq] at h
      have e := h
      · subst e; exact ⟨cls_ok (c.fact 92 (f := fa (.cls "Game"))), noat_ok (c.fact 97 (f := fa (.noat "Game" "moves")))⟩
  case FL_safe =>
    exact by
      intro c h
      simp only [ok_safe, Bool.or_eq_true, beq_iff_eq] at h
      have e := h
      · subst e; exact ⟨cls_ok (c.fact 92 (f := fa (.cls "Game"))), noat_ok (c.fact 98 (f := fa (.noat "Game" "safe")))⟩
  case FL_size =>
    exact by
      intro c h
      simp only [ok_size, Bool.or_eq_true, beq_iff_eq] at h
      have e := h
      · subst e; exact ⟨cls_ok (c.fact 92 (f := fa (.cls "Game"))), noat_ok (c.fact 99 (f := fa (.noat "Game" "size")))⟩
  case XF_amount =>
    exact by
      intro c h
      simp only [okx_amount, Bool.or_eq_true, beq_iff_eq] at h
      have e := h
      · subst e; exact ⟨xfc_ok (c.fact 100 (f := xfCk "BadAmount")), noat_ok (c.fact 101 (f := fa (.noat "BadAmount" "amount")))⟩
  case XF_move =>
    exact by
      intro c h
      simp only [okx_move, Bool.or_eq_true, beq_iff_eq] at h
      have e := h
      · subst e; exact ⟨xfc_ok (c.fact 102 (f := xfCk "NoMove")), noat_ok (c.fact 103 (f := fa (.noat "NoMove" "move")))⟩
  case XF_need =>
    exact by
      intro c h
      simp only [okx_need, Bool.or_eq_true, beq_iff_eq] at h
      have e := h
      · subst e; exact ⟨xfc_ok (c.fact 104 (f := xfCk "NoTime")), noat_ok (c.fact 105 (f := fa (.noat "NoTime" "need")))⟩
  case XF_position =>
    exact by
      intro c h
      simp only [okx_position, Bool.or_eq_true, beq_iff_eq] at h
      rcases h with e | e
      · subst e; exact ⟨xfc_ok (c.fact 106 (f := xfCk "BadGame")), noat_ok (c.fact 107 (f := fa (.noat "BadGame" "position")))⟩
      · subst e; exact ⟨xfc_ok (c.fact 108 (f := xfCk "NoPosition")), noat_ok (c.fact 109 (f := fa (.noat "NoPosition" "position")))⟩
  case XF_side =>
    exact by
      intro c h
      simp only [okx_side, Bool.or_eq_true, beq_iff_eq] at h
      have e := h
      · subst e; exact ⟨xfc_ok (c.fact 110 (f := xfCk "BadSide")), noat_ok (c.fact 111 (f := fa (.noat "BadSide" "side")))⟩
  case MTX_BadAmount =>
    exact by
      intro c b h
      unfold mt_BadAmount at h
      by_cases e : c = 0
      · subst e; cases h; exact exmB_ok (c.fact 112 (f := exmB "Fault" "BadAmount" false))
      rw [if_neg e] at h; clear e
      by_cases e : c = 1
      · subst e; cases h; exact exmB_ok (c.fact 113 (f := exmB "BadAmount" "BadAmount" true))
      rw [if_neg e] at h; clear e
      by_cases e : c = 2
      · subst e; cases h; exact exmB_ok (c.fact 114 (f := exmB "BadSide" "BadAmount" false))
      rw [if_neg e] at h; clear e
      by_cases e : c = 3
      · subst e; cases h; exact exmB_ok (c.fact 115 (f := exmB "BadGame" "BadAmount" false))
      rw [if_neg e] at h; clear e
      by_cases e : c = 4
      · subst e; cases h; exact exmB_ok (c.fact 116 (f := exmB "NoPosition" "BadAmount" false))
      rw [if_neg e] at h; clear e
      by_cases e : c = 5
      · subst e; cases h; exact exmB_ok (c.fact 117 (f := exmB "NoMove" "BadAmount" false))
      rw [if_neg e] at h; clear e
      by_cases e : c = 6
      · subst e; cases h; exact exmB_ok (c.fact 118 (f := exmB "NoTime" "BadAmount" false))
      rw [if_neg e] at h; clear e
      cases h
  case MTX_BadGame =>
    exact by
      intro c b h
      unfold mt_BadGame at h
      by_cases e : c = 0
      · subst e; cases h; exact exmB_ok (c.fact 119 (f := exmB "Fault" "BadGame" false))
      rw [if_neg e] at h; clear e
      by_cases e : c = 1
      · subst e; cases h; exact exmB_ok (c.fact 120 (f := exmB "BadAmount" "BadGame" false))
      rw [if_neg e] at h; clear e
      by_cases e : c = 2
      · subst e; cases h; exact exmB_ok (c.fact 121 (f := exmB "BadSide" "BadGame" false))
      rw [if_neg e] at h; clear e
      by_cases e : c = 3
      · subst e; cases h; exact exmB_ok (c.fact 122 (f := exmB "BadGame" "BadGame" true))
      rw [if_neg e] at h; clear e
      by_cases e : c = 4
      · subst e; cases h; exact exmB_ok (c.fact 123 (f := exmB "NoPosition" "BadGame" false))
      rw [if_neg e] at h; clear e
      by_cases e : c = 5
      · subst e; cases h; exact exmB_ok (c.fact 124 (f := exmB "NoMove" "BadGame" false))
      rw [if_neg e] at h; clear e
      by_cases e : c = 6
      · subst e; cases h; exact exmB_ok (c.fact 125 (f := exmB "NoTime" "BadGame" false))
      rw [if_neg e] at h; clear e
      cases h
  case MTX_Fault =>
    exact by
      intro c b h
      unfold mt_Fault at h
      by_cases e : c = 0
      · subst e; cases h; exact exmB_ok (c.fact 126 (f := exmB "Fault" "Fault" true))
      rw [if_neg e] at h; clear e
      by_cases e : c = 1
      · subst e; cases h; exact exmB_ok (c.fact 127 (f := exmB "BadAmount" "Fault" true))
      rw [if_neg e] at h; clear e
      by_cases e : c = 2
      · subst e; cases h; exact exmB_ok (c.fact 128 (f := exmB "BadSide" "Fault" true))
      rw [if_neg e] at h; clear e
      by_cases e : c = 3
      · subst e; cases h; exact exmB_ok (c.fact 129 (f := exmB "BadGame" "Fault" true))
      rw [if_neg e] at h; clear e
      by_cases e : c = 4
      · subst e; cases h; exact exmB_ok (c.fact 130 (f := exmB "NoPosition" "Fault" true))
      rw [if_neg e] at h; clear e
      by_cases e : c = 5
      · subst e; cases h; exact exmB_ok (c.fact 131 (f := exmB "NoMove" "Fault" true))
      rw [if_neg e] at h; clear e
      by_cases e : c = 6
      · subst e; cases h; exact exmB_ok (c.fact 132 (f := exmB "NoTime" "Fault" true))
      rw [if_neg e] at h; clear e
      cases h
  case MTX_NoMove =>
    exact by
      intro c b h
      unfold mt_NoMove at h
      by_cases e : c = 0
      · subst e; cases h; exact exmB_ok (c.fact 133 (f := exmB "Fault" "NoMove" false))
      rw [if_neg e] at h; clear e
      by_cases e : c = 1
      · subst e; cases h; exact exmB_ok (c.fact 134 (f := exmB "BadAmount" "NoMove" false))
      rw [if_neg e] at h; clear e
      by_cases e : c = 2
      · subst e; cases h; exact exmB_ok (c.fact 135 (f := exmB "BadSide" "NoMove" false))
      rw [if_neg e] at h; clear e
      by_cases e : c = 3
      · subst e; cases h; exact exmB_ok (c.fact 136 (f := exmB "BadGame" "NoMove" false))
      rw [if_neg e] at h; clear e
      by_cases e : c = 4
      · subst e; cases h; exact exmB_ok (c.fact 137 (f := exmB "NoPosition" "NoMove" false))
      rw [if_neg e] at h; clear e
      by_cases e : c = 5
      · subst e; cases h; exact exmB_ok (c.fact 138 (f := exmB "NoMove" "NoMove" true))
      rw [if_neg e] at h; clear e
      by_cases e : c = 6
      · subst e; cases h; exact exmB_ok (c.fact 139 (f := exmB "NoTime" "NoMove" false))
      rw [if_neg e] at h; clear e
      cases h
  case MTX_NoPosition =>
    exact by
      intro c b h
      unfold mt_NoPosition at h
      by_cases e : c = 0
      · subst e; cases h; exact exmB_ok (c.fact 140 (f := exmB "Fault" "NoPosition" false))
      rw [if_neg e] at h; clear e
      by_cases e : c = 1
      · subst e; cases h; exact exmB_ok (c.fact 141 (f := exmB "BadAmount" "NoPosition" false))
      rw [if_neg e] at h; clear e
      by_cases e : c = 2
      · subst e; cases h; exact exmB_ok (c.fact 142 (f := exmB "BadSide" "NoPosition" false))
      rw [if_neg e] at h; clear e
      by_cases e : c = 3
      · subst e; cases h; exact exmB_ok (c.fact 143 (f := exmB "BadGame" "NoPosition" false))
      rw [if_neg e] at h; clear e
      by_cases e : c = 4
      · subst e; cases h; exact exmB_ok (c.fact 144 (f := exmB "NoPosition" "NoPosition" true))
      rw [if_neg e] at h; clear e
      by_cases e : c = 5
      · subst e; cases h; exact exmB_ok (c.fact 145 (f := exmB "NoMove" "NoPosition" false))
      rw [if_neg e] at h; clear e
      by_cases e : c = 6
      · subst e; cases h; exact exmB_ok (c.fact 146 (f := exmB "NoTime" "NoPosition" false))
      rw [if_neg e] at h; clear e
      cases h
  case MTX_NoTime =>
    exact by
      intro c b h
      unfold mt_NoTime at h
      by_cases e : c = 0
      · subst e; cases h; exact exmB_ok (c.fact 147 (f := exmB "Fault" "NoTime" false))
      rw [if_neg e] at h; clear e
      by_cases e : c = 1
      · subst e; cases h; exact exmB_ok (c.fact 148 (f := exmB "BadAmount" "NoTime" false))
      rw [if_neg e] at h; clear e
      by_cases e : c = 2
      · subst e; cases h; exact exmB_ok (c.fact 149 (f := exmB "BadSide" "NoTime" false))
      rw [if_neg e] at h; clear e
      by_cases e : c = 3
      · subst e; cases h; exact exmB_ok (c.fact 150 (f := exmB "BadGame" "NoTime" false))
      rw [if_neg e] at h; clear e
      by_cases e : c = 4
      · subst e; cases h; exact exmB_ok (c.fact 151 (f := exmB "NoPosition" "NoTime" false))
      rw [if_neg e] at h; clear e
      by_cases e : c = 5
      · subst e; cases h; exact exmB_ok (c.fact 152 (f := exmB "NoMove" "NoTime" false))
      rw [if_neg e] at h; clear e
      by_cases e : c = 6
      · subst e; cases h; exact exmB_ok (c.fact 153 (f := exmB "NoTime" "NoTime" true))
      rw [if_neg e] at h; clear e
      cases h
  case XI_BadGame =>
    exact by
      intro c b h
      unfold ib_BadGame at h
      by_cases e : c = 0
      · subst e; cases h; exact ⟨exi_ok (c.fact 154 (f := exiC "Fault")), kitRR_ok (c.fact 155 (f := kitRR "Fault" "BadGame" false))⟩
      rw [if_neg e] at h; clear e
      by_cases e : c = 1
      · subst e; cases h; exact ⟨exi_ok (c.fact 156 (f := exiC "BadAmount")), kitRR_ok (c.fact 157 (f := kitRR "BadAmount" "BadGame" false))⟩
      rw [if_neg e] at h; clear e
      by_cases e : c = 2
      · subst e; cases h; exact ⟨exi_ok (c.fact 158 (f := exiC "BadSide")), kitRR_ok (c.fact 159 (f := kitRR "BadSide" "BadGame" false))⟩
      rw [if_neg e] at h; clear e
      by_cases e : c = 3
      · subst e; cases h; exact ⟨exi_ok (c.fact 160 (f := exiC "BadGame")), kitRR_ok (c.fact 161 (f := kitRR "BadGame" "BadGame" true))⟩
      rw [if_neg e] at h; clear e
      by_cases e : c = 4
      · subst e; cases h; exact ⟨exi_ok (c.fact 162 (f := exiC "NoPosition")), kitRR_ok (c.fact 163 (f := kitRR "NoPosition" "BadGame" false))⟩
      rw [if_neg e] at h; clear e
      by_cases e : c = 5
      · subst e; cases h; exact ⟨exi_ok (c.fact 164 (f := exiC "NoMove")), kitRR_ok (c.fact 165 (f := kitRR "NoMove" "BadGame" false))⟩
      rw [if_neg e] at h; clear e
      by_cases e : c = 6
      · subst e; cases h; exact ⟨exi_ok (c.fact 166 (f := exiC "NoTime")), kitRR_ok (c.fact 167 (f := kitRR "NoTime" "BadGame" false))⟩
      rw [if_neg e] at h; clear e
      cases h
  case XI_Fault =>
    exact by
      intro c b h
      unfold ib_Fault at h
      by_cases e : c = 0
      · subst e; cases h; exact ⟨exi_ok (c.fact 154 (f := exiC "Fault")), kitRR_ok (c.fact 168 (f := kitRR "Fault" "Fault" true))⟩
      rw [if_neg e] at h; clear e
      by_cases e : c = 1
      · subst e; cases h; exact ⟨exi_ok (c.fact 156 (f := exiC "BadAmount")), kitRR_ok (c.fact 169 (f := kitRR "BadAmount" "Fault" true))⟩
      rw [if_neg e] at h; clear e
      by_cases e : c = 2
      · subst e; cases h; exact ⟨exi_ok (c.fact 158 (f := exiC "BadSide")), kitRR_ok (c.fact 170 (f := kitRR "BadSide" "Fault" true))⟩
      rw [if_neg e] at h; clear e
      by_cases e : c = 3
      · subst e; cases h; exact ⟨exi_ok (c.fact 160 (f := exiC "BadGame")), kitRR_ok (c.fact 171 (f := kitRR "BadGame" "Fault" true))⟩
      rw [if_neg e] at h; clear e
      by_cases e : c = 4
      · subst e; cases h; exact ⟨exi_ok (c.fact 162 (f := exiC "NoPosition")), kitRR_ok (c.fact 172 (f := kitRR "NoPosition" "Fault" true))⟩
      rw [if_neg e] at h; clear e
      by_cases e : c = 5
      · subst e; cases h; exact ⟨exi_ok (c.fact 164 (f := exiC "NoMove")), kitRR_ok (c.fact 173 (f := kitRR "NoMove" "Fault" true))⟩
      rw [if_neg e] at h; clear e
      by_cases e : c = 6
      · subst e; cases h; exact ⟨exi_ok (c.fact 166 (f := exiC "NoTime")), kitRR_ok (c.fact 174 (f := kitRR "NoTime" "Fault" true))⟩
      rw [if_neg e] at h; clear e
      cases h
  case XI_NoMove =>
    exact by
      intro c b h
      unfold ib_NoMove at h
      by_cases e : c = 0
      · subst e; cases h; exact ⟨exi_ok (c.fact 154 (f := exiC "Fault")), kitRR_ok (c.fact 175 (f := kitRR "Fault" "NoMove" false))⟩
      rw [if_neg e] at h; clear e
      by_cases e : c = 1
      · subst e; cases h; exact ⟨exi_ok (c.fact 156 (f := exiC "BadAmount")), kitRR_ok (c.fact 176 (f := kitRR "BadAmount" "NoMove" false))⟩
      rw [if_neg e] at h; clear e
      by_cases e : c = 2
      · subst e; cases h; exact ⟨exi_ok (c.fact 158 (f := exiC "BadSide")), kitRR_ok (c.fact 177 (f := kitRR "BadSide" "NoMove" false))⟩
      rw [if_neg e] at h; clear e
      by_cases e : c = 3
      · subst e; cases h; exact ⟨exi_ok (c.fact 160 (f := exiC "BadGame")), kitRR_ok (c.fact 178 (f := kitRR "BadGame" "NoMove" false))⟩
      rw [if_neg e] at h; clear e
      by_cases e : c = 4
      · subst e; cases h; exact ⟨exi_ok (c.fact 162 (f := exiC "NoPosition")), kitRR_ok (c.fact 179 (f := kitRR "NoPosition" "NoMove" false))⟩
      rw [if_neg e] at h; clear e
      by_cases e : c = 5
      · subst e; cases h; exact ⟨exi_ok (c.fact 164 (f := exiC "NoMove")), kitRR_ok (c.fact 180 (f := kitRR "NoMove" "NoMove" true))⟩
      rw [if_neg e] at h; clear e
      by_cases e : c = 6
      · subst e; cases h; exact ⟨exi_ok (c.fact 166 (f := exiC "NoTime")), kitRR_ok (c.fact 181 (f := kitRR "NoTime" "NoMove" false))⟩
      rw [if_neg e] at h; clear e
      cases h
  case XI_NoPosition =>
    exact by
      intro c b h
      unfold ib_NoPosition at h
      by_cases e : c = 0
      · subst e; cases h; exact ⟨exi_ok (c.fact 154 (f := exiC "Fault")), kitRR_ok (c.fact 182 (f := kitRR "Fault" "NoPosition" false))⟩
      rw [if_neg e] at h; clear e
      by_cases e : c = 1
      · subst e; cases h; exact ⟨exi_ok (c.fact 156 (f := exiC "BadAmount")), kitRR_ok (c.fact 183 (f := kitRR "BadAmount" "NoPosition" false))⟩
      rw [if_neg e] at h; clear e
      by_cases e : c = 2
      · subst e; cases h; exact ⟨exi_ok (c.fact 158 (f := exiC "BadSide")), kitRR_ok (c.fact 184 (f := kitRR "BadSide" "NoPosition" false))⟩
      rw [if_neg e] at h; clear e
      by_cases e : c = 3
      · subst e; cases h; exact ⟨exi_ok (c.fact 160 (f := exiC "BadGame")), kitRR_ok (c.fact 185 (f := kitRR "BadGame" "NoPosition" false))⟩
      rw [if_neg e] at h; clear e
      by_cases e : c = 4
      · subst e; cases h; exact ⟨exi_ok (c.fact 162 (f := exiC "NoPosition")), kitRR_ok (c.fact 186 (f := kitRR "NoPosition" "NoPosition" true))⟩
      rw [if_neg e] at h; clear e
      by_cases e : c = 5
      · subst e; cases h; exact ⟨exi_ok (c.fact 164 (f := exiC "NoMove")), kitRR_ok (c.fact 187 (f := kitRR "NoMove" "NoPosition" false))⟩
      rw [if_neg e] at h; clear e
      by_cases e : c = 6
      · subst e; cases h; exact ⟨exi_ok (c.fact 166 (f := exiC "NoTime")), kitRR_ok (c.fact 188 (f := kitRR "NoTime" "NoPosition" false))⟩
      rw [if_neg e] at h; clear e
      cases h
  case XI_NoTime =>
    exact by
      intro c b h
      unfold ib_NoTime at h
      by_cases e : c = 0
      · subst e; cases h; exact ⟨exi_ok (c.fact 154 (f := exiC "Fault")), kitRR_ok (c.fact 189 (f := kitRR "Fault" "NoTime" false))⟩
      rw [if_neg e] at h; clear e
      by_cases e : c = 1
      · subst e; cases h; exact ⟨exi_ok (c.fact 156 (f := exiC "BadAmount")), kitRR_ok (c.fact 190 (f := kitRR "BadAmount" "NoTime" false))⟩
      rw [if_neg e] at h; clear e
      by_cases e : c = 2
      · subst e; cases h; exact ⟨exi_ok (c.fact 158 (f := exiC "BadSide")), kitRR_ok (c.fact 191 (f := kitRR "BadSide" "NoTime" false))⟩
      rw [if_neg e] at h; clear e
      by_cases e : c = 3
      · subst e; cases h; exact ⟨exi_ok (c.fact 160 (f := exiC "BadGame")), kitRR_ok (c.fact 192 (f := kitRR "BadGame" "NoTime" false))⟩
      rw [if_neg e] at h; clear e
      by_cases e : c = 4
      · subst e; cases h; exact ⟨exi_ok (c.fact 162 (f := exiC "NoPosition")), kitRR_ok (c.fact 193 (f := kitRR "NoPosition" "NoTime" false))⟩
      rw [if_neg e] at h; clear e
      by_cases e : c = 5
      · subst e; cases h; exact ⟨exi_ok (c.fact 164 (f := exiC "NoMove")), kitRR_ok (c.fact 194 (f := kitRR "NoMove" "NoTime" false))⟩
      rw [if_neg e] at h; clear e
      by_cases e : c = 6
      · subst e; cases h; exact ⟨exi_ok (c.fact 166 (f := exiC "NoTime")), kitRR_ok (c.fact 195 (f := kitRR "NoTime" "NoTime" true))⟩
      rw [if_neg e] at h; clear e
      cases h
  case XI_ValueError =>
    exact by
      intro c b h
      unfold ib_ValueError at h
      by_cases e : c = 0
      · subst e; cases h; exact ⟨exi_ok (c.fact 154 (f := exiC "Fault")), kitRT_ok (c.fact 196 (f := kitRT "Fault" "ValueError" true))⟩
      rw [if_neg e] at h; clear e
      by_cases e : c = 1
      · subst e; cases h; exact ⟨exi_ok (c.fact 156 (f := exiC "BadAmount")), kitRT_ok (c.fact 197 (f := kitRT "BadAmount" "ValueError" true))⟩
      rw [if_neg e] at h; clear e
      by_cases e : c = 2
      · subst e; cases h; exact ⟨exi_ok (c.fact 158 (f := exiC "BadSide")), kitRT_ok (c.fact 198 (f := kitRT "BadSide" "ValueError" true))⟩
      rw [if_neg e] at h; clear e
      by_cases e : c = 3
      · subst e; cases h; exact ⟨exi_ok (c.fact 160 (f := exiC "BadGame")), kitRT_ok (c.fact 199 (f := kitRT "BadGame" "ValueError" true))⟩
      rw [if_neg e] at h; clear e
      by_cases e : c = 4
      · subst e; cases h; exact ⟨exi_ok (c.fact 162 (f := exiC "NoPosition")), kitRT_ok (c.fact 200 (f := kitRT "NoPosition" "ValueError" true))⟩
      rw [if_neg e] at h; clear e
      by_cases e : c = 5
      · subst e; cases h; exact ⟨exi_ok (c.fact 164 (f := exiC "NoMove")), kitRT_ok (c.fact 201 (f := kitRT "NoMove" "ValueError" true))⟩
      rw [if_neg e] at h; clear e
      by_cases e : c = 6
      · subst e; cases h; exact ⟨exi_ok (c.fact 166 (f := exiC "NoTime")), kitRT_ok (c.fact 202 (f := kitRT "NoTime" "ValueError" true))⟩
      rw [if_neg e] at h; clear e
      cases h
  case IC_Game =>
    exact by
      intro c b h
      unfold ic_Game at h
      by_cases e : c = 7
      · subst e; cases h; exact ⟨isc_ok (c.fact 203 (f := isC "Game")), kitRR_ok (c.fact 204 (f := kitRR "Game" "Game" true))⟩
      rw [if_neg e] at h; clear e
      cases h
  case IT_Game =>
    exact by
      intro s b h
      unfold tb_Game at h
      split at h
      · rename_i e; cases h
        rcases e with rfl | rfl | rfl | rfl | rfl | rfl
        · exact kitTR_ok (c.fact 205 (f := kitTR "tuple" "Game" false))
        · exact kitTR_ok (c.fact 206 (f := kitTR "int" "Game" false))
        · exact kitTR_ok (c.fact 207 (f := kitTR "list" "Game" false))
        · exact kitTR_ok (c.fact 208 (f := kitTR "str" "Game" false))
        · exact kitTR_ok (c.fact 209 (f := kitTR "NoneType" "Game" false))
        · exact kitTR_ok (c.fact 210 (f := kitTR "bool" "Game" false))
      · cases h
  case G_MOST =>
    exact ⟨g0, _, rfl⟩
  case R_MOST =>
    exact fun H => by simp only [Rep]
  case G_FIRST =>
    exact ⟨g1, _, rfl⟩
  case R_FIRST =>
    exact fun H => by simp only [Rep]
  case G_SECOND =>
    exact ⟨g2, _, rfl⟩
  case R_SECOND =>
    exact fun H => by simp only [Rep]
  case G_WON =>
    exact ⟨g3, _, rfl⟩
  case R_WON =>
    exact fun H => by simp only [Rep]
  case G_LOST =>
    exact ⟨g4, _, rfl⟩
  case R_LOST =>
    exact fun H => by simp only [Rep]
  case G_DRAWN =>
    exact ⟨g5, _, rfl⟩
  case R_DRAWN =>
    exact fun H => by simp only [Rep]
  case G_MOST_POSITIONS =>
    exact ⟨g6, _, rfl⟩
  case R_MOST_POSITIONS =>
    exact fun H => by simp only [Rep]
  case G_MOST_MOVES =>
    exact ⟨g7, _, rfl⟩
  case R_MOST_MOVES =>
    exact fun H => by simp only [Rep]
  case G_MOST_NEED =>
    exact ⟨g8, _, rfl⟩
  case R_MOST_NEED =>
    exact fun H => by simp only [Rep]
  case G_WORD_SIGNS =>
    exact ⟨g9, _, rfl⟩
  case R_WORD_SIGNS =>
    exact fun H => by simp only [Rep]
  case G_TURNED_MARKS =>
    exact ⟨g10, rfl⟩
  case R_TURNED_MARKS =>
    exact fun H => by
      simp only [Rep]
      refine ⟨_, _, rfl, tupB_ok (c.fact 211 (f := tupC "TURNED_MARKS" [.int 0, .int 2, .int 1, .int 4, .int 3, .int 5])) H, ?_⟩
      simp only [List.map_cons, List.map_nil, Dv.v, Reps]
      exact ⟨_, _, rfl, rfl, ⟨_, _, rfl, rfl, ⟨_, _, rfl, rfl, ⟨_, _, rfl, rfl, ⟨_, _, rfl, rfl, ⟨_, _, rfl, rfl, rfl⟩⟩⟩⟩⟩⟩
  case G_ENDED_OUTCOMES =>
    exact ⟨g11, rfl⟩
  case R_ENDED_OUTCOMES =>
    exact fun H => by
      simp only [Rep]
      refine ⟨_, _, rfl, tupB_ok (c.fact 212 (f := tupC "ENDED_OUTCOMES" [.non, .non, .non, .int 1, .int 2, .int 0])) H, ?_⟩
      simp only [List.map_cons, List.map_nil, Dv.v, Reps]
      exact ⟨_, _, rfl, rfl, ⟨_, _, rfl, rfl, ⟨_, _, rfl, rfl, ⟨_, _, rfl, rfl, ⟨_, _, rfl, rfl, ⟨_, _, rfl, rfl, rfl⟩⟩⟩⟩⟩⟩
section
variable {P : Program} {w : World} {Γ : Gc} {mg : Str → Option Value} {base : Heap} {ad : Nat → Addr} {fd : Nat → FuncData} {dv : Nat → List V} {cv : Nat → V} {cu : Nat → Value} {fI : Nat → Addr}
theorem ok_all (fx : Fx P Γ mg ad fd dv cv cu fI) : FnOk P w Γ.K mg base (L2N.CX P w) 8 (ad 37) (fd 37) ["script"] (spP Γ F_law) := by
  have k_checked_amount := ok_checked_amount (w := w) (base := base) fx 
  have k_other_side := ok_other_side (w := w) (base := base) fx 
  have k_is_word := ok_is_word (w := w) (base := base) fx 
  have k_guards := ok_guards (w := w) (base := base) fx 
  have k_Game_checked := ok_Game_checked (w := w) (base := base) fx 
  have k_Game_eq := ok_Game_eq (w := w) (base := base) fx 
  have k_reaching := ok_reaching (w := w) (base := base) fx 
  have k_p_law_cell := ok_p_law_cell (w := w) (base := base) fx 
  have k_p_law_numbers := ok_p_law_numbers (w := w) (base := base) fx 
  have k_p_law_is := ok_p_law_is (w := w) (base := base) fx 
  have h_p_law_is := okH_p_law_is (w := w) (base := base) fx 
  have k_p_law_broken := ok_p_law_broken (w := w) (base := base) fx 
  have k_p_law_reach := ok_p_law_reach (w := w) (base := base) fx 
  have k_moves_fit := ok_moves_fit (w := w) (base := base) fx k_is_word
  have k_Game_mover := ok_Game_mover (w := w) (base := base) fx k_Game_checked
  have k_Game_is_safe := ok_Game_is_safe (w := w) (base := base) fx k_Game_checked
  have k_Game_index_of := ok_Game_index_of (w := w) (base := base) fx k_Game_checked
  have k_ended_outcome := ok_ended_outcome (w := w) (base := base) fx k_Game_checked
  have k_allowed_moves := ok_allowed_moves (w := w) (base := base) fx k_Game_checked k_checked_amount
  have k_p_law_word := ok_p_law_word (w := w) (base := base) fx k_p_law_numbers
  have k_p_law_hopeless := ok_p_law_hopeless (w := w) (base := base) fx k_p_law_reach
  have k_position_fits := ok_position_fits (w := w) (base := base) fx k_moves_fit
  have k_flag_outcome := ok_flag_outcome (w := w) (base := base) fx k_Game_is_safe k_Game_mover k_other_side
  have k_play := ok_play (w := w) (base := base) fx k_Game_mover k_checked_amount
  have k_hopeless := ok_hopeless (w := w) (base := base) fx k_Game_mover k_reaching
  have k_p_law_build := ok_p_law_build (w := w) (base := base) fx k_p_law_cell k_p_law_numbers k_p_law_word
  have k_Game_init := ok_Game_init (w := w) (base := base) fx k_guards k_position_fits
  have k_p_law_error := ok_p_law_error (w := w) (base := base) fx k_play
  have k_p_law_standing := ok_p_law_standing (w := w) (base := base) fx k_p_law_error k_p_law_is k_play
  have k_p_law_errors := ok_p_law_errors (w := w) (base := base) fx k_Game_index_of k_Game_is_safe k_Game_mover k_p_law_error h_p_law_is k_allowed_moves k_ended_outcome k_flag_outcome
  have k_Game_turned := ok_Game_turned (w := w) (base := base) fx k_Game_init
  have k_Game_with_move := ok_Game_with_move (w := w) (base := base) fx k_Game_init k_Game_checked
  have k_Game_with_safe := ok_Game_with_safe (w := w) (base := base) fx k_Game_init
  have k_p_law_bad := ok_p_law_bad (w := w) (base := base) fx k_Game_init h_p_law_is
  have k_p_law_base := ok_p_law_base (w := w) (base := base) fx k_Game_init
  have k_p_law_place := ok_p_law_place (w := w) (base := base) fx k_Game_index_of k_Game_is_safe k_Game_mover k_p_law_is h_p_law_is k_p_law_standing k_allowed_moves k_ended_outcome k_flag_outcome
  have k_p_law_refusals := ok_p_law_refusals (w := w) (base := base) fx k_p_law_bad k_p_law_broken
  have k_p_law_changed := ok_p_law_changed (w := w) (base := base) fx k_Game_eq k_Game_with_move k_Game_with_safe h_p_law_is
  have k_law := ok_law (w := w) (base := base) fx k_Game_eq k_Game_init k_Game_turned k_Game_with_safe k_p_law_bad k_p_law_base k_p_law_build k_p_law_cell k_p_law_changed k_p_law_errors k_p_law_hopeless k_p_law_is k_p_law_numbers k_p_law_place k_p_law_refusals k_hopeless
  exact k_law
end
end K00
open PySem PySem.W PySem.Calls PyProof.Rows
set_option maxHeartbeats 0 in
theorem K00.holds_of (hF : ∀ ns : List Int, ns.length ≤ 63 → (∀ z ∈ ns, Builtin.Int.intBits z ≤ 1048576) → K00.F_law [.scr (ns.map .int)] = .ok (.sh (.bl true))) : PySem.Challenge.rw_flagfalls_k00_games.Holds := by
  w_on; o_law
  refine HandSHeadRun.head_any (r := OpenLaw.row PySem.Challenge.rw_flagfalls_k00_games) (q := view (OpenLaw.row PySem.Challenge.rw_flagfalls_k00_games).prog [52]) (H := K00.hk) (ob := K00.ob) (M := 20000) (loose := K00.names) (d := HandSHeadRun.topDef (OpenLaw.row PySem.Challenge.rw_flagfalls_k00_games).prog 52) (kwd := []) K00.ob_eq
    (by kernel_rfl) (fun s => by kernel_rfl) K00.run (by kernel_rfl) (by kernel_rfl) (by kernel_rfl) (by rfl) (by first | assumption | decide +kernel) (by decide +kernel) ⟨rfl, rfl, rfl, rfl, rfl, by decide +kernel⟩ ?hw ?hc
  case hw => w_witness2
  case hc =>
    refine X4.walk_X (l := PySem.Challenge.rw_flagfalls_k00_games) (n := 63) (k := 8) (x := "script") (Fn := K00.F_law) rfl (by decide) (by kernel_rfl) ⟨rfl, by decide, by decide⟩ ?F hF
    intro w mg fa h Y G hmg0
    obtain ⟨K, KX, c⟩ := Y
    have hmg : mg ("law" : PySem.Str) = some (.ref fa) := by
      have e : (HandSHeadRun.topDef (OpenLaw.row PySem.Challenge.rw_flagfalls_k00_games).prog 52).name = ("law" : PySem.Str) := by kernel_rfl
      rw [← e]
      exact hmg0
    obtain ⟨Γ, ad, fd, dv, cv, cu, fI, eK, ea, hb, fx⟩ := K00.facts (P := (PySem.Challenge.rw_flagfalls_k00_games).prog) (by kernel_rfl) (by kernel_rfl) KX G hmg c
    subst eK ea
    exact ⟨Γ, fd 37, KX, hb, fun base _ _ => K00.ok_all fx⟩

end
section
namespace K00
open PySem L2 L3
local macro_rules | `(tactic| walk_at "d") => `(tactic| first | assumption | omega | (simp only [szl, List.length_map, List.length_append, List.length_cons, List.length_nil, List.length_range, List.length_replicate, rngP_length]; omega) | exact Eq.refl _ | (simp; done))
def cell (ns : List Int) (k : Nat) : Int := ns.getD k 0
theorem cell_ok {ns : List Int} {k : Nat} : F_p_law_cell [.scr (ns.map .int), .int k] = .ok (.sh (.int (cell ns k))) := by
  rw [F_p_law_cell_at]
  unfold s_p_law_cell
  by_cases h : k < ns.length
  · simp [h, atI_natP, cell]
  · simp [h, cell]

def mixA (c s k : Int) : Int := ((if c < 0 then -c else c) + s * 7919 + k * 104729 + 17) % 2147483647
def mixB (c s k : Int) : Int := (mixA c s k * 48271 + 5) % 2147483647
def mixC (c s k : Int) : Int := (mixB c s k * mixB c s k + mixB c s k * 69621 + k * 31) % 2147483629
theorem mixB_rng {c s k : Int} : -(2 ^ 64) < mixB c s k ∧ mixB c s k < 2 ^ 64 := by unfold mixB; omega
def numAt (c s m k : Int) (g : Bool) (r : Int) : Int := if (g && decide (0 < r)) = true then r % m else (mixC c s k / 7) % m
def restAt (m : Int) (g : Bool) (r : Int) : Int := if (g && decide (0 < r)) = true then r / m else r
def nEnv (c s m n : Int) (b : List Int × Int) (g : Bool) : L3.Env := [some (.sh (.int c)), some (.sh (.int s)), some (.sh (.int n)), some (.sh (.int m)), some (.own (b.1.map fun i => .sh (.int i))), some (.sh (.int b.2)), some (.sh (.bl g)), none, none]
theorem numAt_rng {c s m k : Int} {g : Bool} {r : Int} (hm : 0 < m) : 0 ≤ numAt c s m k g r ∧ numAt c s m k g r < m := by
  unfold numAt
  split <;> exact ⟨Int.emod_nonneg _ (by omega), Int.emod_lt_of_pos _ hm⟩
theorem numbers_turn {c s m n : Int} {b : List Int × Int} {g : Bool} {k : Nat} (hm : 0 < m) (hm2 : m < 2 ^ 200) (hl : b.1.length < 1000000) :
    Turn (.nm 7) [7, 8] b_p_law_numbers_1 (.int (0 + (k : Int))) (nEnv c s m n b g) (nEnv c s m n (b.1 ++ [numAt c s m k g b.2], restAt m g b.2) g) := by
  unfold b_p_law_numbers_1 nEnv
  obtain ⟨l, r⟩ := b
  dsimp only at hl
  refine .of ?_
  have hB : -(2 ^ 64) < mixB c s k ∧ mixB c s k < 2 ^ 64 := mixB_rng
  cases h : (g && decide (0 < r)) with
  | true => simp (disch := walk_at "d") [h, numAt, restAt]
  | false =>
    unfold mixB mixA at hB
    simp (disch := walk_at "d") [h, numAt, restAt, mixC, mixB, mixA]
def numsF (c s m : Int) (b : List Int × Int) (k : Nat) : List Int × Int := (b.1 ++ [numAt c s m k (decide (1000000000000000000 ≤ (if c < 0 then -c else c))) b.2], restAt m (decide (1000000000000000000 ≤ (if c < 0 then -c else c))) b.2)
def nums (c s : Int) (n : Nat) (m : Int) : List Int := ((List.range n).foldl (numsF c s m) ([], if c < 0 then -c else c)).1
theorem nums_ok {c s m : Int} {n : Nat} (hm : 0 < m) (hm2 : m < 2 ^ 200) (hn : n < 1000000) : F_p_law_numbers [.int c, .int s, .int n, .int m] = .ok (.own ((nums c s n m).map fun i => .sh (.int i))) := by
  rw [F_p_law_numbers_at]
  unfold s_p_law_numbers
  simp (disch := walk_at "d")
  have key := (forGo_foldN (T := .nm 7) (fg := [7, 8]) (fb := b_p_law_numbers_1) (f := fun (k : Nat) => PV.int (0 + (k : Int))) (fun b => nEnv c s m n b (decide (1000000000000000000 ≤ (if c < 0 then -c else c)))) (numsF c s m) (fun k b => b.1.length = k ∧ k ≤ n) (List.range n) 0 ([], if c < 0 then -c else c) ⟨rfl, Nat.zero_le _⟩ fun j x b hx hb => by
    obtain ⟨hj, rfl⟩ := List.getElem?_eq_some_iff.mp hx
    rw [List.length_range] at hj
    refine ⟨⟨by simp [numsF]; omega, by omega⟩, ?_⟩
    exact numbers_turn hm hm2 (by omega)).1
  rw [← rngP_eq] at key
  simp only [nEnv, List.map_nil] at key
  rw [key]
  simp [nums]
theorem nums_fold (c s m : Int) (hm : 0 < m) : ∀ (l : List Nat) (b : List Int × Int), (∀ x ∈ b.1, 0 ≤ x ∧ x < m) → (∀ x ∈ (l.foldl (numsF c s m) b).1, 0 ≤ x ∧ x < m) ∧ (l.foldl (numsF c s m) b).1.length = b.1.length + l.length
  | [], b, h => ⟨h, rfl⟩
  | k :: l, b, h => by
    have := nums_fold c s m hm l (numsF c s m b k) (by
      intro x hx
      rcases List.mem_append.mp hx with hx | hx
      · exact h x hx
      · rw [List.mem_singleton.mp hx]; exact numAt_rng hm)
    refine ⟨this.1, ?_⟩
    rw [List.foldl_cons, this.2]
    simp [numsF]
    omega
theorem nums_len {c s m : Int} {n : Nat} (hm : 0 < m) : (nums c s n m).length = n := by
  have := (nums_fold c s m hm (List.range n) ([], if c < 0 then -c else c) (by simp)).2
  simpa [nums] using this
theorem nums_mem {c s m : Int} {n : Nat} (hm : 0 < m) : ∀ x ∈ nums c s n m, 0 ≤ x ∧ x < m := (nums_fold c s m hm (List.range n) ([], if c < 0 then -c else c) (by simp)).1

theorem cellL {ns : List Int} (k : Nat) {K : Int} (h : K = k) : F_p_law_cell [.scr (ns.map .int), .int K] = .ok (.sh (.int (cell ns k))) := by
  subst h
  exact cell_ok
theorem nums_ok' {c s m N : Int} {n : Nat} (hN : N = n) (hm : 0 < m) (hm2 : m < 2 ^ 200) (hn : n < 1000000) : F_p_law_numbers [.int c, .int s, .int N, .int m] = .ok (.own ((nums c s n m).map fun i => .sh (.int i))) := by
  subst hN
  exact nums_ok hm hm2 hn
def ab (c : Int) : Int := if c < 0 then -c else c
theorem ab_nn {c : Int} : 0 ≤ ab c := by unfold ab; split <;> omega
theorem abs_ab {c : Int} : bAbs [.int c] = .ok (.int (ab c)) := rfl
theorem is_int {x y : Int} : F_p_law_is [.int x, .int y] = .ok (.sh (.bl (decide (x = y)))) := by
  rw [F_p_law_is_at]
  unfold s_p_law_is
  simp
end K00

end
section
/-! words -/
namespace K00
open PySem L2 L3
local macro_rules | `(tactic| walk_at "d") => `(tactic| first | assumption | omega | (simp only [szl, repP_length, List.length_map, List.length_append, List.length_cons, List.length_nil, List.length_range, List.length_replicate, rngP_length]; omega) | exact Eq.refl _ | (simp; done) | decide)
def mkS (l : List Nat) : Str := ⟨l.toArray⟩
theorem mkS_len {l : List Nat} : (mkS l).length = l.length := by simp [mkS, Str.length]
theorem mkS_inj {l r : List Nat} : mkS l = mkS r ↔ l = r := by
  constructor
  · intro h
    have := congrArg (fun s : Str => s.cps.toList) h
    simpa [mkS] using this
  · intro h; rw [h]
theorem mkS_app {l r : List Nat} : mkS l ++ mkS r = mkS (l ++ r) := by
  show (⟨l.toArray ++ r.toArray⟩ : Str) = ⟨(l ++ r).toArray⟩
  simp
def sgn : List Nat := (List.range 26).map (97 + ·) ++ (List.range 10).map (48 + ·)
theorem sgn_ok : ("abcdefghijklmnopqrstuvwxyz0123456789" : Str) = mkS sgn := by decide +kernel
theorem sgn_len : sgn.length = 36 := by decide
theorem sgn_nodup : sgn.Nodup := by decide
theorem in_sgn0 : sgn.all (fun c => !(Builtin.Str.occurrences (mkS sgn) (mkS [c]) 0 (mkS sgn).length 1).isEmpty) = true := by decide +kernel
theorem nin_sgn0 : [65, 95].all (fun c => (Builtin.Str.occurrences (mkS sgn) (mkS [c]) 0 (mkS sgn).length 1).isEmpty) = true := by decide +kernel
theorem notin_str {a b : Str} : pyIn true (.str a) (.str b) = .ok (.bl (Builtin.Str.occurrences b a 0 b.length 1).isEmpty) := by
  show R.ok (PV.bl (!(!(Builtin.Str.occurrences b a 0 b.length 1).isEmpty))) = _
  rw [Bool.not_not]
theorem in_sgn {c : Nat} (h : c ∈ sgn) : pyIn true (.str (mkS [c])) (.str (mkS sgn)) = .ok (.bl false) := by
  rw [notin_str]
  have := List.all_eq_true.mp in_sgn0 c h
  rw [Bool.not_eq_true'] at this
  rw [this]
theorem nin_sgn {c : Nat} (h : c = 65 ∨ c = 95) : pyIn true (.str (mkS [c])) (.str (mkS sgn)) = .ok (.bl true) := by
  rw [notin_str]
  have := List.all_eq_true.mp nin_sgn0 c (by simpa using h)
  rw [this]
theorem add_S {l r : List Nat} (h : l.length + r.length ≤ 1000000) : pyAdd (.str (mkS l)) (.str (mkS r)) = .ok (.str (mkS (l ++ r))) := by
  rw [add_str (by rw [mkS_len, mkS_len]; simp only [szl]; omega), mkS_app]
theorem len_S {l : List Nat} (h : l.length ≤ 1000000) : bLen [.str (mkS l)] = .ok (.int l.length) := by
  unfold bLen
  dsimp only
  rw [mkS_len]
  first | rfl | (rw [if_pos (by simp only [szl]; omega)])
theorem seq_S {l : List Nat} : seqR (.str (mkS l)) = .ok (l.map fun c => .str (mkS [c])) := by
  show R.ok ((mkS l).cps.toList.map fun c => PV.str ⟨#[c]⟩) = _
  simp [mkS]
theorem idx_S {l : List Nat} {k : Int} {c : Nat} (hl : l.length ≤ 1000000) (h : atI l k = some c) : idxR (.str (mkS l)) (.int k) = .ok (.str (mkS [c])) := by
  show (if (mkS l).length ≤ sizeLine then R.of ((atI (mkS l).cps.toList k).map fun c => PV.str ⟨#[c]⟩) else R.no) = _
  rw [if_pos (by rw [mkS_len]; simp only [szl]; omega)]
  have : (mkS l).cps.toList = l := by simp [mkS]
  rw [this, h]
  rfl
theorem slT_S {l : List Nat} {k : Int} (hl : l.length ≤ 1000000) (h : 0 ≤ k) : slR (.str (mkS l)) none (some k) = .ok (.str (mkS (l.take k.toNat))) := by
  show (if (mkS l).length ≤ sizeLine then R.ok (PV.str (cutS (mkS l) none (some k))) else .no) = _
  rw [if_pos (by rw [mkS_len]; simp only [szl]; omega)]
  unfold cutS HT.sIx
  dsimp only
  rw [if_neg (by omega), List.drop_zero, Nat.sub_zero]
  have : (mkS l).cps.toList = l := by simp [mkS]
  rw [this, mkS_len]
  show R.ok (PV.str ⟨(l.take (min k.toNat l.length)).toArray⟩) = R.ok (PV.str ⟨(l.take k.toNat).toArray⟩)
  by_cases c : k.toNat ≤ l.length
  · rw [Nat.min_eq_left c]
  · rw [Nat.min_eq_right (by omega), List.take_of_length_le (Nat.le_refl _), List.take_of_length_le (by omega)]
theorem slD_S {l : List Nat} {k : Int} (hl : l.length ≤ 1000000) (h : 0 ≤ k) : slR (.str (mkS l)) (some k) none = .ok (.str (mkS (l.drop k.toNat))) := by
  show (if (mkS l).length ≤ sizeLine then R.ok (PV.str (cutS (mkS l) (some k) none)) else .no) = _
  rw [if_pos (by rw [mkS_len]; simp only [szl]; omega)]
  unfold cutS HT.sIx
  dsimp only
  rw [if_neg (by omega)]
  have : (mkS l).cps.toList = l := by simp [mkS]
  rw [this, mkS_len]
  show R.ok (PV.str ⟨((l.drop (min k.toNat l.length)).take (l.length - min k.toNat l.length)).toArray⟩) = R.ok (PV.str ⟨(l.drop k.toNat).toArray⟩)
  by_cases c : k.toNat ≤ l.length
  · rw [Nat.min_eq_left c, List.take_of_length_le (by simp)]
  · rw [Nat.min_eq_right (by omega), List.drop_of_length_le (Nat.le_refl _), List.drop_of_length_le (by omega), List.take_nil]
end K00

end
section
/-! words of a position -/
namespace K00
open PySem L2 L3
local macro_rules | `(tactic| walk_at "d") => `(tactic| first | assumption | omega | (simp only [szl, repP_length, List.length_map, List.length_append, List.length_cons, List.length_nil, List.length_range, List.length_replicate, rngP_length]; omega) | exact Eq.refl _ | (simp; done) | decide)
def isW (l : List Nat) : Bool := decide (1 ≤ l.length) && (decide (l.length ≤ 8) && l.all fun c => decide (c ∈ sgn))
def Chr (l : List Nat) : Prop := ∀ c ∈ l, c ∈ sgn ∨ c = 65 ∨ c = 95
theorem bad_not : ∀ c, c = 65 ∨ c = 95 → c ∉ sgn := by
  intro c h
  rcases h with rfl | rfl <;> decide
theorem is_word_ok {l : List Nat} (h : Chr l) (hl : l.length ≤ 1000000) : F_is_word [.str (mkS l)] = .ok (.sh (.bl (isW l))) := by
  have ln := len_S hl
  rw [F_is_word_at]
  unfold s_is_word
  by_cases c1 : l.length < 1
  · have e : isW l = false := by simp [isW]; omega
    have c1' : (l.length : Int) < 1 := by omega
    rw [e]
    simp [ln, c1']
  · by_cases c2 : 8 < l.length
    · have e : isW l = false := by simp [isW]; omega
      have c1' : ¬ (l.length : Int) < 1 := by omega
      have c2' : (8 : Int) < l.length := by omega
      rw [e]
      simp [ln, c1', c2']
    · have c1' : ¬ (l.length : Int) < 1 := by omega
      have c2' : ¬ (8 : Int) < l.length := by omega
      have e : isW l = l.all fun c => decide (c ∈ sgn) := by
        unfold isW
        rw [decide_eq_true (by omega), decide_eq_true (by omega), Bool.true_and, Bool.true_and]
      have lp := forGo_all (T := .nm 1) (fg := [1]) (fb := b_is_word_1) (f := fun c => PV.str (mkS [c])) (ρ := [some (.sh (.str (mkS l))), none]) (good := fun c => decide (c ∈ sgn)) (o := .sh (.bl false)) l (fun c hc hg => .of (by
        have := in_sgn (of_decide_eq_true hg)
        rw [← sgn_ok] at this
        unfold b_is_word_1
        simp [this])) fun c hc hg => ⟨_, rfl, by
        have hb : c = 65 ∨ c = 95 := (h c hc).resolve_left (of_decide_eq_false hg)
        have := nin_sgn hb
        rw [← sgn_ok] at this
        unfold b_is_word_1
        simp [this]⟩
      rw [e]
      have sq := seq_S (l := l)
      cases a : l.all fun c => decide (c ∈ sgn) with
      | true =>
        rw [a, if_pos rfl] at lp
        simp [ln, c1', c2', sq, lp]
      | false =>
        rw [a, if_neg Bool.false_ne_true] at lp
        simp [ln, c1', c2', sq, lp]
def sg (i : Int) : Nat := sgn.getD (i % 36).toNat 0
theorem sg_at {i : Int} : atI sgn (i % 36) = some (sg i) := by
  have h1 : 0 ≤ i % 36 := by omega
  have h2 : i % 36 < (sgn.length : Int) := by rw [sgn_len]; omega
  exact atI_getI h1 h2
theorem sg_mem {i : Int} : sg i ∈ sgn := by
  have h2 : (i % 36).toNat < sgn.length := by rw [sgn_len]; omega
  unfold sg
  rw [getD_of h2]
  exact List.getElem_mem h2
theorem sg_inj0 : ∀ a : Fin 36, ∀ b : Fin 36, sgn.getD a.1 0 = sgn.getD b.1 0 → a = b := by decide +kernel
theorem sg_inj {i j : Int} (h : sg i = sg j) : i % 36 = j % 36 := by
  have := sg_inj0 ⟨(i % 36).toNat, by omega⟩ ⟨(j % 36).toNat, by omega⟩ h
  have := congrArg Fin.val this
  dsimp only at this
  omega
def wBase (n : List Int) : List Nat := (List.range (el n 8 % 8).toNat).map fun a => sg (el n a)
def wPlace (n : List Int) : Nat := (el n 7 % ((wBase n).length + 1 : Nat)).toNat
def wordN (n : List Int) (k : Int) : List Nat := (wBase n).take (wPlace n) ++ [sg (el n 6 + k)] ++ (wBase n).drop (wPlace n)
def wordL (c s : Int) (k : Int) : List Nat := wordN (nums c s 9 252) k
theorem wBase_len {n : List Int} : (wBase n).length ≤ 7 := by
  simp [wBase]; omega
theorem wPlace_le {n : List Int} : wPlace n ≤ (wBase n).length := by
  unfold wPlace
  have := Int.emod_lt_of_pos (el n 7) (show (0 : Int) < ((wBase n).length + 1 : Nat) by omega)
  have := Int.emod_nonneg (el n 7) (show (((wBase n).length + 1 : Nat) : Int) ≠ 0 by omega)
  omega
theorem wordN_isW {n : List Int} {k : Int} : isW (wordN n k) = true := by
  have := wBase_len (n := n)
  have := wPlace_le (n := n)
  have hl : (wordN n k).length = (wBase n).length + 1 := by simp [wordN]; omega
  have ha : ∀ c ∈ wordN n k, c ∈ sgn := by
    intro c hc
    have hb : ∀ c ∈ wBase n, c ∈ sgn := by
      intro c hc
      obtain ⟨a, _, rfl⟩ := List.mem_map.mp hc
      exact sg_mem
    unfold wordN at hc
    rw [List.append_assoc, List.mem_append, List.mem_append] at hc
    rcases hc with hc | hc | hc
    · exact hb c (List.mem_of_mem_take hc)
    · rw [List.mem_singleton.mp hc]; exact sg_mem
    · exact hb c (List.mem_of_mem_drop hc)
  unfold isW
  rw [hl, decide_eq_true (by omega), decide_eq_true (by omega), Bool.true_and, Bool.true_and, List.all_eq_true]
  intro c hc
  exact decide_eq_true (ha c hc)
theorem wordN_inj {n : List Int} {j k : Int} (h : wordN n j = wordN n k) (h1 : 0 ≤ j) (h2 : j < 36) (h3 : 0 ≤ k) (h4 : k < 36) : j = k := by
  unfold wordN at h
  rw [List.append_assoc, List.append_assoc, List.append_cancel_left_eq] at h
  have : sg (el n 6 + j) = sg (el n 6 + k) := by simpa using h
  have := sg_inj this
  omega
theorem w_loop {x0 x1 x2 x7 : Option OV} {n : List Int} (hn : n.length = 9) {m : Nat} (hm : m ≤ 8) : forGo (.nm 6) [6] b_p_law_word_1 (rngP 0 m) [x0, x1, x2, some (.sh (.str (mkS sgn))), some (.sh (.lst (n.map .int))), some (.sh (.str (mkS []))), none, x7] = .nx [x0, x1, x2, some (.sh (.str (mkS sgn))), some (.sh (.lst (n.map .int))), some (.sh (.str (mkS ((List.range m).map fun a => sg (el n a))))), none, x7] := by
  have key := (forGo_foldN (T := .nm 6) (fg := [6]) (fb := b_p_law_word_1) (f := fun (k : Nat) => PV.int (0 + (k : Int))) (fun (b : List Nat) => [x0, x1, x2, some (.sh (.str (mkS sgn))), some (.sh (.lst (n.map .int))), some (.sh (.str (mkS b))), none, x7]) (fun b k => b ++ [sg (el n k)]) (fun k b => b.length = k ∧ b = (List.range k).map fun a => sg (el n a)) (List.range m) 0 [] ⟨rfl, rfl⟩ fun j x b hx ⟨hb, hb2⟩ => by
    obtain ⟨hj, rfl⟩ := List.getElem?_eq_some_iff.mp hx
    rw [List.length_range] at hj
    rw [Nat.zero_add] at hb hb2
    refine ⟨⟨by simp [hb], ?_⟩, .of ?_⟩
    · rw [Nat.zero_add, List.range_succ, List.map_append, ← hb2]
      simp
    · have e1 : atI n (j : Int) = some (el n j) := el_at (by omega)
      have e2 := idx_S (l := sgn) (k := el n j % 36) (by rw [sgn_len]; omega) sg_at
      have e3 := add_S (l := b) (r := [sg (el n j)]) (by simp; omega)
      unfold b_p_law_word_1
      simp (disch := walk_at "d") [e1, e2, e3])
  rw [rngP_eq, key.1]
  have := key.2.2
  rw [this]
  simp
theorem word_ok {c s k : Int} : F_p_law_word [.int c, .int s, .int k] = .ok (.sh (.str (mkS (wordL c s k)))) := by
  have en := nums_ok' (c := c) (s := s) (N := 9) (n := 9) (m := 252) rfl (by omega) (by omega) (by omega)
  have hn := nums_len (c := c) (s := s) (n := 9) (m := 252) (by omega)
  unfold wordL
  generalize nums c s 9 252 = n at en hn ⊢
  have a6 : atI n 6 = some (el n 6) := el_at (l := n) (i := 6) (by omega)
  have a7 : atI n 7 = some (el n 7) := el_at (l := n) (i := 7) (by omega)
  have a8 : atI n 8 = some (el n 8) := el_at (l := n) (i := 8) (by omega)
  have lp := fun x0 x1 x2 x7 => w_loop (x0 := x0) (x1 := x1) (x2 := x2) (x7 := x7) hn (m := (el n 8 % 8).toNat) (by omega)
  have hb := wBase_len (n := n)
  have hp := wPlace_le (n := n)
  have fb : (List.range (el n 8 % 8).toNat).map (fun a => sg (el n a)) = wBase n := rfl
  rw [fb] at lp
  have e0 : ("" : Str) = mkS [] := by decide +kernel
  have ln := len_S (l := wBase n) (by omega)
  have pp : el n 7 % (((wBase n).length : Int) + 1) = (wPlace n : Nat) := by
    unfold wPlace
    have := Int.emod_nonneg (el n 7) (show (((wBase n).length + 1 : Nat) : Int) ≠ 0 by omega)
    rw [show (((wBase n).length : Int) + 1) = (((wBase n).length + 1 : Nat) : Int) by omega]
    omega
  have s1 := slT_S (l := wBase n) (k := (wPlace n : Nat)) (by omega) (by omega)
  have s2 := slD_S (l := wBase n) (k := (wPlace n : Nat)) (by omega) (by omega)
  rw [Int.toNat_natCast] at s1 s2
  have i1 := idx_S (l := sgn) (k := (el n 6 + k) % 36) (by rw [sgn_len]; omega) sg_at
  have a1 := add_S (l := (wBase n).take (wPlace n)) (r := [sg (el n 6 + k)]) (by simp; omega)
  have a2 := add_S (l := (wBase n).take (wPlace n) ++ [sg (el n 6 + k)]) (r := (wBase n).drop (wPlace n)) (by simp; omega)
  unfold wordN
  rw [F_p_law_word_at]
  unfold s_p_law_word
  rw [sgn_ok, e0]
  simp (disch := walk_at "d") [en, a6, a7, a8, lp, ln, pp, s1, s2, i1, a1, a2]
end K00

end
section
/-! the moves of a position -/
namespace K00
open PySem L2 L3
local macro_rules | `(tactic| walk_at "d") => `(tactic| first | assumption | omega | (simp only [szl, repP_length, List.length_map, List.length_append, List.length_cons, List.length_nil, List.length_range, List.length_replicate, rngP_length]; omega) | exact Eq.refl _ | (simp; done) | decide)
/-- word, target, need, drop -/
structure Mv where
  w : List Nat
  t : Int
  n : Int
  d : Int
  deriving DecidableEq
def mvP (m : Mv) : PV := .tup [.str (mkS m.w), .int m.t, .int m.n, .int m.d]
def wdP (w : List Nat) : PV := .str (mkS w)
theorem wd_mem {w : List Nat} {l : List (List Nat)} : wdP w ∈ l.map wdP ↔ w ∈ l := by
  constructor
  · intro h
    obtain ⟨v, hv, e⟩ := List.mem_map.mp h
    have : mkS v = mkS w := by injection e
    rw [← mkS_inj.mp this]
    exact hv
  · exact fun h => List.mem_map.mpr ⟨w, h, rfl⟩
theorem in_words {w : List Nat} {l : List (List Nat)} : pyIn false (wdP w) (.lst (l.map wdP)) = .ok (.bl (decide (w ∈ l))) := by
  have h1 : (l.map wdP).all flatP = true := by rw [List.all_map, List.all_eq_true]; intro x _; rfl
  have h2 : noBls (l.map wdP) = true := by
    clear h1
    induction l with
    | nil => simp [noBls]
    | cons a l ih =>
      rw [List.map_cons]
      simp only [noBls, ih, Bool.and_true]
      simp [noBl, wdP]
  have e2 : inR (wdP w) (.lst (l.map wdP)) = (if flatP (wdP w) = true ∧ (l.map wdP).all flatP = true then R.ok (inV (toV (wdP w)) ((l.map wdP).map toV)) else match toPD (wdP w), toPDs (l.map wdP) with
    | some d, some ds => if SeqAt.shaped d = true ∧ SeqAt.shaped (.list ds) = true then .ok (ds.any fun z => PyData.eqv z d) else .no
    | _, _ => .no) := rfl
  unfold pyIn
  rw [e2, if_pos ⟨rfl, h1⟩, inV_flat rfl (by simp [noBl, wdP]) h1 h2]
  show R.ok (PV.bl (decide (wdP w ∈ l.map wdP))) = _
  congr 2
  exact decide_eq_decide.mpr wd_mem
def okM (size : Int) (seen : List (List Nat)) (m : Mv) : Bool := (isW m.w && !decide (m.w ∈ seen)) && (!(decide (m.t < 0) || decide (size ≤ m.t)) && !(decide (m.d < 0) || (decide (m.n < m.d) || decide (9 < m.n))))
def fitM (size : Int) : List (List Nat) → List Mv → Bool
  | _, [] => true
  | seen, m :: l => okM size seen m && fitM size (seen ++ [m.w]) l
def okChr (l : List Mv) : Prop := ∀ m ∈ l, Chr m.w ∧ m.w.length ≤ 1000
def fEnv (x0 : Option OV) (size : Int) (seen : List (List Nat)) : L3.Env := [x0, some (.sh (.int size)), some (.own (seen.map fun w => .sh (wdP w))), none, none, none, none]
theorem fit_loop {x0 : Option OV} {size : Int} : ∀ (l : List Mv) (seen : List (List Nat)), okChr l → seen.length + l.length ≤ 1000 → forGo (.tp [3, 4, 5, 6]) [3, 4, 5, 6] b_moves_fit_1 (l.map mvP) (fEnv x0 size seen) = if fitM size seen l = true then .nx (fEnv x0 size (seen ++ l.map (·.w))) else .rt (.sh (.bl false))
  | [], seen, _, _ => by simp [fitM, forGo]
  | m :: l, seen, hc, hl => by
    have ih := fit_loop (x0 := x0) (size := size) l (seen ++ [m.w]) (fun x hx => hc x (List.mem_cons_of_mem _ hx)) (by simp at hl ⊢; omega)
    obtain ⟨hc1, hc2⟩ := hc m List.mem_cons_self
    have iw := is_word_ok hc1 (by omega)
    have inw := in_words (w := m.w) (l := seen)
    have sl : (seen.map fun w => OV.sh (wdP w)).length < 1000 := by simp at hl ⊢; omega
    unfold wdP at inw
    rw [List.map_cons]
    cases ok : okM size seen m with
    | true =>
      have t : Turn (.tp [3, 4, 5, 6]) [3, 4, 5, 6] b_moves_fit_1 (mvP m) (fEnv x0 size seen) (fEnv x0 size (seen ++ [m.w])) := .of (by
        unfold okM at ok
        rw [Bool.and_eq_true, Bool.and_eq_true, Bool.and_eq_true, Bool.not_eq_true', Bool.not_eq_true', Bool.not_eq_true'] at ok
        obtain ⟨⟨o1, o2⟩, o3, o4⟩ := ok
        unfold b_moves_fit_1 fEnv
        unfold wdP at sl ⊢
        simp (disch := walk_at "d") [iw, inw, o1, o2, o3, o4])
      rw [t.go, ih, fitM, ok, Bool.true_and, List.map_cons, List.append_assoc]
      rfl
    | false =>
      rw [fitM, ok, Bool.false_and, if_neg Bool.false_ne_true]
      refine forGo_cons_rt (ρ1 := [x0, some (.sh (.int size)), some (.own (seen.map fun w => .sh (wdP w))), some (.sh (.str (mkS m.w))), some (.sh (.int m.t)), some (.sh (.int m.n)), some (.sh (.int m.d))]) rfl ?_
      unfold b_moves_fit_1
      unfold wdP
      cases o1 : isW m.w with
      | false => rw [o1] at iw; simp (disch := walk_at "d") [iw]
      | true =>
        rw [o1] at iw
        by_cases o2 : m.w ∈ seen
        · simp (disch := walk_at "d") [iw, inw, o2]
        · cases o3 : (decide (m.t < 0) || decide (size ≤ m.t)) with
          | true => simp (disch := walk_at "d") [iw, inw, o2, o3]
          | false =>
            have o4 : (decide (m.d < 0) || (decide (m.n < m.d) || decide (9 < m.n))) = true := by
              unfold okM at ok
              rw [o1, o3, decide_eq_false o2] at ok
              cases q : (decide (m.d < 0) || (decide (m.n < m.d) || decide (9 < m.n))) with
              | true => rfl
              | false => rw [q] at ok; exact absurd ok (by decide)
            simp (disch := walk_at "d") [iw, inw, o2, o3, o4]
def fitR (size : Int) (l : List Mv) : Bool := !(decide (l.length < 1) || decide (16 < l.length)) && fitM size [] l
end K00

end
section
/-! a position, the safe ones -/
namespace K00
open PySem L2 L3
local macro_rules | `(tactic| walk_at "d") => `(tactic| first | assumption | omega | (simp only [szl, repP_length, List.length_map, List.length_append, List.length_cons, List.length_nil, List.length_range, List.length_replicate, rngP_length]; omega) | exact Eq.refl _ | (simp; done) | decide)
/-- a list or a tuple of these -/
def SqP (p : PV) (l : List PV) : Prop := p = .lst l ∨ p = .tup l
theorem SqP.seq {p : PV} {l : List PV} (h : SqP p l) : seqR p = .ok l := by rcases h with rfl | rfl <;> rfl
theorem SqP.len {p : PV} {l : List PV} (h : SqP p l) : bLen [p] = .ok (.int l.length) := by rcases h with rfl | rfl <;> rfl
theorem SqP.idx {p : PV} {l : List PV} (h : SqP p l) {k : Int} : idxR p (.int k) = R.of (atI l k) := by rcases h with rfl | rfl <;> rfl
theorem moves_fit_ok {p : PV} {l : List Mv} {size : Int} (h : SqP p (l.map mvP)) (hc : okChr l) (hl : l.length ≤ 1000) : F_moves_fit [p, .int size] = .ok (.sh (.bl (fitR size l))) := by
  have ln := h.len
  have sq := h.seq
  rw [List.length_map] at ln
  have lp := fit_loop (x0 := some (.sh p)) (size := size) l [] hc (by simpa using hl)
  simp only [fEnv, List.map_nil, List.nil_append] at lp
  rw [F_moves_fit_at]
  unfold s_moves_fit
  unfold fitR
  by_cases c1 : l.length < 1
  · have c1' : (l.length : Int) < 1 := by omega
    rw [decide_eq_true c1]
    simp [ln, c1']
  · by_cases c2 : 16 < l.length
    · have c1' : ¬ (l.length : Int) < 1 := by omega
      have c2' : (16 : Int) < l.length := by omega
      rw [decide_eq_false c1, decide_eq_true c2]
      simp [ln, c1', c2']
    · have c1' : ¬ (l.length : Int) < 1 := by omega
      have c2' : ¬ (16 : Int) < l.length := by omega
      rw [decide_eq_false c1, decide_eq_false c2]
      cases q : fitM size [] l with
      | true =>
        rw [q, if_pos rfl] at lp
        simp [ln, c1', c2', sq, lp]
      | false =>
        rw [q, if_neg Bool.false_ne_true] at lp
        simp [ln, c1', c2', sq, lp]
def fitP (mark : Int) (l : List Mv) (size : Int) (g : Bool) : Bool := if mark = 1 ∨ mark = 2 then fitR size l else if mark = 3 ∨ mark = 4 ∨ mark = 5 then decide (l.length = 0) && !g else false
theorem position_fits_ok {p : PV} {l : List Mv} {mark size : Int} {g : Bool} (h : SqP p (l.map mvP)) (hc : okChr l) (hl : l.length ≤ 1000) : F_position_fits [.int mark, p, .int size, .bl g] = .ok (.sh (.bl (fitP mark l size g))) := by
  have ln := h.len
  rw [List.length_map] at ln
  have mf := moves_fit_ok (size := size) h hc hl
  rw [F_position_fits_at]
  unfold s_position_fits fitP
  by_cases c1 : mark = 1
  · simp [c1, mf]
  · by_cases c2 : mark = 2
    · simp [c2, mf]
    · by_cases c3 : mark = 3
      · simp [c3, ln]
      · by_cases c4 : mark = 4
        · simp [c4, ln]
        · by_cases c5 : mark = 5
          · simp [c5, ln]
          · simp [c1, c2, c3, c4, c5]
end K00

end
section
/-! the safe positions -/
namespace K00
open PySem L2 L3
local macro_rules | `(tactic| walk_at "d") => `(tactic| first | assumption | omega | (simp only [szl, repP_length, List.length_map, List.length_append, List.length_cons, List.length_nil, List.length_range, List.length_replicate, rngP_length, List.length_set]; omega) | exact Eq.refl _ | (simp; done) | decide)
def badG (k : Int) : PX := ⟨3, [("position", .int k)]⟩
def gFit (size : Int) : Int → List Int → Bool
  | _, [] => true
  | last, x :: l => !(decide (x ≤ last) || decide (size ≤ x)) && gFit size x l
def gSet (b : List Bool) (l : List Int) : List Bool := l.foldl (fun b x => b.set x.toNat true) b
def gEnv (x0 : Option OV) (size : Int) (b : List Bool) (last : Int) : L3.Env := [x0, some (.sh (.int size)), some (.own (b.map fun z => .sh (.bl z))), some (.sh (.int last)), none]
theorem g_loop {x0 : Option OV} {size : Int} : ∀ (l : List Int) (b : List Bool) (last : Int), (b.length : Int) = size → -1 ≤ last → (gFit size last l = true → ∃ last', forGo (.nm 4) [4] b_guards_1 (l.map .int) (gEnv x0 size b last) = .nx (gEnv x0 size (gSet b l) last')) ∧ (gFit size last l = false → ∃ ρ, forGo (.nm 4) [4] b_guards_1 (l.map .int) (gEnv x0 size b last) = .er (badG (-1)) ρ)
  | [], b, last, _, _ => ⟨fun _ => ⟨last, rfl⟩, fun h => by cases h⟩
  | x :: l, b, last, hb, hl => by
    cases c : (decide (x ≤ last) || decide (size ≤ x)) with
    | true =>
      refine ⟨fun h => ?_, fun _ => ?_⟩
      · unfold gFit at h
        rw [c] at h
        cases h
      · refine ⟨(gEnv x0 size b last).set 4 (some (.sh (.int x))), forGo_cons_er (ρ1 := (gEnv x0 size b last).set 4 (some (.sh (.int x)))) rfl ?_⟩
        unfold b_guards_1 gEnv badG
        simp [c]
    | false =>
      have c' := c
      rw [Bool.or_eq_false_iff, decide_eq_false_iff_not, decide_eq_false_iff_not] at c'
      have ih := g_loop (x0 := x0) (size := size) l (b.set x.toNat true) x (by simpa using hb) (by omega)
      have t : Turn (.nm 4) [4] b_guards_1 (.int x) (gEnv x0 size b last) (gEnv x0 size (b.set x.toNat true) x) := .of (by
        unfold b_guards_1 gEnv
        simp (disch := walk_at "d") [c, List.map_set])
      have e : gFit size last (x :: l) = gFit size x l := by
        rw [gFit, c]
        rfl
      rw [e, List.map_cons, t.go]
      exact ih
theorem gSet_len : ∀ {l : List Int} {b : List Bool}, (gSet b l).length = b.length
  | [], b => rfl
  | x :: l, b => by
    show (gSet (b.set x.toNat true) l).length = _
    rw [gSet_len, List.length_set]
/-- which positions are guarded -/
def gOf (n : Nat) (l : List Int) : List Bool := gSet (List.replicate n false) l
theorem gOf_len {n : Nat} {l : List Int} : (gOf n l).length = n := by unfold gOf; rw [gSet_len, List.length_replicate]
theorem mulL_one {p : PV} {k : Int} (h : k ≤ 16777216) (h0 : 0 ≤ k) : mulL (.lst [p]) (.int k) = .ok (repP p k.toNat) := by
  unfold mulL
  have := mul_one (p := p) h h0
  first
    | (rw [this]; rfl)
    | (dsimp only
       rw [if_pos (by simp only [szl, List.length_cons, List.length_nil]; omega), flatten_one]
       rfl)
theorem rep_bl {n : Nat} : (repP (.bl false) n).map OV.sh = (List.replicate n false).map fun z => OV.sh (.bl z) := by
  unfold repP
  simp
theorem flat_bl {l : List Bool} : flat1 (.ok (.tup (l.map fun x => PV.bl x))) = .ok (.tup (l.map fun x => PV.bl x)) := by
  have h : (PV.tup (l.map fun x => PV.bl x)).flat = true := by
    show PV.flats _ = true
    induction l with
    | nil => rfl
    | cons a l ih => simpa [PV.flats, PV.flat] using ih
  exact if_pos h
theorem guards_ok {p : PV} {l : List Int} {n : Nat} (h : SqP p (l.map .int)) (hn : n ≤ 1000) (hf : gFit n (-1) l = true) : F_guards [p, .int n] = .ok (.sh (.tup ((gOf n l).map .bl))) := by
  have sq := h.seq
  obtain ⟨last', lp⟩ := (g_loop (x0 := some (.sh p)) (size := n) l (List.replicate n false) (-1) (by simp) (by omega)).1 hf
  have gl := gOf_len (n := n) (l := l)
  have m1 := mulL_one (p := .bl false) (k := n) (by omega) (by omega)
  rw [Int.toNat_natCast] at m1
  unfold gEnv at lp
  rw [← rep_bl] at lp
  rw [F_guards_at]
  unfold s_guards
  simp (disch := walk_at "d") [sq, m1, lp, flat_bl]
  rfl
theorem guards_bad {p : PV} {l : List Int} {n : Nat} (h : SqP p (l.map .int)) (hn : n ≤ 1000) (hf : gFit n (-1) l = false) : F_guards [p, .int n] = .er (badG (-1)) := by
  have sq := h.seq
  obtain ⟨ρ, lp⟩ := (g_loop (x0 := some (.sh p)) (size := n) l (List.replicate n false) (-1) (by simp) (by omega)).2 hf
  have m1 := mulL_one (p := .bl false) (k := n) (by omega) (by omega)
  rw [Int.toNat_natCast] at m1
  unfold gEnv at lp
  rw [← rep_bl] at lp
  rw [F_guards_at]
  unfold s_guards
  simp (disch := walk_at "d") [sq, m1, lp]
end K00

end
section
/-! a game is made -/
namespace K00
open PySem L2 L3
local macro_rules | `(tactic| walk_at "d") => `(tactic| first | assumption | omega | (simp only [szl, repP_length, List.length_map, List.length_append, List.length_cons, List.length_nil, List.length_range, List.length_replicate, rngP_length, List.length_set]; omega) | exact Eq.refl _ | (simp; done) | decide)
def rowAt (rows : List (List Mv)) (i : Nat) : List Mv := rows.getD i []
def pvAt (l : List PV) (i : Nat) : PV := l.getD i .non
def blAt (l : List Bool) (i : Nat) : Bool := l.getD i false
theorem pv_at {l : List PV} {i : Nat} (h : i < l.length) : atI l (0 + (i : Int)) = some (pvAt l i) := by
  rw [Int.zero_add]
  exact atI_getD h
theorem bl_at {l : List Bool} {i : Nat} (h : i < l.length) : atI (l.map PV.bl) (0 + (i : Int)) = some (.bl (blAt l i)) := by
  rw [atI_map, Int.zero_add, atI_getD (d := false) h]
  rfl
/-- moves as they are handed in -/
structure Rws (p : PV) (rl : List PV) (rows : List (List Mv)) : Prop where
  s : SqP p rl
  len : rl.length = rows.length
  at_ : ∀ i, i < rows.length → SqP (pvAt rl i) ((rowAt rows i).map mvP)
  ok : ∀ i, i < rows.length → okChr (rowAt rows i) ∧ (rowAt rows i).length ≤ 1000
def fitI (marks : List Int) (rows : List (List Mv)) (g : List Bool) (i : Nat) : Bool := fitP (el marks i) (rowAt rows i) marks.length (blAt g i)
def iEnv (x0 : Option OV) (pm pr : PV) (x3 : Option OV) (n : Nat) (g : List Bool) : L3.Env := [x0, some (.sh pm), some (.sh pr), x3, some (.sh (.int n)), some (.sh (.tup (g.map .bl))), none, none, none]
section
variable {x0 x3 : Option OV} {pm pr : PV} {rl : List PV} {marks : List Int} {rows : List (List Mv)} {g : List Bool}
theorem i_turn (hm : SqP pm (marks.map .int)) (hr : Rws pr rl rows) (hn : rows.length = marks.length) (hg : g.length = marks.length) {i : Nat} (hi : i < marks.length) (hf : fitI marks rows g i = true) : Turn (.nm 6) [6] b_Game_init_1 (.int (0 + (i : Int))) (iEnv x0 pm pr x3 marks.length g) (iEnv x0 pm pr x3 marks.length g) := by
  have e1 := hm.idx (k := 0 + (i : Int))
  rw [Int.zero_add, atI_map, el_at hi] at e1
  have e2 := hr.s.idx (k := 0 + (i : Int))
  rw [pv_at (by rw [hr.len]; omega), Int.zero_add] at e2
  have e3 := bl_at (l := g) (i := i) (by omega)
  rw [Int.zero_add] at e3
  obtain ⟨o1, o2⟩ := hr.ok i (by omega)
  have pf := position_fits_ok (mark := el marks i) (size := marks.length) (g := blAt g i) (hr.at_ i (by omega)) o1 o2
  unfold fitI at hf
  rw [hf] at pf
  refine .of ?_
  unfold b_Game_init_1 iEnv
  simp [e1, e2, e3, pf]
theorem i_bad (hm : SqP pm (marks.map .int)) (hr : Rws pr rl rows) (hn : rows.length = marks.length) (hg : g.length = marks.length) {i : Nat} (hi : i < marks.length) (hf : fitI marks rows g i = false) : ∃ ρ1, tgS (.nm 6) (.int (0 + (i : Int))) (iEnv x0 pm pr x3 marks.length g) = .ok ρ1 ∧ b_Game_init_1 ρ1 = .er (badG i) ((iEnv x0 pm pr x3 marks.length g).set 6 (some (.sh (.int (0 + (i : Int)))))) := by
  have e1 := hm.idx (k := 0 + (i : Int))
  rw [Int.zero_add, atI_map, el_at hi] at e1
  have e2 := hr.s.idx (k := 0 + (i : Int))
  rw [pv_at (by rw [hr.len]; omega), Int.zero_add] at e2
  have e3 := bl_at (l := g) (i := i) (by omega)
  rw [Int.zero_add] at e3
  obtain ⟨o1, o2⟩ := hr.ok i (by omega)
  have pf := position_fits_ok (mark := el marks i) (size := marks.length) (g := blAt g i) (hr.at_ i (by omega)) o1 o2
  unfold fitI at hf
  rw [hf] at pf
  refine ⟨_, rfl, ?_⟩
  unfold b_Game_init_1 iEnv badG
  simp [e1, e2, e3, pf]
end
end K00

end
section
/-! a game is made: the whole -/
namespace K00
open PySem L2 L3
local macro_rules | `(tactic| walk_at "d") => `(tactic| first | assumption | omega | (simp only [szl, repP_length, List.length_map, List.length_append, List.length_cons, List.length_nil, List.length_range, List.length_replicate, rngP_length, List.length_set]; omega) | exact Eq.refl _ | (simp; done) | decide)
def rowT (r : List Mv) : PV := .tup (r.map mvP)
def gmO (marks : List Int) (rows : List (List Mv)) (safe : List Int) : List (Str × OV) := [("size", .sh (.int marks.length)), ("marks", .sh (.tup (marks.map .int))), ("moves", .sh (.tup (rows.map rowT))), ("safe", .sh (.tup (safe.map .int))), ("_guarded", .sh (.tup ((gOf marks.length safe).map .bl)))]
theorem SqP.tup {p : PV} {l : List PV} (h : SqP p l) : bTuple [p] = .ok (.tup l) := by rcases h with rfl | rfl <;> rfl
section
variable {x0 x3 : Option OV} {pm pr ps : PV} {rl : List PV} {marks safe : List Int} {rows : List (List Mv)} {g : List Bool}
theorem row_lc (hr : Rws pr rl rows) (hl : rows.length ≤ 1000) {x1 x4 x5 x6 : Option OV} : fLc (.nm 7) [7] (iSeq (eVar 2)) tYesB c_Game_init_2 [x0, x1, some (.sh pr), x3, x4, x5, x6, none, none] = .ok (.own (rows.map fun r => .sh (rowT r))) := by
  have sq := hr.s.seq
  have e : rl = (List.range rows.length).map (pvAt rl) := by
    refine List.ext_getElem (by simp [hr.len]) fun i h1 h2 => ?_
    simp [pvAt, h1]
  have e2 : rows.map (fun r => OV.sh (rowT r)) = (List.range rows.length).map fun i => OV.sh (rowT (rowAt rows i)) := by
    refine List.ext_getElem (by simp) fun i h1 h2 => ?_
    have : i < rows.length := by simpa using h1
    simp [rowAt, this]
  refine fLc_at (ps := rl) (by simp [sq]) (by simp [szl, hr.len]; omega) ?_
  rw [e, e2]
  refine lcGo_map (f := pvAt rl) _ fun i hi => ?_
  have hi : i < rows.length := by simpa using hi
  have sr := (hr.at_ i hi).seq
  have lc : ∀ y0 y1 y2 y3 y4 y5 y6, fLc (.nm 8) [8] (iSeq (eVar 7)) tYesB c_Game_init_1 [y0, y1, y2, y3, y4, y5, y6, some (.sh (pvAt rl i)), none] = .ok (.own ((rowAt rows i).map fun m => .sh (mvP m))) := by
    intro y0 y1 y2 y3 y4 y5 y6
    refine fLc_at (ps := (rowAt rows i).map mvP) (by simp [sr]) (by have := (hr.ok i hi).2; simp [szl]; omega) ?_
    refine lcGo_map (f := mvP) _ fun m hm => ?_
    unfold c_Game_init_1
    have : bTuple [mvP m] = .ok (mvP m) := rfl
    simp [this]
  unfold c_Game_init_2
  simp [lc, rowT]
theorem init_ok (hm : SqP pm (marks.map .int)) (hr : Rws pr rl rows) (hs : SqP ps (safe.map .int)) (hn : rows.length = marks.length) (h1 : 1 ≤ marks.length) (h2 : marks.length ≤ 1000) (hg : gFit marks.length (-1) safe = true) (hf : ∀ i < marks.length, fitI marks rows (gOf marks.length safe) i = true) : F_Game_init [pm, pr, ps] = .ok (gmO marks rows safe) := by
  have lm := hm.len
  have lr := hr.s.len
  rw [List.length_map] at lm
  rw [hr.len, hn] at lr
  have gd := guards_ok hs h2 hg
  have lp := forGo_same (T := .nm 6) (fg := [6]) (fb := b_Game_init_1) (f := fun (k : Nat) => PV.int (0 + (k : Int))) (ρ := iEnv (some (.obj 7 [])) pm pr (some (.sh ps)) marks.length (gOf marks.length safe)) (List.range marks.length) fun i hi => by
    have hi : i < marks.length := by simpa using hi
    exact i_turn hm hr hn gOf_len hi (hf i hi)
  rw [← rngP_eq] at lp
  have rc := fun x0 x1 x3 x4 x5 x6 => row_lc (x0 := x0) (x3 := x3) (x1 := x1) (x4 := x4) (x5 := x5) (x6 := x6) hr (by omega)
  have tm := hm.tup
  have ts := hs.tup
  have c1 : ¬ (marks.length : Int) < 1 := by omega
  have c2 : ¬ (1000 : Int) < marks.length := by omega
  unfold iEnv at lp
  rw [F_Game_init_at]
  unfold s_Game_init
  simp (disch := walk_at "d") [lm, lr, gd, c1, c2, lp, rc, tm, ts]
  rfl
end
end K00

end
section
/-! a game is refused -/
namespace K00
open PySem L2 L3
local macro_rules | `(tactic| walk_at "d") => `(tactic| first | assumption | omega | (simp only [szl, repP_length, List.length_map, List.length_append, List.length_cons, List.length_nil, List.length_range, List.length_replicate, rngP_length, List.length_set]; omega) | exact Eq.refl _ | (simp; done) | decide)
theorem range_split {n k : Nat} (h : k < n) : List.range n = List.range k ++ k :: List.range' (k + 1) (n - k - 1) := by
  obtain ⟨m, rfl⟩ : ∃ m, n = k + (m + 1) := ⟨n - k - 1, by omega⟩
  rw [show k + (m + 1) - k - 1 = m by omega, List.range_eq_range', List.range_eq_range', ← List.range'_append_1, Nat.zero_add, List.range'_succ]
section
variable {pm pr ps : PV} {rl : List PV} {marks safe : List Int} {rows : List (List Mv)}
theorem init_size (hm : SqP pm (marks.map .int)) (hr : SqP pr rl) (h : marks.length < 1 ∨ 1000 < marks.length ∨ rl.length ≠ marks.length) : F_Game_init [pm, pr, ps] = .er (badG (-1)) := by
  have lm := hm.len
  have lr := hr.len
  rw [List.length_map] at lm
  have c : (decide ((marks.length : Int) < 1) || (decide ((1000 : Int) < marks.length) || !decide ((rl.length : Int) = marks.length))) = true := by
    rw [Bool.or_eq_true, Bool.or_eq_true, decide_eq_true_eq, decide_eq_true_eq, Bool.not_eq_true', decide_eq_false_iff_not]
    omega
  rw [F_Game_init_at]
  unfold s_Game_init badG
  by_cases c1 : (marks.length : Int) < 1
  · simp [lm, lr, c1]
  · by_cases c2 : (1000 : Int) < marks.length
    · simp [lm, lr, c1, c2]
    · have c3 : ¬ (rl.length : Int) = marks.length := by
        rw [decide_eq_false c1, decide_eq_false c2, Bool.false_or, Bool.false_or, Bool.not_eq_true', decide_eq_false_iff_not] at c
        exact c
      have c3' : ¬ rl.length = marks.length := by omega
      simp [lm, lr, c1, c2, c3]
theorem init_guard (hm : SqP pm (marks.map .int)) (hr : SqP pr rl) (hs : SqP ps (safe.map .int)) (hn : rl.length = marks.length) (h1 : 1 ≤ marks.length) (h2 : marks.length ≤ 1000) (hg : gFit marks.length (-1) safe = false) : F_Game_init [pm, pr, ps] = .er (badG (-1)) := by
  have lm := hm.len
  have lr := hr.len
  rw [List.length_map] at lm
  rw [hn] at lr
  have gd := guards_bad hs h2 hg
  have c1 : ¬ (marks.length : Int) < 1 := by omega
  have c2 : ¬ (1000 : Int) < marks.length := by omega
  unfold badG at gd ⊢
  rw [F_Game_init_at]
  unfold s_Game_init
  simp (disch := walk_at "d") [lm, lr, gd, c1, c2]
theorem init_fit (hm : SqP pm (marks.map .int)) (hr : Rws pr rl rows) (hs : SqP ps (safe.map .int)) (hn : rows.length = marks.length) (h2 : marks.length ≤ 1000) (hg : gFit marks.length (-1) safe = true) {k : Nat} (hk : k < marks.length) (hf : ∀ i < k, fitI marks rows (gOf marks.length safe) i = true) (hb : fitI marks rows (gOf marks.length safe) k = false) : F_Game_init [pm, pr, ps] = .er (badG k) := by
  have lm := hm.len
  have lr := hr.s.len
  rw [List.length_map] at lm
  rw [hr.len, hn] at lr
  have gd := guards_ok hs h2 hg
  have lp : forGo (.nm 6) [6] b_Game_init_1 (rngP 0 marks.length) (iEnv (some (.obj 7 [])) pm pr (some (.sh ps)) marks.length (gOf marks.length safe)) = .er (badG k) ((iEnv (some (.obj 7 [])) pm pr (some (.sh ps)) marks.length (gOf marks.length safe)).set 6 (some (.sh (.int (0 + (k : Int)))))) := by
    have e : rngP 0 marks.length = (List.range k).map (fun (j : Nat) => PV.int (0 + (j : Int))) ++ .int (0 + (k : Int)) :: (List.range' (k + 1) (marks.length - k - 1)).map (fun (j : Nat) => PV.int (0 + (j : Int))) := by
      rw [rngP_eq]
      have := range_split hk
      rw [this, List.map_append, List.map_cons]
    obtain ⟨ρ1, t1, t2⟩ := i_bad (x0 := some (.obj 7 [])) (x3 := some (.sh ps)) hm hr hn gOf_len hk hb
    have pre : ∀ (l : List Nat) (rest : List PV), (∀ i ∈ l, i < k) → forGo (.nm 6) [6] b_Game_init_1 (l.map (fun (j : Nat) => PV.int (0 + (j : Int))) ++ rest) (iEnv (some (.obj 7 [])) pm pr (some (.sh ps)) marks.length (gOf marks.length safe)) = forGo (.nm 6) [6] b_Game_init_1 rest (iEnv (some (.obj 7 [])) pm pr (some (.sh ps)) marks.length (gOf marks.length safe)) := by
      intro l rest
      induction l with
      | nil => intro _; rfl
      | cons a l ih =>
        intro h
        have ha := h a List.mem_cons_self
        rw [List.map_cons, List.cons_append, (i_turn hm hr hn gOf_len (by omega) (hf a ha)).go]
        exact ih fun i hi => h i (List.mem_cons_of_mem _ hi)
    rw [e, pre _ _ fun i hi => by simpa using hi]
    exact forGo_cons_er t1 t2
  have c1 : ¬ (marks.length : Int) < 1 := by omega
  have c2 : ¬ (1000 : Int) < marks.length := by omega
  unfold iEnv at lp
  unfold badG at lp ⊢
  rw [F_Game_init_at]
  unfold s_Game_init
  simp (disch := walk_at "d") [lm, lr, gd, c1, c2, lp]
end
end K00

end
section
/-! a game's answers -/
namespace K00
open PySem L2 L3
local macro_rules | `(tactic| walk_at "d") => `(tactic| first | assumption | omega | (simp only [szl, repP_length, List.length_map, List.length_append, List.length_cons, List.length_nil, List.length_range, List.length_replicate, rngP_length, List.length_set]; omega) | exact Eq.refl _ | (simp; done) | decide)
def gmF (marks : List Int) (rows : List (List Mv)) (safe : List Int) : List (Str × PV) := [("size", .int marks.length), ("marks", .tup (marks.map .int)), ("moves", .tup (rows.map rowT)), ("safe", .tup (safe.map .int)), ("_guarded", .tup ((gOf marks.length safe).map .bl))]
def gmP (marks : List Int) (rows : List (List Mv)) (safe : List Int) : PV := .ins 7 (gmF marks rows safe)
section
variable {marks safe : List Int} {rows : List (List Mv)}
theorem pvf_gm : OV.pvf (gmO marks rows safe) = gmF marks rows safe := by simp [gmO, gmF]
@[simp] theorem lk_size : List.lookup ("size" : Str) (gmF marks rows safe) = some (.int marks.length) := nr (by kernel_rfl)
@[simp] theorem lk_marks : List.lookup ("marks" : Str) (gmF marks rows safe) = some (.tup (marks.map .int)) := nr (by kernel_rfl)
@[simp] theorem lk_moves : List.lookup ("moves" : Str) (gmF marks rows safe) = some (.tup (rows.map rowT)) := nr (by kernel_rfl)
@[simp] theorem lk_safe : List.lookup ("safe" : Str) (gmF marks rows safe) = some (.tup (safe.map .int)) := nr (by kernel_rfl)
@[simp] theorem lk_guarded : List.lookup ("_guarded" : Str) (gmF marks rows safe) = some (.tup ((gOf marks.length safe).map .bl)) := nr (by kernel_rfl)
@[simp] theorem lk_checked : List.lookup ("checked" : Str) (gmF marks rows safe) = none := nr (by kernel_rfl)
def noPos (k : Int) : PX := ⟨4, [("position", .int k)]⟩
theorem checked_ok {i : Int} (h0 : 0 ≤ i) (h : i < marks.length) : F_Game_checked [gmP marks rows safe, .int i] = .ok (.sh (.int i)) := by
  have c1 : ¬ i < 0 := by omega
  have c2 : ¬ (marks.length : Int) ≤ i := by omega
  rw [F_Game_checked_at]
  unfold s_Game_checked gmP
  simp [c1, c2]
theorem mover_ok {i : Nat} (h : i < marks.length) : F_Game_mover [gmP marks rows safe, .int i] = .ok (.sh (.int (if el marks i = 1 ∨ el marks i = 2 then el marks i else 0))) := by
  have ck := checked_ok (marks := marks) (rows := rows) (safe := safe) (i := i) (by omega) (by omega)
  have e := el_at h
  unfold gmP at ck ⊢
  rw [F_Game_mover_at]
  unfold s_Game_mover
  by_cases c1 : el marks i = 1
  · simp [ck, atI_map, e, c1]
  · by_cases c2 : el marks i = 2
    · simp [ck, atI_map, e, c2]
    · simp [ck, atI_map, e, c1, c2]
theorem is_safe_ok {i : Nat} (h : i < marks.length) : F_Game_is_safe [gmP marks rows safe, .int i] = .ok (.sh (.bl (blAt (gOf marks.length safe) i))) := by
  have ck := checked_ok (marks := marks) (rows := rows) (safe := safe) (i := i) (by omega) (by omega)
  have e := bl_at (l := gOf marks.length safe) (i := i) (by rw [gOf_len]; omega)
  rw [Int.zero_add, atI_map] at e
  unfold gmP at ck ⊢
  rw [F_Game_is_safe_at]
  unfold s_Game_is_safe
  simp [ck, atI_map, e]
end
end K00

end
section
/-! outcomes -/
namespace K00
open PySem L2 L3
local macro_rules | `(tactic| walk_at "d") => `(tactic| first | assumption | omega | (simp only [szl, repP_length, List.length_map, List.length_append, List.length_cons, List.length_nil, List.length_range, List.length_replicate, rngP_length, List.length_set]; omega) | exact Eq.refl _ | (simp; done) | decide)
def endP (m : Int) : PV := if m = 3 then .int 1 else if m = 4 then .int 2 else if m = 5 then .int 0 else .non
section
variable {marks safe : List Int} {rows : List (List Mv)}
theorem end_tab {m : Int} (h : 1 ≤ m ∧ m ≤ 5) : atI [PV.non, .non, .non, .int 1, .int 2, .int 0] m = some (endP m) := by
  have : m = 1 ∨ m = 2 ∨ m = 3 ∨ m = 4 ∨ m = 5 := by omega
  rcases this with rfl | rfl | rfl | rfl | rfl <;> rfl
theorem ended_ok {i : Nat} (h : i < marks.length) (hm : 1 ≤ el marks i ∧ el marks i ≤ 5) : F_ended_outcome [gmP marks rows safe, .int i] = .ok (.sh (endP (el marks i))) := by
  have ck := checked_ok (marks := marks) (rows := rows) (safe := safe) (i := i) (by omega) (by omega)
  have e := el_at h
  have t := end_tab hm
  unfold gmP at ck ⊢
  rw [F_ended_outcome_at]
  unfold s_ended_outcome
  simp [ck, atI_map, e, t]
theorem checked_bad {i : Int} (h : i < 0 ∨ (marks.length : Int) ≤ i) : F_Game_checked [gmP marks rows safe, .int i] = .er (noPos i) := by
  have c : (decide (i < 0) || decide ((marks.length : Int) ≤ i)) = true := by simpa using h
  rw [F_Game_checked_at]
  unfold s_Game_checked gmP noPos
  simp [c]
end
end K00

end
section
/-! flags, amounts -/
namespace K00
open PySem L2 L3
local macro_rules | `(tactic| walk_at "d") => `(tactic| first | assumption | omega | (simp only [szl, repP_length, List.length_map, List.length_append, List.length_cons, List.length_nil, List.length_range, List.length_replicate, rngP_length, List.length_set]; omega) | exact Eq.refl _ | (simp; done) | decide)
def badAm (k : Int) : PX := ⟨1, [("amount", .int k)]⟩
theorem amount_ok {a : Int} (h0 : 0 ≤ a) (h1 : a ≤ 10 ^ 30) : F_checked_amount [.int a] = .ok (.sh (.int a)) := by
  have c1 : ¬ a < 0 := by omega
  have c2 : ¬ (1000000000000000000000000000000 : Int) < a := by omega
  rw [F_checked_amount_at]
  unfold s_checked_amount
  simp [c1, c2]
theorem amount_bad {a : Int} (h : a < 0 ∨ 10 ^ 30 < a) : F_checked_amount [.int a] = .er (badAm a) := by
  have c : (decide (a < 0) || decide ((1000000000000000000000000000000 : Int) < a)) = true := by simpa using h
  rw [F_checked_amount_at]
  unfold s_checked_amount badAm
  simp [c]
theorem side_ok {s : Int} (h : s = 1 ∨ s = 2) : F_other_side [.int s] = .ok (.sh (.int (3 - s))) := by
  rw [F_other_side_at]
  unfold s_other_side
  rcases h with rfl | rfl <;> simp
end K00

end
section
/-! a row of a game -/
namespace K00
open PySem L2 L3
local macro_rules | `(tactic| walk_at "d") => `(tactic| first | assumption | omega | (simp only [szl, repP_length, List.length_map, List.length_append, List.length_cons, List.length_nil, List.length_range, List.length_replicate, rngP_length, List.length_set]; omega) | exact Eq.refl _ | (simp; done) | decide)
section
variable {marks safe : List Int} {rows : List (List Mv)}
theorem row_at {i : Nat} (h : i < rows.length) : atI (rows.map rowT) (i : Int) = some (.tup ((rowAt rows i).map mvP)) := by
  rw [atI_map, atI_getD (d := []) h]
  rfl
def mvAt (r : List Mv) (j : Nat) : Mv := r.getD j ⟨[], 0, 0, 0⟩
theorem mv_at {r : List Mv} {j : Nat} (h : j < r.length) : atI (r.map mvP) (j : Int) = some (mvP (mvAt r j)) := by
  rw [atI_map, atI_getD (d := ⟨[], 0, 0, 0⟩) h]
  rfl
theorem flag_ok {i : Nat} (h : i < marks.length) (hm : el marks i = 1 ∨ el marks i = 2) : F_flag_outcome [gmP marks rows safe, .int i] = .ok (.sh (.int (if blAt (gOf marks.length safe) i = true then 0 else 3 - el marks i))) := by
  have mv := mover_ok (rows := rows) (safe := safe) h
  rw [if_pos hm] at mv
  have sf := is_safe_ok (rows := rows) (safe := safe) h
  have os := side_ok hm
  have c : ¬ el marks i = 0 := by omega
  unfold gmP at mv sf ⊢
  rw [F_flag_outcome_at]
  unfold s_flag_outcome
  cases q : blAt (gOf marks.length safe) i with
  | true => rw [q] at sf; simp [mv, sf, c, show List.lookup ("mover" : Str) (gmF marks rows safe) = none from nr (by kernel_rfl), show List.lookup ("is_safe" : Str) (gmF marks rows safe) = none from nr (by kernel_rfl)]
  | false => rw [q] at sf; simp [mv, sf, c, os, show List.lookup ("mover" : Str) (gmF marks rows safe) = none from nr (by kernel_rfl), show List.lookup ("is_safe" : Str) (gmF marks rows safe) = none from nr (by kernel_rfl)]
end
end K00

end
section
/-! allowed moves, the index of a word -/
namespace K00
open PySem L2 L3
local macro_rules | `(tactic| walk_at "d") => `(tactic| first | assumption | omega | (simp only [szl, repP_length, List.length_map, List.length_append, List.length_cons, List.length_nil, List.length_range, List.length_replicate, rngP_length, List.length_set]; omega) | exact Eq.refl _ | (simp; done) | decide)
section
variable {marks safe : List Int} {rows : List (List Mv)}
def allowed (r : List Mv) (a : Int) : List Nat := (List.range r.length).filter fun j => decide ((mvAt r j).n ≤ a)
theorem allowed_ok {i : Nat} {a : Int} (h : i < marks.length) (hr : rows.length = marks.length) (hl : (rowAt rows i).length ≤ 1000) (h0 : 0 ≤ a) (h1 : a ≤ 10 ^ 30) : F_allowed_moves [gmP marks rows safe, .int i, .int a] = .ok (.sh (.lst ((allowed (rowAt rows i) a).map fun (j : Nat) => .int j))) := by
  have ck := checked_ok (marks := marks) (rows := rows) (safe := safe) (i := i) (by omega) (by omega)
  have am := amount_ok h0 h1
  have ra := row_at (rows := rows) (i := i) (by omega)
  have lc : ∀ x0 x1, fLc (.nm 4) [4] (iRg rng1R (aCons (eB bLen (aCons (eVar 3) aNil)) aNil)) t_allowed_moves_1 c_allowed_moves_1 [x0, x1, some (.sh (.int a)), some (.sh (.tup ((rowAt rows i).map mvP))), none] = .ok (.own ((allowed (rowAt rows i) a).map fun (j : Nat) => .sh (.int j))) := by
    intro x0 x1
    refine fLc_at (ps := rngP 0 (rowAt rows i).length) (by simp (disch := walk_at "d")) (by simp [szl]; omega) ?_
    rw [rngP_eq]
    unfold allowed
    refine lcGo_filter (f := fun (k : Nat) => PV.int (0 + (k : Int))) _ (fun j hj => ?_) fun j hj hc => ?_
    · have hj : j < (rowAt rows i).length := by simpa using hj
      have e := mv_at hj
      unfold t_allowed_moves_1
      simp [e, mvP]
    · unfold c_allowed_moves_1
      simp
  unfold gmP at ck ⊢
  rw [F_allowed_moves_at]
  unfold s_allowed_moves
  simp [ck, am, ra, lc]
end
end K00

end
section
/-! the index of a word -/
namespace K00
open PySem L2 L3
local macro_rules | `(tactic| walk_at "d") => `(tactic| first | assumption | omega | (simp only [szl, repP_length, List.length_map, List.length_append, List.length_cons, List.length_nil, List.length_range, List.length_replicate, rngP_length, List.length_set]; omega) | exact Eq.refl _ | (simp; done) | decide)
def noMove (p : PV) : PX := ⟨5, [("move", p)]⟩
section
variable {marks safe : List Int} {rows : List (List Mv)}
theorem mover_bad {i : Int} (h : i < 0 ∨ (marks.length : Int) ≤ i) : F_Game_mover [gmP marks rows safe, .int i] = .er (noPos i) := by
  have ck := checked_bad (rows := rows) (safe := safe) h
  unfold gmP noPos at *
  rw [F_Game_mover_at]
  unfold s_Game_mover
  simp [ck]
theorem is_safe_bad {i : Int} (h : i < 0 ∨ (marks.length : Int) ≤ i) : F_Game_is_safe [gmP marks rows safe, .int i] = .er (noPos i) := by
  have ck := checked_bad (rows := rows) (safe := safe) h
  unfold gmP noPos at *
  rw [F_Game_is_safe_at]
  unfold s_Game_is_safe
  simp [ck]
theorem ended_bad {i : Int} (h : i < 0 ∨ (marks.length : Int) ≤ i) : F_ended_outcome [gmP marks rows safe, .int i] = .er (noPos i) := by
  have ck := checked_bad (rows := rows) (safe := safe) h
  unfold gmP noPos at *
  rw [F_ended_outcome_at]
  unfold s_ended_outcome
  simp [ck]
end
end K00

end
section
/-! a move is played -/
namespace K00
open PySem L2 L3
local macro_rules | `(tactic| walk_at "d") => `(tactic| first | assumption | omega | (simp only [szl, repP_length, List.length_map, List.length_append, List.length_cons, List.length_nil, List.length_range, List.length_replicate, rngP_length, List.length_set]; omega) | exact Eq.refl _ | (simp; done) | decide)
section
variable {marks safe : List Int} {rows : List (List Mv)}
theorem lk_mover : List.lookup ("mover" : Str) (gmF marks rows safe) = none := nr (by kernel_rfl)
theorem mv_sl {m : Mv} : slR (mvP m) (some 1) none = .ok (.tup [.int m.t, .int m.n, .int m.d]) := rfl
theorem play_bad {i : Int} {x y z : PV} (h : i < 0 ∨ (marks.length : Int) ≤ i) : F_play [gmP marks rows safe, .int i, x, y, z] = .er (noPos i) := by
  have ck := mover_bad (rows := rows) (safe := safe) h
  unfold gmP noPos at *
  rw [F_play_at]
  unfold s_play
  simp [ck, lk_mover]
end
end K00

end
section
/-! a move is played: the whole -/
namespace K00
open PySem L2 L3
local macro_rules | `(tactic| walk_at "d") => `(tactic| first | assumption | omega | (simp only [szl, repP_length, List.length_map, List.length_append, List.length_cons, List.length_nil, List.length_range, List.length_replicate, rngP_length, List.length_set]; omega) | exact Eq.refl _ | (simp; done) | decide)
section
variable {marks safe : List Int} {rows : List (List Mv)}
theorem play_amount {i : Nat} {x y z : Int} (h : i < marks.length) (hx : x < 0 ∨ 10 ^ 30 < x) : F_play [gmP marks rows safe, .int i, .int x, .int y, .int z] = .er (badAm x) := by
  have mv := mover_ok (rows := rows) (safe := safe) h
  have am := amount_bad hx
  unfold gmP badAm at *
  rw [F_play_at]
  unfold s_play
  simp [mv, am, lk_mover]
theorem play_amount2 {i : Nat} {x y z : Int} (h : i < marks.length) (hx0 : 0 ≤ x) (hx1 : x ≤ 10 ^ 30) (hy : y < 0 ∨ 10 ^ 30 < y) : F_play [gmP marks rows safe, .int i, .int x, .int y, .int z] = .er (badAm y) := by
  have mv := mover_ok (rows := rows) (safe := safe) h
  have ax := amount_ok hx0 hx1
  have am := amount_bad hy
  unfold gmP badAm at *
  rw [F_play_at]
  unfold s_play
  simp [mv, ax, am, lk_mover]
end
end K00

end
section
/-! a move that goes -/
namespace K00
open PySem L2 L3
local macro_rules | `(tactic| walk_at "d") => `(tactic| first | assumption | omega | (simp only [szl, repP_length, List.length_map, List.length_append, List.length_cons, List.length_nil, List.length_range, List.length_replicate, rngP_length, List.length_set]; omega) | exact Eq.refl _ | (simp; done) | decide)
section
variable {marks safe : List Int} {rows : List (List Mv)}
theorem play_move {i : Nat} {x y z : Int} (h : i < marks.length) (hr : rows.length = marks.length) (hx0 : 0 ≤ x) (hx1 : x ≤ 10 ^ 30) (hy0 : 0 ≤ y) (hy1 : y ≤ 10 ^ 30) (hz : z < 0 ∨ ((rowAt rows i).length : Int) ≤ z) : F_play [gmP marks rows safe, .int i, .int x, .int y, .int z] = .er (noMove (.int z)) := by
  have mv := mover_ok (rows := rows) (safe := safe) h
  have ax := amount_ok hx0 hx1
  have ay := amount_ok hy0 hy1
  have ra := row_at (rows := rows) (i := i) (by omega)
  have c : (decide (z < 0) || decide (((rowAt rows i).length : Int) ≤ z)) = true := by simpa using hz
  unfold gmP noMove at *
  rw [F_play_at]
  unfold s_play
  simp [mv, ax, ay, ra, c, lk_mover]
end
end K00

end
section
/-! a move that goes, or has no time -/
namespace K00
open PySem L2 L3
local macro_rules | `(tactic| walk_at "d") => `(tactic| first | assumption | omega | (simp only [szl, repP_length, List.length_map, List.length_append, List.length_cons, List.length_nil, List.length_range, List.length_replicate, rngP_length, List.length_set]; omega) | exact Eq.refl _ | (simp; done) | decide)
def noTime (k : Int) : PX := ⟨6, [("need", .int k)]⟩
section
variable {marks safe : List Int} {rows : List (List Mv)}
theorem play_time {i j : Nat} {x y : Int} (h : i < marks.length) (hr : rows.length = marks.length) (hx0 : 0 ≤ x) (hx1 : x ≤ 10 ^ 30) (hy0 : 0 ≤ y) (hy1 : y ≤ 10 ^ 30) (hj : j < (rowAt rows i).length) (hm : el marks i = 1 ∨ el marks i = 2) (hn : (if el marks i = 1 then x else y) < (mvAt (rowAt rows i) j).n) : F_play [gmP marks rows safe, .int i, .int x, .int y, .int j] = .er (noTime (mvAt (rowAt rows i) j).n) := by
  have mv := mover_ok (rows := rows) (safe := safe) h
  have ax := amount_ok hx0 hx1
  have ay := amount_ok hy0 hy1
  have ra := row_at (rows := rows) (i := i) (by omega)
  have ma := mv_at hj
  have sl := mv_sl (m := mvAt (rowAt rows i) j)
  have c1 : ¬ ((rowAt rows i).length ≤ j) := by omega
  have c2 : ¬ ((j : Int) < 0) := by omega
  generalize mvAt (rowAt rows i) j = m at *
  unfold gmP noTime at *
  rw [F_play_at]
  unfold s_play
  rw [if_pos hm] at mv
  rcases hm with c | c
  · rw [c] at mv hn
    rw [if_pos rfl] at hn
    simp [mv, ax, ay, ra, ma, sl, c1, c2, hn, lk_mover]
  · rw [c] at mv hn
    rw [if_neg (by omega)] at hn
    simp [mv, ax, ay, ra, ma, sl, c1, c2, hn, lk_mover]
end
end K00

end
section
/-! a move that goes -/
namespace K00
open PySem L2 L3
local macro_rules | `(tactic| walk_at "d") => `(tactic| first | assumption | omega | (simp only [szl, repP_length, List.length_map, List.length_append, List.length_cons, List.length_nil, List.length_range, List.length_replicate, rngP_length, List.length_set]; omega) | exact Eq.refl _ | (simp; done) | decide)
section
variable {marks safe : List Int} {rows : List (List Mv)}
@[simp] theorem lk_mover2 : List.lookup ("mover" : Str) (gmF marks rows safe) = none := lk_mover
theorem play_ok {i j : Nat} {x y : Int} (h : i < marks.length) (hr : rows.length = marks.length) (hx0 : 0 ≤ x) (hx1 : x ≤ 10 ^ 30) (hy0 : 0 ≤ y) (hy1 : y ≤ 10 ^ 30) (hj : j < (rowAt rows i).length) (hm : el marks i = 1 ∨ el marks i = 2) (hn : (mvAt (rowAt rows i) j).n ≤ (if el marks i = 1 then x else y)) : F_play [gmP marks rows safe, .int i, .int x, .int y, .int j] = .ok (.sh (.tup [.int (mvAt (rowAt rows i) j).t, .int (if el marks i = 1 then x - (mvAt (rowAt rows i) j).d else x), .int (if el marks i = 1 then y else y - (mvAt (rowAt rows i) j).d)])) := by
  have mv := mover_ok (rows := rows) (safe := safe) h
  have ax := amount_ok hx0 hx1
  have ay := amount_ok hy0 hy1
  have ra := row_at (rows := rows) (i := i) (by omega)
  have ma := mv_at hj
  have sl := mv_sl (m := mvAt (rowAt rows i) j)
  have c1 : ¬ ((rowAt rows i).length ≤ j) := by omega
  have c2 : ¬ ((j : Int) < 0) := by omega
  generalize mvAt (rowAt rows i) j = m at *
  unfold gmP at *
  rw [F_play_at]
  unfold s_play
  rw [if_pos hm] at mv
  rcases hm with c | c
  · rw [c] at mv hn ⊢
    rw [if_pos rfl] at hn
    have hn' : ¬ x < m.n := by omega
    simp (disch := walk_at "d") [mv, ax, ay, ra, ma, sl, c1, c2, hn', lk_mover]
  · rw [c] at mv hn ⊢
    rw [if_neg (by omega)] at hn
    have hn' : ¬ y < m.n := by omega
    simp (disch := walk_at "d") [mv, ax, ay, ra, ma, sl, c1, c2, hn', lk_mover]
end
end K00

end
section
/-! the index of a word -/
namespace K00
open PySem L2 L3
local macro_rules | `(tactic| walk_at "d") => `(tactic| first | assumption | omega | (simp only [szl, repP_length, List.length_map, List.length_append, List.length_cons, List.length_nil, List.length_range, List.length_replicate, rngP_length, List.length_set]; omega) | exact Eq.refl _ | (simp; done) | decide)
section
variable {marks safe : List Int} {rows : List (List Mv)}
theorem ix_turn {x0 x1 : Option OV} {w : List Nat} {r : List Mv} {j : Nat} (hj : j < r.length) (hn : (mvAt r j).w ≠ w) : Turn (.nm 4) [4] b_Game_index_of_1 (.int (0 + (j : Int))) [x0, x1, some (.sh (.str (mkS w))), some (.sh (.tup (r.map mvP))), none] [x0, x1, some (.sh (.str (mkS w))), some (.sh (.tup (r.map mvP))), none] := by
  have e := mv_at hj
  have n : ¬ mkS (mvAt r j).w = mkS w := fun z => hn (mkS_inj.mp z)
  refine .of ?_
  unfold b_Game_index_of_1
  simp [e, mvP, n]
end
end K00

end
section
/-! the index of a word: the whole -/
namespace K00
open PySem L2 L3
local macro_rules | `(tactic| walk_at "d") => `(tactic| first | assumption | omega | (simp only [szl, repP_length, List.length_map, List.length_append, List.length_cons, List.length_nil, List.length_range, List.length_replicate, rngP_length, List.length_set]; omega) | exact Eq.refl _ | (simp; done) | decide)
section
variable {marks safe : List Int} {rows : List (List Mv)}
theorem index_ok {i k : Nat} {w : List Nat} (h : i < marks.length) (hr : rows.length = marks.length) (hl : (rowAt rows i).length ≤ 1000) (hk : k < (rowAt rows i).length) (hw : (mvAt (rowAt rows i) k).w = w) (hno : ∀ j < k, (mvAt (rowAt rows i) j).w ≠ w) : F_Game_index_of [gmP marks rows safe, .int i, .str (mkS w)] = .ok (.sh (.int k)) := by
  have ck := checked_ok (marks := marks) (rows := rows) (safe := safe) (i := i) (by omega) (by omega)
  have ra := row_at (rows := rows) (i := i) (by omega)
  have lp : ∀ x0 x1, forGo (.nm 4) [4] b_Game_index_of_1 (rngP 0 (rowAt rows i).length) [x0, x1, some (.sh (.str (mkS w))), some (.sh (.tup ((rowAt rows i).map mvP))), none] = .rt (.sh (.int k)) := by
    intro x0 x1
    have e : rngP 0 (rowAt rows i).length = (List.range k).map (fun (j : Nat) => PV.int (0 + (j : Int))) ++ .int (0 + (k : Int)) :: (List.range' (k + 1) ((rowAt rows i).length - k - 1)).map (fun (j : Nat) => PV.int (0 + (j : Int))) := by
      rw [rngP_eq, range_split hk, List.map_append, List.map_cons]
    have pre : ∀ (l : List Nat) (rest : List PV), (∀ j ∈ l, j < k) → forGo (.nm 4) [4] b_Game_index_of_1 (l.map (fun (j : Nat) => PV.int (0 + (j : Int))) ++ rest) [x0, x1, some (.sh (.str (mkS w))), some (.sh (.tup ((rowAt rows i).map mvP))), none] = forGo (.nm 4) [4] b_Game_index_of_1 rest [x0, x1, some (.sh (.str (mkS w))), some (.sh (.tup ((rowAt rows i).map mvP))), none] := by
      intro l rest
      induction l with
      | nil => intro _; rfl
      | cons a l ih =>
        intro h
        have ha := h a List.mem_cons_self
        rw [List.map_cons, List.cons_append, (ix_turn (by omega) (hno a ha)).go]
        exact ih fun i hi => h i (List.mem_cons_of_mem _ hi)
    rw [e, pre _ _ fun i hi => by simpa using hi]
    refine forGo_cons_rt rfl ?_
    have e := mv_at hk
    unfold b_Game_index_of_1
    simp [e, mvP, hw]
  unfold gmP at ck ⊢
  rw [F_Game_index_of_at]
  unfold s_Game_index_of
  simp (disch := walk_at "d") [ck, ra, lp]
end
end K00

end
section
/-! no such word -/
namespace K00
open PySem L2 L3
local macro_rules | `(tactic| walk_at "d") => `(tactic| first | assumption | omega | (simp only [szl, repP_length, List.length_map, List.length_append, List.length_cons, List.length_nil, List.length_range, List.length_replicate, rngP_length, List.length_set]; omega) | exact Eq.refl _ | (simp; done) | decide)
section
variable {marks safe : List Int} {rows : List (List Mv)}
theorem index_none {i : Nat} {w : List Nat} (h : i < marks.length) (hr : rows.length = marks.length) (hl : (rowAt rows i).length ≤ 1000) (hno : ∀ j < (rowAt rows i).length, (mvAt (rowAt rows i) j).w ≠ w) : F_Game_index_of [gmP marks rows safe, .int i, .str (mkS w)] = .er (noMove (.str (mkS w))) := by
  have ck := checked_ok (marks := marks) (rows := rows) (safe := safe) (i := i) (by omega) (by omega)
  have ra := row_at (rows := rows) (i := i) (by omega)
  have lp : ∀ x0 x1, forGo (.nm 4) [4] b_Game_index_of_1 (rngP 0 (rowAt rows i).length) [x0, x1, some (.sh (.str (mkS w))), some (.sh (.tup ((rowAt rows i).map mvP))), none] = .nx [x0, x1, some (.sh (.str (mkS w))), some (.sh (.tup ((rowAt rows i).map mvP))), none] := by
    intro x0 x1
    rw [rngP_eq]
    refine forGo_same (f := fun (j : Nat) => PV.int (0 + (j : Int))) _ fun j hj => ?_
    have hj : j < (rowAt rows i).length := by simpa using hj
    exact ix_turn hj (hno j hj)
  unfold gmP noMove at *
  rw [F_Game_index_of_at]
  unfold s_Game_index_of
  simp (disch := walk_at "d") [ck, ra, lp]
theorem index_bad {i : Int} {p : PV} (h : i < 0 ∨ (marks.length : Int) ≤ i) : F_Game_index_of [gmP marks rows safe, .int i, p] = .er (noPos i) := by
  have ck := checked_bad (rows := rows) (safe := safe) h
  unfold gmP noPos at *
  rw [F_Game_index_of_at]
  unfold s_Game_index_of
  simp [ck]
theorem allowed_bad {i : Int} {p : PV} (h : i < 0 ∨ (marks.length : Int) ≤ i) : F_allowed_moves [gmP marks rows safe, .int i, p] = .er (noPos i) := by
  have ck := checked_bad (rows := rows) (safe := safe) h
  unfold gmP noPos at *
  rw [F_allowed_moves_at]
  unfold s_allowed_moves
  simp [ck]
theorem flag_bad {i : Int} (h : i < 0 ∨ (marks.length : Int) ≤ i) : F_flag_outcome [gmP marks rows safe, .int i] = .er (noPos i) := by
  have ck := mover_bad (rows := rows) (safe := safe) h
  unfold gmP noPos at *
  rw [F_flag_outcome_at]
  unfold s_flag_outcome
  simp [ck]
end
end K00

end
section
/-! what the law builds -/
namespace K00
open PySem L2 L3
local macro_rules | `(tactic| walk_at "d") => `(tactic| first | assumption | omega | (simp only [szl, repP_length, List.length_map, List.length_append, List.length_cons, List.length_nil, List.length_range, List.length_replicate, rngP_length, List.length_set]; omega) | exact Eq.refl _ | (simp; done) | decide)
def bN (ns : List Int) : List Int := nums (cell ns 0) 0 4 1000
def bSize (ns : List Int) : Nat := if el (bN ns) 1 % 8 = 1 then (9 + el (bN ns) 2 % 16).toNat else (1 + el (bN ns) 0 % 8).toNat
def bKinds (ns : List Int) : List Int := nums (cell ns 1) 1 (bSize ns) 72
def mkTab (k : Int) : Int := el [1, 2, 1, 2, 1, 2, 3, 4, 5] (k % 9).toNat
def bMarks (ns : List Int) : List Int := (bKinds ns).map mkTab
def bCount (ns : List Int) (i : Nat) : Nat := if el (bKinds ns) i / 9 % 8 = 7 ∧ i % 9 = 0 then 16 else (1 + el (bKinds ns) i / 9 % 4).toNat
def bParts (ns : List Int) (i : Nat) : List Int := nums (cell ns (2 + i % 5)) (20 + i) (3 * bCount ns i) (10 * bSize ns)
def mvOf (size : Int) (parts : List Int) (w : List Nat) (k : Nat) : Mv := ⟨w, el parts (3 * k + 2) % size, el parts (3 * k) % 10, el parts (3 * k + 1) % (el parts (3 * k) % 10 + 1)⟩
def bMv (ns : List Int) (i k : Nat) : Mv := mvOf (bSize ns) (bParts ns i) (wordL (cell ns (7 + i % 3)) (100 + i) k) k
def bRow (ns : List Int) (i : Nat) : List Mv := if el (bMarks ns) i < 3 then (List.range (bCount ns i)).map (bMv ns i) else []
def bRows (ns : List Int) : List (List Mv) := (List.range (bSize ns)).map (bRow ns)
def isSafe (ns : List Int) (i : Nat) : Bool := decide (el (bMarks ns) i < 3) && decide (el (bKinds ns) i % 7 = 3)
def bSafe (ns : List Int) : List Int := ((List.range (bSize ns)).filter (isSafe ns)).map fun (i : Nat) => (i : Int)
theorem bSize_rng {ns : List Int} : 1 ≤ bSize ns ∧ bSize ns ≤ 24 := by
  unfold bSize
  split <;> omega
theorem bKinds_len {ns : List Int} : (bKinds ns).length = bSize ns := nums_len (by omega)
theorem bMarks_len {ns : List Int} : (bMarks ns).length = bSize ns := by unfold bMarks; rw [List.length_map, bKinds_len]
theorem bRows_len {ns : List Int} : (bRows ns).length = bSize ns := by unfold bRows; rw [List.length_map, List.length_range]
theorem bCount_rng {ns : List Int} {i : Nat} : 1 ≤ bCount ns i ∧ bCount ns i ≤ 16 := by
  unfold bCount
  split <;> omega
theorem bParts_len {ns : List Int} {i : Nat} : (bParts ns i).length = 3 * bCount ns i := nums_len (by have := bSize_rng (ns := ns); omega)
theorem mvOf_turn {ns : List Int} {i k : Nat} {size : Int} {parts : List Int} {b : List Mv} {x1 x3 x4 x5 x6 x9 x15 : Option OV} (hs : 0 < size) (hk : 3 * k + 2 < parts.length) (hb : b.length < 1000) :
    Turn (.nm 11) [11, 12, 13, 14] b_p_law_build_1 (.int (0 + (k : Int))) [some (.sh (.scr (ns.map .int))), x1, some (.sh (.int size)), x3, x4, x5, x6, some (.sh (.int i)), some (.own (b.map fun m => .sh (mvP m))), x9, some (.sh (.lst (parts.map .int))), none, none, none, none, x15]
      [some (.sh (.scr (ns.map .int))), x1, some (.sh (.int size)), x3, x4, x5, x6, some (.sh (.int i)), some (.own ((b ++ [mvOf size parts (wordL (cell ns (7 + i % 3)) (100 + i) k) k]).map fun m => .sh (mvP m))), x9, some (.sh (.lst (parts.map .int))), none, none, none, none, x15] := by
  have e0 : atI parts (3 * (k : Int)) = some (el parts (3 * k)) := by
    have := el_at (l := parts) (i := 3 * k) (by omega)
    simpa using this
  have e1 : atI parts (3 * (k : Int) + 1) = some (el parts (3 * k + 1)) := by
    have := el_at (l := parts) (i := 3 * k + 1) (by omega)
    simpa using this
  have e2 : atI parts (3 * (k : Int) + 2) = some (el parts (3 * k + 2)) := by
    have := el_at (l := parts) (i := 3 * k + 2) (by omega)
    simpa using this
  have c := cellL (ns := ns) (7 + i % 3) (K := 7 + (i : Int) % 3) (by omega)
  have w := word_ok (c := cell ns (7 + i % 3)) (s := 100 + (i : Int)) (k := k)
  have lb : (b.map fun m => OV.sh (mvP m)).length < 16777216 := by simp; omega
  refine .of ?_
  unfold b_p_law_build_1
  simp (disch := walk_at "d") [e0, e1, e2, c, w, mvOf, mvP, mul_int_l]
end K00

end
section
/-! what the law builds: the loops -/
namespace K00
open PySem L2 L3
local macro_rules | `(tactic| walk_at "d") => `(tactic| first | assumption | omega | (simp only [szl, repP_length, List.length_map, List.length_append, List.length_cons, List.length_nil, List.length_range, List.length_replicate, rngP_length, List.length_set]; omega) | exact Eq.refl _ | (simp; done) | decide)
def fRow (ns : List Int) (i : Nat) (size : Int) (parts : List Int) (c : Nat) : List Mv := (List.range c).map fun (k : Nat) => mvOf size parts (wordL (cell ns (7 + i % 3)) (100 + i) k) k
theorem row_loop {ns : List Int} {i c : Nat} {size : Int} {parts : List Int} {x1 x3 x4 x5 x6 x9 x15 : Option OV} (hs : 0 < size) (hp : parts.length = 3 * c) (hc : c ≤ 16) :
    forGo (.nm 11) [11, 12, 13, 14] b_p_law_build_1 (rngP 0 c) [some (.sh (.scr (ns.map .int))), x1, some (.sh (.int size)), x3, x4, x5, x6, some (.sh (.int i)), some (.own []), x9, some (.sh (.lst (parts.map .int))), none, none, none, none, x15] = .nx
      [some (.sh (.scr (ns.map .int))), x1, some (.sh (.int size)), x3, x4, x5, x6, some (.sh (.int i)), some (.own ((fRow ns i size parts c).map fun m => .sh (mvP m))), x9, some (.sh (.lst (parts.map .int))), none, none, none, none, x15] := by
  have key := (forGo_foldN (T := .nm 11) (fg := [11, 12, 13, 14]) (fb := b_p_law_build_1) (f := fun (k : Nat) => PV.int (0 + (k : Int))) (fun (b : List Mv) => [some (.sh (.scr (ns.map .int))), x1, some (.sh (.int size)), x3, x4, x5, x6, some (.sh (.int i)), some (.own (b.map fun m => .sh (mvP m))), x9, some (.sh (.lst (parts.map .int))), none, none, none, none, x15]) (fun b k => b ++ [mvOf size parts (wordL (cell ns (7 + i % 3)) (100 + i) k) k]) (fun k b => b.length = k) (List.range c) 0 [] rfl fun j x b hx hb => by
    obtain ⟨hj, rfl⟩ := List.getElem?_eq_some_iff.mp hx
    rw [List.length_range] at hj
    refine ⟨by simp [hb], ?_⟩
    rw [List.getElem_range]
    exact mvOf_turn hs (by omega) (by omega)).1
  rw [← rngP_eq] at key
  rw [List.map_nil] at key
  rw [key]
  have e := foldl_app (f := fun k : Nat => [mvOf size parts (wordL (cell ns (7 + i % 3)) (100 + i) k) k]) (List.range c) []
  rw [e, List.nil_append]
  have e2 : (List.range c).flatMap (fun k : Nat => [mvOf size parts (wordL (cell ns (7 + i % 3)) (100 + i) k) k]) = fRow ns i size parts c := by
    unfold fRow
    generalize List.range c = l
    induction l with
    | nil => rfl
    | cons a l ih => rw [List.flatMap_cons, ih]; rfl
  rw [e2]
theorem fRow_eq {ns : List Int} {i : Nat} (h : el (bMarks ns) i < 3) : fRow ns i (bSize ns) (bParts ns i) (bCount ns i) = bRow ns i := by
  unfold bRow
  rw [if_pos h]
  rfl
/-- rows and safe positions so far -/
def bEnv (ns : List Int) (x1 : Option OV) (rows : List (List Mv)) (safe : List Int) : L3.Env := [some (.sh (.scr (ns.map .int))), x1, some (.sh (.int (bSize ns))), some (.sh (.lst ((bKinds ns).map .int))), some (.sh (.lst ((bMarks ns).map .int))), some (.own (rows.map fun r => .own (r.map fun m => .sh (mvP m)))), some (.own (safe.map fun s => .sh (.int s))), none, none, none, none, none, none, none, none, none]
theorem build_turn {ns : List Int} {x1 : Option OV} {rows : List (List Mv)} {safe : List Int} {i : Nat} (hi : i < bSize ns) (hr : rows.length < 1000) (hs : safe.length < 1000) :
    Turn (.nm 7) [7, 8, 9, 10, 11, 12, 13, 14] b_p_law_build_2 (.int (0 + (i : Int))) (bEnv ns x1 rows safe) (bEnv ns x1 (rows ++ [bRow ns i]) (if isSafe ns i = true then safe ++ [(i : Int)] else safe)) := by
  have sz := bSize_rng (ns := ns)
  have ek : atI (bKinds ns) (i : Int) = some (el (bKinds ns) i) := el_at (by rw [bKinds_len]; exact hi)
  have em : atI (bMarks ns) (i : Int) = some (el (bMarks ns) i) := el_at (by rw [bMarks_len]; exact hi)
  have l1 : (rows.map fun r => OV.own (r.map fun m => .sh (mvP m))).length < 16777216 := by simp; omega
  have l2 : (safe.map fun s => OV.sh (PV.int s)).length < 16777216 := by simp; omega
  refine .of ?_
  unfold b_p_law_build_2 bEnv
  by_cases hm : el (bMarks ns) i < 3
  · have c := cellL (ns := ns) (2 + i % 5) (K := 2 + (i : Int) % 5) (by omega)
    have hb := bCount_rng (ns := ns) (i := i)
    have np := nums_ok' (c := cell ns (2 + i % 5)) (s := 20 + (i : Int)) (N := 3 * (bCount ns i : Int)) (n := 3 * bCount ns i) (m := 10 * (bSize ns : Int)) (by omega) (by omega) (by omega) (by omega)
    have fp : nums (cell ns (2 + i % 5)) (20 + (i : Int)) (3 * bCount ns i) (10 * (bSize ns : Int)) = bParts ns i := rfl
    rw [fp] at np
    have lp := fun x9 => row_loop (ns := ns) (i := i) (c := bCount ns i) (size := bSize ns) (parts := bParts ns i) (x1 := x1) (x3 := some (.sh (.lst ((bKinds ns).map .int)))) (x4 := some (.sh (.lst ((bMarks ns).map .int)))) (x5 := some (.own (rows.map fun r => .own (r.map fun m => .sh (mvP m))))) (x6 := some (.own (safe.map fun s => .sh (.int s)))) (x9 := x9) (x15 := none) (by omega) bParts_len hb.2
    rw [fRow_eq hm] at lp
    have hs1 : isSafe ns i = decide (el (bKinds ns) i % 7 = 3) := by unfold isSafe; rw [decide_eq_true hm, Bool.true_and]
    by_cases c16 : el (bKinds ns) i / 9 % 8 = 7 ∧ i % 9 = 0
    · have cb : bCount ns i = 16 := if_pos c16
      rw [cb, show (3 * ((16 : Nat) : Int)) = 48 from rfl] at np
      rw [cb] at lp
      have c2 : (i : Int) % 9 = 0 := by omega
      by_cases hsf : el (bKinds ns) i % 7 = 3
      · rw [hs1, decide_eq_true hsf]
        simp (disch := walk_at "d") [ek, em, hm, c, np, lp, c16.1, c2, hsf]
      · rw [hs1, decide_eq_false hsf]
        simp (disch := walk_at "d") [ek, em, hm, c, np, lp, c16.1, c2, hsf]
    · have cb : (bCount ns i : Int) = 1 + el (bKinds ns) i / 9 % 4 := by unfold bCount; rw [if_neg c16]; omega
      have c2 : (decide (el (bKinds ns) i / 9 % 8 = 7) && decide ((i : Int) % 9 = 0)) = false := by
        rw [Bool.and_eq_false_iff, decide_eq_false_iff_not, decide_eq_false_iff_not]
        omega
      have lp' := lp
      rw [show rngP 0 (bCount ns i) = rngP 0 (1 + el (bKinds ns) i / 9 % 4).toNat by rw [← cb]; rfl] at lp'
      rw [cb] at np
      by_cases hsf : el (bKinds ns) i % 7 = 3
      · rw [hs1, decide_eq_true hsf]
        simp (disch := walk_at "d") [ek, em, hm, c, np, lp', c2, hsf]
      · rw [hs1, decide_eq_false hsf]
        simp (disch := walk_at "d") [ek, em, hm, c, np, lp', c2, hsf]
  · have hs0 : isSafe ns i = false := by unfold isSafe; rw [decide_eq_false hm, Bool.false_and]
    have hr0 : bRow ns i = [] := if_neg hm
    rw [hs0, hr0]
    simp (disch := walk_at "d") [ek, em, hm]
end K00

end
section
/-! what the law builds: the whole -/
namespace K00
open PySem L2 L3
local macro_rules | `(tactic| walk_at "d") => `(tactic| first | assumption | omega | (simp only [szl, repP_length, List.length_map, List.length_append, List.length_cons, List.length_nil, List.length_range, List.length_replicate, rngP_length, List.length_set]; omega) | exact Eq.refl _ | (simp; done) | decide)
def lMoves (rows : List (List Mv)) : PV := .lst (rows.map fun r => .lst (r.map mvP))
theorem build_loop {ns : List Int} {x1 : Option OV} : forGo (.nm 7) [7, 8, 9, 10, 11, 12, 13, 14] b_p_law_build_2 (rngP 0 (bSize ns)) (bEnv ns x1 [] []) = .nx (bEnv ns x1 (bRows ns) (bSafe ns)) := by
  have sz := bSize_rng (ns := ns)
  have key := forGo_foldN (T := .nm 7) (fg := [7, 8, 9, 10, 11, 12, 13, 14]) (fb := b_p_law_build_2) (f := fun (k : Nat) => PV.int (0 + (k : Int))) (fun (b : List (List Mv) × List Int) => bEnv ns x1 b.1 b.2) (fun b i => (b.1 ++ [bRow ns i], if isSafe ns i = true then b.2 ++ [(i : Int)] else b.2)) (fun k b => b.1 = (List.range k).map (bRow ns) ∧ b.2 = ((List.range k).filter (isSafe ns)).map fun (i : Nat) => (i : Int)) (List.range (bSize ns)) 0 ([], []) ⟨rfl, rfl⟩ fun j x b hx ⟨h1, h2⟩ => by
    obtain ⟨hj, rfl⟩ := List.getElem?_eq_some_iff.mp hx
    rw [List.length_range] at hj
    rw [List.getElem_range]
    rw [Nat.zero_add] at h1 h2
    refine ⟨⟨?_, ?_⟩, build_turn hj (by rw [h1]; simp; omega) ?_⟩
    · dsimp only
      rw [Nat.zero_add, List.range_succ, List.map_append, ← h1]
      rfl
    · dsimp only
      rw [Nat.zero_add, List.range_succ, List.filter_append, List.map_append, ← h2]
      by_cases c : isSafe ns j = true
      · simp [c]
      · simp [c]
    · rw [h2, List.length_map]
      have := List.length_filter_le (isSafe ns) (List.range j)
      rw [List.length_range] at this
      omega
  rw [rngP_eq, key.1]
  have h1 := key.2.1
  have h2 := key.2.2
  rw [Nat.zero_add, List.length_range] at h1 h2
  rw [h1, h2]
  rfl
theorem tab_rng {k : Int} : 1 ≤ mkTab k ∧ mkTab k ≤ 5 := by
  unfold mkTab
  have : (k % 9).toNat = 0 ∨ (k % 9).toNat = 1 ∨ (k % 9).toNat = 2 ∨ (k % 9).toNat = 3 ∨ (k % 9).toNat = 4 ∨ (k % 9).toNat = 5 ∨ (k % 9).toNat = 6 ∨ (k % 9).toNat = 7 ∨ (k % 9).toNat = 8 := by omega
  rcases this with h | h | h | h | h | h | h | h | h <;> rw [h] <;> decide
theorem marks_lc {ns : List Int} {x0 x1 x2 x5 x6 x7 x8 x9 x10 x11 x12 x13 x14 : Option OV} : fLc (.nm 15) [15] (iSeq (eVar 3)) tYesB c_p_law_build_1 [x0, x1, x2, some (.sh (.lst ((bKinds ns).map .int))), none, x5, x6, x7, x8, x9, x10, x11, x12, x13, x14, none] = .ok (.own ((bMarks ns).map fun m => .sh (.int m))) := by
  refine fLc_at (ps := (bKinds ns).map .int) (by simp) (by have := bSize_rng (ns := ns); simp [szl, bKinds_len]; omega) ?_
  unfold bMarks
  rw [List.map_map]
  refine lcGo_map (f := PV.int) _ fun k hk => ?_
  have e : atI [PV.int 1, .int 2, .int 1, .int 2, .int 1, .int 2, .int 3, .int 4, .int 5] (k % 9) = some (.int (mkTab k)) := by
    have := el_atI (l := [1, 2, 1, 2, 1, 2, 3, 4, 5]) (i := k % 9) (by omega) (by simp; omega)
    have m := atI_map (f := PV.int) (l := [1, 2, 1, 2, 1, 2, 3, 4, 5]) (a := k % 9)
    rw [this] at m
    exact m
  unfold c_p_law_build_1
  simp (disch := walk_at "d") [e]
theorem build_ok {ns : List Int} : F_p_law_build [.scr (ns.map .int)] = .ok (.sh (.lst [.lst ((bMarks ns).map .int), lMoves (bRows ns), .lst ((bSafe ns).map .int)])) := by
  have sz := bSize_rng (ns := ns)
  have c0 := cellL (ns := ns) 0 (K := 0) rfl
  have c1 := cellL (ns := ns) 1 (K := 1) rfl
  have n0 := nums_ok' (c := cell ns 0) (s := 0) (N := 4) (n := 4) (m := 1000) rfl (by omega) (by omega) (by omega)
  have f0 : nums (cell ns 0) 0 4 1000 = bN ns := rfl
  rw [f0] at n0
  have l0 : (bN ns).length = 4 := nums_len (by omega)
  have a0 : atI (bN ns) 0 = some (el (bN ns) 0) := el_at (l := bN ns) (i := 0) (by omega)
  have a1 : atI (bN ns) 1 = some (el (bN ns) 1) := el_at (l := bN ns) (i := 1) (by omega)
  have a2 : atI (bN ns) 2 = some (el (bN ns) 2) := el_at (l := bN ns) (i := 2) (by omega)
  have n1 := nums_ok' (c := cell ns 1) (s := 1) (N := bSize ns) (n := bSize ns) (m := 72) rfl (by omega) (by omega) (by omega)
  have f1 : nums (cell ns 1) 1 (bSize ns) 72 = bKinds ns := rfl
  rw [f1] at n1
  have lc := fun x0 x1 x2 x5 x6 x7 x8 x9 x10 x11 x12 x13 x14 => marks_lc (ns := ns) (x0 := x0) (x1 := x1) (x2 := x2) (x5 := x5) (x6 := x6) (x7 := x7) (x8 := x8) (x9 := x9) (x10 := x10) (x11 := x11) (x12 := x12) (x13 := x13) (x14 := x14)
  have lp := fun x1 => build_loop (ns := ns) (x1 := x1)
  unfold bEnv at lp
  simp only [List.map_nil] at lp
  unfold lMoves
  rw [F_p_law_build_at]
  unfold s_p_law_build
  by_cases c : el (bN ns) 1 % 8 = 1
  · have e : 9 + el (bN ns) 2 % 16 = (bSize ns : Int) := by unfold bSize; rw [if_pos c]; omega
    simp (disch := walk_at "d") [c0, c1, n0, a0, a1, a2, c, e, n1, lc, lp]
  · have e : 1 + el (bN ns) 0 % 8 = (bSize ns : Int) := by unfold bSize; rw [if_neg c]; omega
    simp (disch := walk_at "d") [c0, c1, n0, a0, a1, a2, c, e, n1, lc, lp]
end K00

end
section
/-! a good game -/
namespace K00
open PySem L2 L3
local macro_rules | `(tactic| walk_at "d") => `(tactic| first | assumption | omega | (simp only [szl, repP_length, List.length_map, List.length_append, List.length_cons, List.length_nil, List.length_range, List.length_replicate, rngP_length, List.length_set]; omega) | exact Eq.refl _ | (simp; done) | decide)
/-- what a move must be by itself -/
def okB (size : Int) (m : Mv) : Bool := isW m.w && (!(decide (m.t < 0) || decide (size ≤ m.t)) && !(decide (m.d < 0) || (decide (m.n < m.d) || decide (9 < m.n))))
theorem okM_iff {size : Int} {seen : List (List Nat)} {m : Mv} : okM size seen m = (okB size m && !decide (m.w ∈ seen)) := by
  unfold okM okB
  cases isW m.w <;> cases decide (m.w ∈ seen) <;> simp
theorem fitM_of {size : Int} : ∀ (l : List Mv) (seen : List (List Nat)), (∀ m ∈ l, okB size m = true) → (∀ m ∈ l, m.w ∉ seen) → (l.map (·.w)).Nodup → fitM size seen l = true
  | [], _, _, _, _ => rfl
  | m :: l, seen, h1, h2, h3 => by
    rw [List.map_cons, List.nodup_cons] at h3
    rw [fitM, okM_iff, h1 m List.mem_cons_self, decide_eq_false (h2 m List.mem_cons_self), Bool.not_false, Bool.true_and, Bool.true_and]
    refine fitM_of l _ (fun x hx => h1 x (List.mem_cons_of_mem _ hx)) (fun x hx z => ?_) h3.2
    rcases List.mem_append.mp z with z | z
    · exact h2 x (List.mem_cons_of_mem _ hx) z
    · rw [List.mem_singleton] at z
      exact h3.1 (z ▸ List.mem_map_of_mem (f := (·.w)) hx)
theorem fitM_bad {size : Int} : ∀ (l : List Mv) (seen : List (List Nat)), (∃ m ∈ l, okB size m = false) → fitM size seen l = false
  | [], _, h => by obtain ⟨m, hm, _⟩ := h; cases hm
  | m :: l, seen, h => by
    rw [fitM, okM_iff]
    obtain ⟨x, hx, e⟩ := h
    rcases List.mem_cons.mp hx with rfl | hx
    · rw [e]; rfl
    · rw [fitM_bad l _ ⟨x, hx, e⟩, Bool.and_false]
theorem fitM_seen {size : Int} : ∀ (l : List Mv) (seen : List (List Nat)) (m : Mv), m.w ∈ seen ∨ (∃ x ∈ l, x.w = m.w) → fitM size seen (l ++ [m]) = false
  | [], seen, m, h => by
    rcases h with h | ⟨x, hx, _⟩
    · rw [List.nil_append, fitM, okM_iff, decide_eq_true h]
      simp
    · cases hx
  | x :: l, seen, m, h => by
    rw [List.cons_append, fitM]
    have : fitM size (seen ++ [x.w]) (l ++ [m]) = false := by
      refine fitM_seen l _ m ?_
      rcases h with h | ⟨y, hy, e⟩
      · exact .inl (List.mem_append_left _ h)
      · rcases List.mem_cons.mp hy with rfl | hy
        · exact .inl (List.mem_append_right _ (by rw [List.mem_singleton]; exact e.symm))
        · exact .inr ⟨y, hy, e⟩
    rw [this, Bool.and_false]
/-- a good game -/
structure Gd (marks : List Int) (rows : List (List Mv)) (safe : List Int) : Prop where
  n1 : 1 ≤ marks.length
  n2 : marks.length ≤ 1000
  nr : rows.length = marks.length
  mr : ∀ i < marks.length, 1 ≤ el marks i ∧ el marks i ≤ 5
  rl : ∀ i < marks.length, el marks i < 3 → 1 ≤ (rowAt rows i).length ∧ (rowAt rows i).length ≤ 16
  ok : ∀ i < marks.length, el marks i < 3 → ∀ m ∈ rowAt rows i, okB marks.length m = true
  nd : ∀ i < marks.length, el marks i < 3 → ((rowAt rows i).map (·.w)).Nodup
  en : ∀ i < marks.length, ¬ el marks i < 3 → rowAt rows i = []
  sf : gFit marks.length (-1) safe = true
  se : ∀ i < marks.length, (i : Int) ∈ safe → el marks i < 3
theorem isW_chr {l : List Nat} (h : isW l = true) : Chr l ∧ l.length ≤ 8 ∧ 1 ≤ l.length := by
  unfold isW at h
  rw [Bool.and_eq_true, Bool.and_eq_true, decide_eq_true_eq, decide_eq_true_eq, List.all_eq_true] at h
  exact ⟨fun c hc => .inl (of_decide_eq_true (h.2.2 c hc)), h.2.1, h.1⟩
theorem okB_W {size : Int} {m : Mv} (h : okB size m = true) : isW m.w = true := by
  unfold okB at h
  rw [Bool.and_eq_true] at h
  exact h.1
theorem okB_rng {size : Int} {m : Mv} (h : okB size m = true) : 0 ≤ m.t ∧ m.t < size ∧ 0 ≤ m.d ∧ m.d ≤ m.n ∧ m.n ≤ 9 := by
  unfold okB at h
  simp at h
  omega
section
variable {marks safe : List Int} {rows : List (List Mv)}
theorem Gd.fit (g : Gd marks rows safe) {i : Nat} (hi : i < marks.length) (hm : el marks i < 3) : fitR marks.length (rowAt rows i) = true := by
  obtain ⟨h1, h2⟩ := g.rl i hi hm
  unfold fitR
  rw [decide_eq_false (by omega), decide_eq_false (by omega), fitM_of _ _ (g.ok i hi hm) (fun _ _ => List.not_mem_nil) (g.nd i hi hm)]
  rfl
theorem Gd.chr (g : Gd marks rows safe) {i : Nat} (hi : i < marks.length) : okChr (rowAt rows i) ∧ (rowAt rows i).length ≤ 16 := by
  by_cases hm : el marks i < 3
  · refine ⟨fun m h => ?_, (g.rl i hi hm).2⟩
    obtain ⟨h1, h2, _⟩ := isW_chr (okB_W (g.ok i hi hm m h))
    exact ⟨h1, by omega⟩
  · rw [g.en i hi hm]
    exact ⟨fun m h => (by cases h), by simp⟩
end
end K00

end
section
/-! what the law builds is a good game -/
namespace K00
open PySem L2 L3
local macro_rules | `(tactic| walk_at "d") => `(tactic| first | assumption | omega | (simp only [szl, repP_length, List.length_map, List.length_append, List.length_cons, List.length_nil, List.length_range, List.length_replicate, rngP_length, List.length_set]; omega) | exact Eq.refl _ | (simp; done) | decide)
theorem bl_set {b : List Bool} {j i : Nat} (hj : j < b.length) : blAt (b.set j true) i = if i = j then true else blAt b i := by
  unfold blAt
  simp only [List.getD_eq_getElem?_getD, List.getElem?_set]
  by_cases h : i = j
  · subst h
    simp [hj]
  · have h' : ¬ j = i := fun z => h z.symm
    simp [h, h']
theorem gSet_at {n : Nat} : ∀ (l : List Int) (b : List Bool) (last : Int), b.length = n → -1 ≤ last → gFit n last l = true → ∀ i, blAt (gSet b l) i = (blAt b i || decide ((i : Int) ∈ l))
  | [], b, last, hb, hl, h, i => by
    show blAt b i = _
    simp
  | x :: l, b, last, hb, hl, h, i => by
    unfold gFit at h
    rw [Bool.and_eq_true, Bool.not_eq_true', Bool.or_eq_false_iff, decide_eq_false_iff_not, decide_eq_false_iff_not] at h
    obtain ⟨⟨h1, h2⟩, h3⟩ := h
    show blAt (gSet (b.set x.toNat true) l) i = _
    rw [gSet_at l _ x (by rw [List.length_set]; exact hb) (by omega) h3 i, bl_set (by omega)]
    by_cases c : i = x.toNat
    · have e : (i : Int) = x := by omega
      rw [if_pos c]
      simp [e]
    · have e : ¬ (i : Int) = x := by omega
      rw [if_neg c]
      simp [e]
theorem gOf_at {n : Nat} {l : List Int} (h : gFit n (-1) l = true) (i : Nat) : blAt (gOf n l) i = decide ((i : Int) ∈ l) := by
  unfold gOf
  rw [gSet_at l _ (-1) (by simp) (by omega) h i]
  have : blAt (List.replicate n false) i = false := by
    unfold blAt
    rw [List.getD_eq_getElem?_getD]
    by_cases c : i < n
    · simp [c]
    · simp [c]
  rw [this, Bool.false_or]
theorem gFit_range {size : Int} {p : Nat → Bool} : ∀ (n a : Nat) (last : Int), last < a → (a : Int) + n ≤ size → gFit size last (((List.range' a n).filter p).map fun (i : Nat) => (i : Int)) = true
  | 0, a, last, _, _ => rfl
  | n + 1, a, last, h1, h2 => by
    rw [List.range'_succ, List.filter_cons]
    split
    · rw [List.map_cons, gFit, decide_eq_false (by omega), decide_eq_false (by omega), gFit_range n (a + 1) a (by omega) (by omega)]
      rfl
    · exact gFit_range n (a + 1) last (by omega) (by omega)
section
variable {ns : List Int}
theorem bMarks_at {i : Nat} (h : i < bSize ns) : el (bMarks ns) i = mkTab (el (bKinds ns) i) := by
  unfold bMarks
  have hk : i < (bKinds ns).length := by rw [bKinds_len]; exact h
  rw [el_of (by rw [List.length_map]; exact hk), List.getElem_map, el_of hk]
theorem bRows_at {i : Nat} (h : i < bSize ns) : rowAt (bRows ns) i = bRow ns i := by
  unfold rowAt bRows
  simp [List.getD_eq_getElem?_getD, h]
theorem bMv_ok {i k : Nat} : okB (bSize ns) (bMv ns i k) = true := by
  have sz := bSize_rng (ns := ns)
  have w : isW (wordL (cell ns (7 + i % 3)) (100 + i) k) = true := wordN_isW
  unfold okB bMv mvOf
  dsimp only
  rw [w]
  have t1 := Int.emod_nonneg (el (bParts ns i) (3 * k + 2)) (show (bSize ns : Int) ≠ 0 by omega)
  have t2 := Int.emod_lt_of_pos (el (bParts ns i) (3 * k + 2)) (show (0 : Int) < bSize ns by omega)
  have d1 := Int.emod_nonneg (el (bParts ns i) (3 * k + 1)) (show el (bParts ns i) (3 * k) % 10 + 1 ≠ 0 by omega)
  have d2 := Int.emod_lt_of_pos (el (bParts ns i) (3 * k + 1)) (show (0 : Int) < el (bParts ns i) (3 * k) % 10 + 1 by omega)
  rw [decide_eq_false (by omega), decide_eq_false (by omega), decide_eq_false (by omega), decide_eq_false (by omega), decide_eq_false (by omega)]
  rfl
theorem b_good : Gd (bMarks ns) (bRows ns) (bSafe ns) := by
  have sz := bSize_rng (ns := ns)
  have ml := bMarks_len (ns := ns)
  refine ⟨by omega, by omega, by rw [bRows_len, ml], fun i hi => ?_, fun i hi hm => ?_, fun i hi hm m hx => ?_, fun i hi hm => ?_, fun i hi hm => ?_, ?_, fun i hi hm => ?_⟩
  · rw [bMarks_at (by omega)]
    exact tab_rng
  · rw [bRows_at (by omega)]
    unfold bRow
    rw [if_pos hm, List.length_map, List.length_range]
    exact bCount_rng
  · rw [bRows_at (by omega)] at hx
    unfold bRow at hx
    rw [if_pos hm] at hx
    obtain ⟨k, _, rfl⟩ := List.mem_map.mp hx
    rw [ml]
    exact bMv_ok
  · rw [bRows_at (by omega)]
    unfold bRow
    rw [if_pos hm, List.map_map]
    refine List.pairwise_map.mpr (List.Pairwise.imp_of_mem ?_ (List.nodup_range (n := bCount ns i)))
    intro a b ha hb hab e
    have ha : a < bCount ns i := by simpa using ha
    have hb : b < bCount ns i := by simpa using hb
    have := bCount_rng (ns := ns) (i := i)
    have := wordN_inj (show wordN (nums (cell ns (7 + i % 3)) (100 + i) 9 252) a = wordN (nums (cell ns (7 + i % 3)) (100 + i) 9 252) b from e) (by omega) (by omega) (by omega) (by omega)
    omega
  · rw [bRows_at (by omega)]
    unfold bRow
    rw [if_neg hm]
  · rw [ml]
    unfold bSafe
    rw [List.range_eq_range']
    exact gFit_range _ 0 (-1) (by omega) (by omega)
  · unfold bSafe at hm
    obtain ⟨j, hj, e⟩ := List.mem_map.mp hm
    have e : j = i := by omega
    subst e
    have := (List.mem_filter.mp hj).2
    unfold isSafe at this
    rw [Bool.and_eq_true, decide_eq_true_eq] at this
    exact this.1
end
end K00

end
section
/-! a good game is made; equality -/
namespace K00
open PySem L2 L3
local macro_rules | `(tactic| walk_at "d") => `(tactic| first | assumption | omega | (simp only [szl, repP_length, List.length_map, List.length_append, List.length_cons, List.length_nil, List.length_range, List.length_replicate, rngP_length, List.length_set]; omega) | exact Eq.refl _ | (simp; done) | decide)
section
variable {marks safe : List Int} {rows : List (List Mv)}
theorem Gd.fitI (g : Gd marks rows safe) {sf : List Int} (hs : gFit marks.length (-1) sf = true) {i : Nat} (hi : i < marks.length) (hn : (i : Int) ∈ sf → el marks i < 3) : fitI marks rows (gOf marks.length sf) i = true := by
  unfold K00.fitI fitP
  have := g.mr i hi
  by_cases hm : el marks i < 3
  · rw [if_pos (by omega)]
    exact g.fit hi hm
  · rw [if_neg (by omega), if_pos (by omega), g.en i hi hm, gOf_at hs, decide_eq_false fun z => hm (hn z)]
    rfl
theorem rws_lst (g : Gd marks rows safe) : Rws (lMoves rows) (rows.map fun r => .lst (r.map mvP)) rows := by
  refine ⟨.inl rfl, by simp, fun i hi => .inl ?_, fun i hi => ?_⟩
  · unfold pvAt rowAt
    simp [List.getD_eq_getElem?_getD, hi]
  · have := g.chr (i := i) (by rw [← g.nr]; exact hi)
    exact ⟨this.1, by omega⟩
theorem rws_tup (g : Gd marks rows safe) : Rws (.tup (rows.map rowT)) (rows.map rowT) rows := by
  refine ⟨.inr rfl, by simp, fun i hi => .inr ?_, fun i hi => ?_⟩
  · unfold pvAt rowAt rowT
    simp [List.getD_eq_getElem?_getD, hi]
  · have := g.chr (i := i) (by rw [← g.nr]; exact hi)
    exact ⟨this.1, by omega⟩
/-- a good game is made, of lists and of tuples alike -/
theorem Gd.made (g : Gd marks rows safe) {pm pr ps : PV} {rl : List PV} (hm : SqP pm (marks.map .int)) (hr : Rws pr rl rows) (hs : SqP ps (safe.map .int)) : F_Game_init [pm, pr, ps] = .ok (gmO marks rows safe) :=
  init_ok hm hr hs g.nr g.n1 g.n2 g.sf fun i hi => g.fitI g.sf hi (g.se i hi)
theorem flat_ints {l : List Int} : (PV.tup (l.map .int)).flat = true := by
  rw [pvflat_tup]
  exact pvflats_map fun x _ => by simp
theorem flat_bls {l : List Bool} : (PV.tup (l.map .bl)).flat = true := by
  rw [pvflat_tup]
  exact pvflats_map fun x _ => by simp
theorem flat_mv {m : Mv} : (mvP m).flat = true := by simp [mvP]
theorem flat_rows {rows : List (List Mv)} : (PV.tup (rows.map rowT)).flat = true := by
  rw [pvflat_tup]
  refine pvflats_map fun x _ => ?_
  unfold rowT
  rw [pvflat_tup]
  exact pvflats_map fun m _ => flat_mv
theorem gm_flat : (OV.obj 7 (gmO marks rows safe)).flat = true := by
  unfold gmO
  simp only [ovflat_obj, ovflatf_cons, ovflatf_nil, ovflat_sh, flat_ints, flat_bls, flat_rows, pvflat_int, Bool.and_self]
theorem cap_gm {m : Bool} : capR m (.ok (.obj 7 (gmO marks rows safe))) = .ok (.obj 7 (gmO marks rows safe)) := capR_flat gm_flat
theorem pv_gm : (OV.obj 7 (gmO marks rows safe)).pv = gmP marks rows safe := by
  rw [pv_obj, pvf_gm]
  rfl
end
/-! equality -/
theorem cln_mono : ∀ (n : Nat) (p : PV), cln n p = true → cln (n + 1) p = true
  | _, .non, _ => by simp [cln]
  | _, .int _, _ => by simp [cln]
  | n, .str s, h => by cases n <;> simpa [cln] using h
  | 0, .lst l, h => by simp [cln] at h
  | 0, .tup l, h => by simp [cln] at h
  | n + 1, .lst l, h => by
    simp only [cln, List.all_eq_true] at h ⊢
    exact fun x hx => cln_mono n x (h x hx)
  | n + 1, .tup l, h => by
    simp only [cln, List.all_eq_true] at h ⊢
    exact fun x hx => cln_mono n x (h x hx)
  | n, .bl b, h => by cases n <;> simp [cln] at h
  | n, .scr b, h => by cases n <;> simp [cln] at h
  | n, .ins c b, h => by cases n <;> simp [cln] at h
theorem strOk_S {l : List Nat} (h : ∀ c ∈ l, c < 128) : PyData.strOk (mkS l) = true := by
  show (mkS l).cps.all (· < 0x110000) = true
  rw [Array.all_eq_true']
  intro c hc
  have := h c (by simpa [mkS] using hc)
  exact decide_eq_true (by omega)
theorem chr_lt {l : List Nat} (h : Chr l) : ∀ c ∈ l, c < 128 := by
  have all : ∀ c ∈ sgn, c < 128 := by decide
  intro c hc
  rcases h c hc with h | h | h
  · exact all c h
  · omega
  · omega
theorem cln_mv {m : Mv} (h : Chr m.w) : cln 1 (mvP m) = true := by
  simp [cln, mvP, strOk_S (chr_lt h)]
theorem cln_ints {l : List Int} : cln 1 (.tup (l.map .int)) = true := by
  simp [cln]
theorem cln_row {r : List Mv} (h : okChr r) : cln 2 (rowT r) = true := by
  simp only [rowT, cln, List.all_map, List.all_eq_true]
  exact fun m hm => cln_mv (h m hm).1
theorem cln_rows {rows : List (List Mv)} (h : ∀ r ∈ rows, okChr r) : cln 3 (.tup (rows.map rowT)) = true := by
  simp only [cln, List.all_map, List.all_eq_true]
  exact fun r hr => cln_row (h r hr)
theorem ints_inj {a b : List Int} : (PV.tup (a.map .int) = .tup (b.map .int)) ↔ a = b := by
  constructor
  · intro h
    injection h with h
    exact (List.map_inj_right fun x y e => by injection e).mp h
  · intro h; rw [h]
theorem mvP_inj {a b : Mv} (h : mvP a = mvP b) : a = b := by
  obtain ⟨w, t, n, d⟩ := a
  obtain ⟨w2, t2, n2, d2⟩ := b
  simp [mvP, mkS_inj] at h
  simp [h]
theorem rowT_inj {a b : List Mv} (h : rowT a = rowT b) : a = b := by
  unfold rowT at h
  injection h with h
  exact (List.map_inj_right fun x y e => mvP_inj e).mp h
theorem rows_inj {a b : List (List Mv)} : (PV.tup (a.map rowT) = .tup (b.map rowT)) ↔ a = b := by
  constructor
  · intro h
    injection h with h
    exact (List.map_inj_right fun x y e => rowT_inj e).mp h
  · intro h; rw [h]
theorem eq_ok {m1 m2 s1 s2 : List Int} {r1 r2 : List (List Mv)} (h1 : ∀ r ∈ r1, okChr r) (h2 : ∀ r ∈ r2, okChr r) : F_Game_eq [gmP m1 r1 s1, gmP m2 r2 s2] = .ok (.sh (.bl (decide (m1 = m2) && (decide (r1 = r2) && decide (s1 = s2))))) := by
  have e1 := eq_cln 1 (by omega) (cln_ints (l := m1)) (cln_ints (l := m2))
  have e2 := eq_cln 3 (by omega) (cln_rows h1) (cln_rows h2)
  have e3 := eq_cln 1 (by omega) (cln_ints (l := s1)) (cln_ints (l := s2))
  have d1 : decide (PV.tup (m1.map .int) = .tup (m2.map .int)) = decide (m1 = m2) := decide_eq_decide.mpr ints_inj
  have d2 : decide (PV.tup (r1.map rowT) = .tup (r2.map rowT)) = decide (r1 = r2) := decide_eq_decide.mpr rows_inj
  have d3 : decide (PV.tup (s1.map .int) = .tup (s2.map .int)) = decide (s1 = s2) := decide_eq_decide.mpr ints_inj
  rw [d1] at e1
  rw [d2] at e2
  rw [d3] at e3
  have is : isiP tb_Game ic_Game (.ins 7 (gmF m2 r2 s2)) = .ok (.bl true) := rfl
  unfold gmP
  rw [F_Game_eq_at]
  unfold s_Game_eq
  simp [is, e1, e2, e3]
end K00

end
section
/-! errors, told -/
namespace K00
open PySem L2 L3
local macro_rules | `(tactic| walk_at "d") => `(tactic| first | assumption | omega | (simp only [szl, repP_length, List.length_map, List.length_append, List.length_cons, List.length_nil, List.length_range, List.length_replicate, rngP_length, List.length_set]; omega) | exact Eq.refl _ | (simp; done) | decide)
def pair (s : Str) (p : PV) : PV := .lst [.str s, p]
theorem ok_words : PyData.strOk ("position" : Str) = true ∧ PyData.strOk ("amount" : Str) = true ∧ PyData.strOk ("move" : Str) = true ∧ PyData.strOk ("need" : Str) = true ∧ PyData.strOk ("played" : Str) = true := by decide +kernel
theorem eq_pair {s : Str} {x y : Int} (h : PyData.strOk s = true) : pyEq (pair s (.int x)) (pair s (.int y)) = .ok (.bl (decide (x = y))) := by
  have := eq_cln 1 (p := pair s (.int x)) (q := pair s (.int y)) (by omega) (by simp [pair, cln, h]) (by simp [pair, cln, h])
  rw [this]
  simp [pair]
theorem ne_pair {s : Str} {x y : Int} (h : PyData.strOk s = true) : pyNe (pair s (.int x)) (pair s (.int y)) = .ok (.bl (!decide (x = y))) := by
  have := ne_cln 1 (p := pair s (.int x)) (q := pair s (.int y)) (by omega) (by simp [pair, cln, h]) (by simp [pair, cln, h])
  rw [this]
  simp [pair]
section
variable {g i x y z : PV} {k : Int}
theorem err_pos (h : F_play [g, i, x, y, z] = .er (noPos k)) : F_p_law_error [g, i, x, y, z] = .ok (.sh (pair "position" (.int k))) := by
  unfold noPos at h
  rw [F_p_law_error_at]
  unfold s_p_law_error pair
  simp (disch := walk_at "d") [h, capR_flat_er]
theorem err_am (h : F_play [g, i, x, y, z] = .er (badAm k)) : F_p_law_error [g, i, x, y, z] = .ok (.sh (pair "amount" (.int k))) := by
  unfold badAm at h
  rw [F_p_law_error_at]
  unfold s_p_law_error pair
  simp (disch := walk_at "d") [h, capR_flat_er]
theorem err_mv (h : F_play [g, i, x, y, z] = .er (noMove (.int k))) : F_p_law_error [g, i, x, y, z] = .ok (.sh (pair "move" (.int k))) := by
  unfold noMove at h
  rw [F_p_law_error_at]
  unfold s_p_law_error pair
  simp (disch := walk_at "d") [h, capR_flat_er]
theorem err_tm (h : F_play [g, i, x, y, z] = .er (noTime k)) : F_p_law_error [g, i, x, y, z] = .ok (.sh (pair "need" (.int k))) := by
  unfold noTime at h
  rw [F_p_law_error_at]
  unfold s_p_law_error pair
  simp (disch := walk_at "d") [h, capR_flat_er]
end
theorem bad_of {pm pr ps : PV} {k : Int} (h : F_Game_init [pm, pr, ps] = .er (badG k)) : F_p_law_bad [pm, pr, ps, .int k] = .ok (.sh (.bl true)) := by
  unfold badG at h
  have is := is_int (x := k) (y := k)
  rw [F_p_law_bad_at]
  unfold s_p_law_bad
  simp (disch := walk_at "d") [h, capR_flat_er, is]
theorem base_of {pm pr : PV} {k : Int} (h : F_Game_init [pm, pr, .lst [.int (-1)]] = .er (badG k)) : F_p_law_base [pm, pr] = .ok (.sh (.bl true)) := by
  unfold badG at h
  rw [F_p_law_base_at]
  unfold s_p_law_base
  simp (disch := walk_at "d") [h, capR_flat_er]
end K00

end
section
/-! a standing -/
namespace K00
open PySem L2 L3
local macro_rules | `(tactic| walk_at "d") => `(tactic| first | assumption | omega | (simp only [szl, repP_length, List.length_map, List.length_append, List.length_cons, List.length_nil, List.length_range, List.length_replicate, rngP_length, List.length_set]; omega) | exact Eq.refl _ | (simp; done) | decide)
@[simp] theorem atI_3 {α : Type} {a b c d : α} {l : List α} : atI (a :: b :: c :: d :: l) 3 = some d := by
  rw [atI_of (by omega) (by simp only [List.length_cons]; omega)]
  rfl
@[simp] theorem atI_4 {α : Type} {a b c d e : α} {l : List α} : atI (a :: b :: c :: d :: e :: l) 4 = some e := by
  rw [atI_of (by omega) (by simp only [List.length_cons]; omega)]
  rfl
@[simp] theorem atI_5 {α : Type} {a b c d e f : α} {l : List α} : atI (a :: b :: c :: d :: e :: f :: l) 5 = some f := by
  rw [atI_of (by omega) (by simp only [List.length_cons]; omega)]
  rfl
section
variable {marks safe : List Int} {rows : List (List Mv)}
theorem lrow_at {i : Nat} (h : i < rows.length) : atI (rows.map fun r => PV.lst (r.map mvP)) (i : Int) = some (.lst ((rowAt rows i).map mvP)) := by
  rw [atI_map, atI_getD (d := []) h]
  rfl
theorem mark_at {i : Nat} (h : i < marks.length) : atI (marks.map PV.int) (i : Int) = some (.int (el marks i)) := by
  rw [atI_map, el_at h]
  rfl
theorem standing_ok (g : Gd marks rows safe) {i j : Nat} {a b : Int} (hi : i < marks.length) (hm : el marks i < 3) (hj : j < (rowAt rows i).length) (a0 : 0 ≤ a) (a1 : a ≤ 10 ^ 30) (b0 : 0 ≤ b) (b1 : b ≤ 10 ^ 30) : F_p_law_standing [gmP marks rows safe, .int i, .int a, .int b, .int j, .lst (marks.map .int), lMoves rows] = .ok (.sh (.bl true)) := by
  have er := g.mr i hi
  have hmm : el marks i = 1 ∨ el marks i = 2 := by omega
  have ra := lrow_at (rows := rows) (i := i) (by rw [g.nr]; exact hi)
  have ma := mark_at hi
  have va := mv_at hj
  rcases hmm with c | c
  · by_cases hn : a < (mvAt (rowAt rows i) j).n
    · have tm := err_tm (play_time (safe := safe) (x := a) (y := b) hi g.nr a0 a1 b0 b1 hj (.inl c) (by rw [if_pos c]; exact hn))
      have eq := eq_pair (x := (mvAt (rowAt rows i) j).n) (y := (mvAt (rowAt rows i) j).n) ok_words.2.2.2.1
      unfold pair at tm eq
      generalize mvAt (rowAt rows i) j = m at *
      unfold lMoves
      rw [F_p_law_standing_at]
      unfold s_p_law_standing
      rw [c] at ma
      simp (disch := walk_at "d") [ra, ma, va, mvP, hn, tm, eq]
    · have pl := play_ok (safe := safe) (x := a) (y := b) hi g.nr a0 a1 b0 b1 hj (.inl c) (by rw [if_pos c]; omega)
      rw [if_pos c, if_pos c] at pl
      have i1 := fun x : Int => is_int (x := x) (y := x)
      generalize mvAt (rowAt rows i) j = m at *
      unfold lMoves
      rw [F_p_law_standing_at]
      unfold s_p_law_standing
      rw [c] at ma
      simp (disch := walk_at "d") [ra, ma, va, mvP, hn, pl, i1]
  · have c1 : ¬ el marks i = 1 := by omega
    by_cases hn : a < (mvAt (rowAt rows i) j).n
    · have tm := err_tm (play_time (safe := safe) (x := b) (y := a) hi g.nr b0 b1 a0 a1 hj (.inr c) (by rw [if_neg c1]; exact hn))
      have eq := eq_pair (x := (mvAt (rowAt rows i) j).n) (y := (mvAt (rowAt rows i) j).n) ok_words.2.2.2.1
      unfold pair at tm eq
      generalize mvAt (rowAt rows i) j = m at *
      unfold lMoves
      rw [F_p_law_standing_at]
      unfold s_p_law_standing
      rw [c] at ma
      simp (disch := walk_at "d") [ra, ma, va, mvP, hn, tm, eq]
    · have pl := play_ok (safe := safe) (x := b) (y := a) hi g.nr b0 b1 a0 a1 hj (.inr c) (by rw [if_neg c1]; omega)
      rw [if_neg c1, if_neg c1] at pl
      have i1 := fun x : Int => is_int (x := x) (y := x)
      generalize mvAt (rowAt rows i) j = m at *
      unfold lMoves
      rw [F_p_law_standing_at]
      unfold s_p_law_standing
      rw [c] at ma
      simp (disch := walk_at "d") [ra, ma, va, mvP, hn, pl, i1]
end
end K00

end
section
/-! one position: loops -/
namespace K00
open PySem L2 L3
local macro_rules | `(tactic| walk_at "d") => `(tactic| first | assumption | omega | (simp only [szl, repP_length, List.length_map, List.length_append, List.length_cons, List.length_nil, List.length_range, List.length_replicate, rngP_length, List.length_set]; omega) | exact Eq.refl _ | (simp; done) | decide)
theorem in_ints {i : Int} {l : List Int} {neg : Bool} : pyIn neg (.int i) (.lst (l.map .int)) = .ok (.bl (if neg then !decide (i ∈ l) else decide (i ∈ l))) := by
  have := in_cln 0 (p := .int i) (l := l.map .int) (neg := neg) (by omega) (by simp [cln]) (by simp [cln])
  rw [this]
  have e : (PV.int i ∈ l.map PV.int) ↔ i ∈ l := by simp
  rw [decide_eq_decide.mpr e]
theorem is_end {m : Int} : F_p_law_is [endP m, endP m] = .ok (.sh (.bl true)) := by
  unfold endP
  by_cases c3 : m = 3
  · rw [if_pos c3, is_int]; simp
  · by_cases c4 : m = 4
    · rw [if_neg c3, if_pos c4, is_int]; simp
    · by_cases c5 : m = 5
      · rw [if_neg c3, if_neg c4, if_pos c5, is_int]; simp
      · rw [if_neg c3, if_neg c4, if_neg c5, F_p_law_is_at]
        unfold s_p_law_is
        simp
section
variable {marks safe : List Int} {rows : List (List Mv)}
theorem flag_end {i : Nat} (h : i < marks.length) (hm : ¬ (el marks i = 1 ∨ el marks i = 2)) : F_flag_outcome [gmP marks rows safe, .int i] = .er (noPos i) := by
  have mv := mover_ok (rows := rows) (safe := safe) h
  rw [if_neg hm] at mv
  unfold gmP noPos at *
  rw [F_flag_outcome_at]
  unfold s_flag_outcome
  simp [mv]
theorem place_in (g : Gd marks rows safe) {i : Nat} {a b big : Int} {x4 x6 x7 x8 x9 x11 x13 x14 : Option OV} (hi : i < marks.length) (a0 : 0 ≤ a) (a1 : a ≤ 10 ^ 30) (b0 : 0 ≤ big - a) (b1 : big - a ≤ 10 ^ 30) :
    forGo (.nm 12) [12] b_p_law_place_1 (rngP 0 (rowAt rows i).length) [some (.sh (gmP marks rows safe)), some (.sh (.int i)), some (.sh (.lst (marks.map .int))), some (.sh (lMoves rows)), x4, some (.sh (.int big)), x6, x7, x8, x9, some (.sh (.int a)), x11, none, x13, x14] = .nx [some (.sh (gmP marks rows safe)), some (.sh (.int i)), some (.sh (.lst (marks.map .int))), some (.sh (lMoves rows)), x4, some (.sh (.int big)), x6, x7, x8, x9, some (.sh (.int a)), x11, none, x13, x14] := by
  rw [rngP_eq]
  refine forGo_same (f := fun (k : Nat) => PV.int (0 + (k : Int))) _ fun j hj => ?_
  have hj : j < (rowAt rows i).length := by simpa using hj
  have hm : el marks i < 3 := by
    by_cases h : el marks i < 3
    · exact h
    · rw [g.en i hi h] at hj
      simp at hj
  have st := standing_ok g hi hm hj a0 a1 b0 b1
  refine .of ?_
  unfold b_p_law_place_1
  simp (disch := walk_at "d") [st]
theorem place_due {i : Nat} {a : Int} {x0 x2 x4 x5 x6 x7 x8 x9 x11 x12 x14 : Option OV} (hi : i < rows.length) (hl : (rowAt rows i).length ≤ 1000) :
    fLc (.nm 13) [13] (iRg rng1R (aCons (eB bLen (aCons (eIdx (eVar 3) (eVar 1)) aNil)) aNil)) t_p_law_place_1 c_p_law_place_1 [x0, some (.sh (.int i)), x2, some (.sh (lMoves rows)), x4, x5, x6, x7, x8, x9, some (.sh (.int a)), x11, x12, none, x14] = .ok (.own ((allowed (rowAt rows i) a).map fun (j : Nat) => .sh (.int j))) := by
  have ra := lrow_at (rows := rows) (i := i) hi
  unfold lMoves
  refine fLc_at (ps := rngP 0 (rowAt rows i).length) (by simp (disch := walk_at "d") [ra]) (by simp [szl]; omega) ?_
  rw [rngP_eq]
  unfold allowed
  refine lcGo_filter (f := fun (k : Nat) => PV.int (0 + (k : Int))) _ (fun j hj => ?_) fun j hj hc => ?_
  · have hj : j < (rowAt rows i).length := by simpa using hj
    have e := mv_at hj
    unfold t_p_law_place_1
    simp [ra, e, mvP]
  · unfold c_p_law_place_1
    simp
theorem place_turn (g : Gd marks rows safe) {i : Nat} {a big : Int} {x4 x6 x7 x9 x14 : Option OV} (hi : i < marks.length) (a0 : 0 ≤ a) (a1 : a ≤ 10 ^ 30) (b0 : 0 ≤ big - a) (b1 : big - a ≤ 10 ^ 30) :
    Turn (.nm 10) [8, 10, 11, 12] b_p_law_place_2 (.int a) [some (.sh (gmP marks rows safe)), some (.sh (.int i)), some (.sh (.lst (marks.map .int))), some (.sh (lMoves rows)), x4, some (.sh (.int big)), x6, x7, none, x9, none, none, none, none, x14] [some (.sh (gmP marks rows safe)), some (.sh (.int i)), some (.sh (.lst (marks.map .int))), some (.sh (lMoves rows)), x4, some (.sh (.int big)), x6, x7, none, x9, none, none, none, none, x14] := by
  have hl := (g.chr hi).2
  have al := allowed_ok (safe := safe) (a := a) hi g.nr (by omega) a0 a1
  have du := fun x0 x2 x4 x5 x6 x7 x8 x9 x11 x12 x14 => place_due (a := a) (x0 := x0) (x2 := x2) (x4 := x4) (x5 := x5) (x6 := x6) (x7 := x7) (x8 := x8) (x9 := x9) (x11 := x11) (x12 := x12) (x14 := x14) (show i < rows.length by rw [g.nr]; exact hi) (by omega)
  have lp := fun x4 x6 x7 x8 x9 x11 x13 x14 => place_in (b := 0) g (a := a) (big := big) (x4 := x4) (x6 := x6) (x7 := x7) (x8 := x8) (x9 := x9) (x11 := x11) (x13 := x13) (x14 := x14) hi a0 a1 b0 b1
  have ra := lrow_at (rows := rows) (i := i) (by rw [g.nr]; exact hi)
  have ne := ne_cln 1 (p := .lst ((allowed (rowAt rows i) a).map fun (j : Nat) => .int j)) (q := .lst ((allowed (rowAt rows i) a).map fun (j : Nat) => .int j)) (by omega) (by simp [cln]) (by simp [cln])
  refine .of ?_
  unfold lMoves at *
  unfold b_p_law_place_2
  simp (disch := walk_at "d") [al, du, lp, ra, ne]
end
end K00

end
section
/-! one position: words -/
namespace K00
open PySem L2 L3
local macro_rules | `(tactic| walk_at "d") => `(tactic| first | assumption | omega | (simp only [szl, repP_length, List.length_map, List.length_append, List.length_cons, List.length_nil, List.length_range, List.length_replicate, rngP_length, List.length_set]; omega) | exact Eq.refl _ | (simp; done) | decide)
def nsW (i : Nat) : List Nat := [110, 111, 115, 117, 99, 104, 48 + i % 10]
theorem ns_str0 : ∀ k : Fin 10, (toString ((k : Nat) : Int) : Str) = mkS [48 + (k : Nat)] := by decide +kernel
theorem ns_pre : ("nosuch" : Str) = mkS [110, 111, 115, 117, 99, 104] := by decide +kernel
theorem ns_str {i : Nat} : bStr [.int ((i : Int) % 10)] = .ok (.str (mkS [48 + i % 10])) := by
  have e : ((i : Int) % 10) = ((i % 10 : Nat) : Int) := by omega
  rw [e, str_int (log2_le (by rw [Int.natAbs_natCast]; exact Nat.lt_of_lt_of_le (Nat.mod_lt _ (by decide)) (by decide)) (by decide))]
  have := ns_str0 ⟨i % 10, Nat.mod_lt _ (by decide)⟩
  dsimp only at this
  rw [this]
theorem ns_add {i : Nat} : pyAdd (.str "nosuch") (.str (mkS [48 + i % 10])) = .ok (.str (mkS (nsW i))) := by
  rw [ns_pre, add_S (by simp)]
  rfl
section
variable {marks safe : List Int} {rows : List (List Mv)}
@[simp] theorem lk_index_of2 : List.lookup ("index_of" : Str) (gmF marks rows safe) = none := nr (by kernel_rfl)
@[simp] theorem lk_is_safe2 : List.lookup ("is_safe" : Str) (gmF marks rows safe) = none := nr (by kernel_rfl)
@[simp] theorem lk_turned2 : List.lookup ("turned" : Str) (gmF marks rows safe) = none := nr (by kernel_rfl)
@[simp] theorem lk_with_move2 : List.lookup ("with_move" : Str) (gmF marks rows safe) = none := nr (by kernel_rfl)
@[simp] theorem lk_with_safe2 : List.lookup ("with_safe" : Str) (gmF marks rows safe) = none := nr (by kernel_rfl)
theorem nd_row (g : Gd marks rows safe) {i : Nat} (hi : i < marks.length) : ((rowAt rows i).map (·.w)).Nodup := by
  by_cases hm : el marks i < 3
  · exact g.nd i hi hm
  · rw [g.en i hi hm]
    exact List.nodup_nil
theorem nd_ne {r : List Mv} (h : (r.map (·.w)).Nodup) {j k : Nat} (hk : k < r.length) (hj : j < k) : (mvAt r j).w ≠ (mvAt r k).w := by
  have h2 := List.pairwise_iff_getElem.mp h j k (by simp; omega) (by simpa using hk) hj
  rw [List.getElem_map, List.getElem_map] at h2
  unfold mvAt
  rw [getD_of hk, getD_of (by omega)]
  exact h2
theorem place_index (g : Gd marks rows safe) {i : Nat} {x2 x4 x5 x6 x7 x8 x9 x10 x11 x13 x14 : Option OV} (hi : i < marks.length) :
    forGo (.nm 12) [12] b_p_law_place_3 (rngP 0 (rowAt rows i).length) [some (.sh (gmP marks rows safe)), some (.sh (.int i)), x2, some (.sh (lMoves rows)), x4, x5, x6, x7, x8, x9, x10, x11, none, x13, x14] = .nx [some (.sh (gmP marks rows safe)), some (.sh (.int i)), x2, some (.sh (lMoves rows)), x4, x5, x6, x7, x8, x9, x10, x11, none, x13, x14] := by
  have hl := (g.chr hi).2
  rw [rngP_eq]
  refine forGo_same (f := fun (k : Nat) => PV.int (0 + (k : Int))) _ fun j hj => ?_
  have hj : j < (rowAt rows i).length := by simpa using hj
  have ra := lrow_at (rows := rows) (i := i) (by rw [g.nr]; exact hi)
  have va := mv_at hj
  have ix := index_ok (safe := safe) (w := (mvAt (rowAt rows i) j).w) hi g.nr (by omega) hj rfl fun k hk => nd_ne (nd_row g hi) hj hk
  have is := is_int (x := (j : Int)) (y := j)
  unfold lMoves gmP at *
  refine .of ?_
  unfold b_p_law_place_3
  simp (disch := walk_at "d") [ra, va, mvP, ix, is]
theorem place_words {i : Nat} {x0 x2 x4 x5 x6 x7 x8 x9 x10 x11 x12 x13 : Option OV} (hi : i < rows.length) (hl : (rowAt rows i).length ≤ 1000) :
    fLc (.nm 14) [14] (iSeq (eIdx (eVar 3) (eVar 1))) tYesB c_p_law_place_2 [x0, some (.sh (.int i)), x2, some (.sh (lMoves rows)), x4, x5, x6, x7, x8, x9, x10, x11, x12, x13, none] = .ok (.own (((rowAt rows i).map (·.w)).map fun w => .sh (wdP w))) := by
  have ra := lrow_at (rows := rows) (i := i) hi
  unfold lMoves
  refine fLc_at (ps := (rowAt rows i).map mvP) (by simp (disch := walk_at "d") [ra]) (by simp [szl]; omega) ?_
  rw [List.map_map]
  refine lcGo_map (f := mvP) _ fun m hm => ?_
  unfold c_p_law_place_2
  simp [mvP, wdP]
end
end K00

end
section
/-! one position -/
namespace K00
open PySem L2 L3
local macro_rules | `(tactic| walk_at "d") => `(tactic| first | assumption | omega | (simp only [szl, repP_length, List.length_map, List.length_append, List.length_cons, List.length_nil, List.length_range, List.length_replicate, rngP_length, List.length_set]; omega) | exact Eq.refl _ | (simp; done) | decide)
section
variable {marks safe : List Int} {rows : List (List Mv)}
theorem place_loop (g : Gd marks rows safe) {i : Nat} {big : Int} {x4 x6 x7 x9 x14 : Option OV} (hi : i < marks.length) (b0 : 9 ≤ big) (b1 : big ≤ 10 ^ 30) :
    forGo (.nm 10) [8, 10, 11, 12] b_p_law_place_2 [.int 0, .int (1 + (i : Int) % 9), .int 9, .int big] [some (.sh (gmP marks rows safe)), some (.sh (.int i)), some (.sh (.lst (marks.map .int))), some (.sh (lMoves rows)), x4, some (.sh (.int big)), x6, x7, none, x9, none, none, none, none, x14] = .nx [some (.sh (gmP marks rows safe)), some (.sh (.int i)), some (.sh (.lst (marks.map .int))), some (.sh (lMoves rows)), x4, some (.sh (.int big)), x6, x7, none, x9, none, none, none, none, x14] := by
  have := forGo_same (T := .nm 10) (fg := [8, 10, 11, 12]) (fb := b_p_law_place_2) (f := PV.int) (ρ := [some (.sh (gmP marks rows safe)), some (.sh (.int i)), some (.sh (.lst (marks.map .int))), some (.sh (lMoves rows)), x4, some (.sh (.int big)), x6, x7, none, x9, none, none, none, none, x14]) [0, 1 + (i : Int) % 9, 9, big] fun a ha => by
    have ha : a = 0 ∨ a = 1 + (i : Int) % 9 ∨ a = 9 ∨ a = big := by simpa using ha
    exact place_turn g hi (by omega) (by omega) (by omega) (by omega)
  exact this
theorem place_ok (g : Gd marks rows safe) {i : Nat} {big : Int} (hi : i < marks.length) (b0 : 9 ≤ big) (b1 : big ≤ 10 ^ 30) : F_p_law_place [gmP marks rows safe, .int i, .lst (marks.map .int), lMoves rows, .lst (safe.map .int), .int big] = .ok (.sh (.bl true)) := by
  have hl := (g.chr hi).2
  have hr : i < rows.length := by rw [g.nr]; exact hi
  have mr := g.mr i hi
  have ma := mark_at hi
  have mv := mover_ok (rows := rows) (safe := safe) hi
  have sf := is_safe_ok (rows := rows) (safe := safe) hi
  rw [gOf_at g.sf] at sf
  have en := ended_ok (rows := rows) (safe := safe) hi mr
  have et := end_tab mr
  have ie := is_end (m := el marks i)
  have ii := fun x : Int => is_int (x := x) (y := x)
  have is := in_ints (i := (i : Int)) (l := safe) (neg := false)
  rw [if_neg Bool.false_ne_true] at is
  have lp := fun x4 x6 x7 x9 x14 => place_loop g (big := big) (x4 := x4) (x6 := x6) (x7 := x7) (x9 := x9) (x14 := x14) hi b0 b1
  have li := fun x2 x4 x5 x6 x7 x8 x9 x10 x11 x13 x14 => place_index g (i := i) (x2 := x2) (x4 := x4) (x5 := x5) (x6 := x6) (x7 := x7) (x8 := x8) (x9 := x9) (x10 := x10) (x11 := x11) (x13 := x13) (x14 := x14) hi
  have lw := fun x0 x2 x4 x5 x6 x7 x8 x9 x10 x11 x12 x13 => place_words (rows := rows) (i := i) (x0 := x0) (x2 := x2) (x4 := x4) (x5 := x5) (x6 := x6) (x7 := x7) (x8 := x8) (x9 := x9) (x10 := x10) (x11 := x11) (x12 := x12) (x13 := x13) hr (by omega)
  have ra := lrow_at (rows := rows) (i := i) hr
  have na := ns_add (i := i)
  have nb := ns_str (i := i)
  have iw := in_words (w := nsW i) (l := (rowAt rows i).map (·.w))
  unfold wdP at iw
  unfold wdP at lw
  rw [List.map_map] at iw
  have iw : pyIn false (.str (mkS (nsW i))) (.lst ((rowAt rows i).map fun m => PV.str (mkS m.w))) = .ok (.bl (decide (nsW i ∈ (rowAt rows i).map (·.w)))) := iw
  by_cases hw : ∃ k, k < (rowAt rows i).length ∧ (mvAt (rowAt rows i) k).w = nsW i
  · obtain ⟨k, hk, ek⟩ := hw
    have ix := index_ok (safe := safe) (w := nsW i) hi g.nr (by omega) hk ek fun j hj => by rw [← ek]; exact nd_ne (nd_row g hi) hk hj
    have me : decide (nsW i ∈ (rowAt rows i).map (·.w)) = true := by
      refine decide_eq_true (List.mem_map.mpr ⟨mvAt (rowAt rows i) k, ?_, ek⟩)
      unfold mvAt
      rw [getD_of hk]
      exact List.getElem_mem hk
    rw [me] at iw
    unfold lMoves gmP at *
    rw [F_p_law_place_at]
    unfold s_p_law_place
    by_cases hm : el marks i < 3
    · have hmm : el marks i = 1 ∨ el marks i = 2 := by omega
      have fl := flag_ok (rows := rows) (safe := safe) hi hmm
      rw [gOf_at g.sf] at fl
      rw [if_pos hmm] at mv
      have h0 : ¬ el marks i = 0 := by omega
      unfold gmP at fl
      by_cases hs : (i : Int) ∈ safe
      · rw [decide_eq_true hs, if_pos rfl] at fl
        simp (disch := walk_at "d") [ma, mv, sf, en, et, ie, ii, is, lp, li, lw, ra, na, nb, iw, ix, hm, fl, h0, hs]
      · rw [decide_eq_false hs, if_neg Bool.false_ne_true] at fl
        simp (disch := walk_at "d") [ma, mv, sf, en, et, ie, ii, is, lp, li, lw, ra, na, nb, iw, ix, hm, fl, h0, hs]
    · have hmm : ¬ (el marks i = 1 ∨ el marks i = 2) := by omega
      have fl := flag_end (rows := rows) (safe := safe) hi hmm
      rw [if_neg hmm] at mv
      unfold gmP noPos at fl
      simp (disch := walk_at "d") [ma, mv, sf, en, et, ie, ii, is, lp, li, lw, ra, na, nb, iw, ix, hm, fl, capR_flat_er]
  · have hno : ∀ j < (rowAt rows i).length, (mvAt (rowAt rows i) j).w ≠ nsW i := fun j hj e => hw ⟨j, hj, e⟩
    have ix := index_none (safe := safe) hi g.nr (by omega) hno
    unfold noMove at ix
    unfold lMoves gmP at *
    rw [F_p_law_place_at]
    unfold s_p_law_place
    by_cases hm : el marks i < 3
    · have hmm : el marks i = 1 ∨ el marks i = 2 := by omega
      have fl := flag_ok (rows := rows) (safe := safe) hi hmm
      rw [gOf_at g.sf] at fl
      rw [if_pos hmm] at mv
      have h0 : ¬ el marks i = 0 := by omega
      unfold gmP at fl
      by_cases hs : (i : Int) ∈ safe
      · rw [decide_eq_true hs, if_pos rfl] at fl
        simp (disch := walk_at "d") [ma, mv, sf, en, et, ie, ii, is, lp, li, lw, ra, na, nb, iw, ix, hm, fl, h0, hs, capR_flat_er]
      · rw [decide_eq_false hs, if_neg Bool.false_ne_true] at fl
        simp (disch := walk_at "d") [ma, mv, sf, en, et, ie, ii, is, lp, li, lw, ra, na, nb, iw, ix, hm, fl, h0, hs, capR_flat_er]
    · have hmm : ¬ (el marks i = 1 ∨ el marks i = 2) := by omega
      have fl := flag_end (rows := rows) (safe := safe) hi hmm
      rw [if_neg hmm] at mv
      unfold gmP noPos at fl
      simp (disch := walk_at "d") [ma, mv, sf, en, et, ie, ii, is, lp, li, lw, ra, na, nb, iw, ix, hm, fl, capR_flat_er]
end
end K00

end
section
/-! turned, with other safe positions -/
namespace K00
open PySem L2 L3
local macro_rules | `(tactic| walk_at "d") => `(tactic| first | assumption | omega | (simp only [szl, repP_length, List.length_map, List.length_append, List.length_cons, List.length_nil, List.length_range, List.length_replicate, rngP_length, List.length_set]; omega) | exact Eq.refl _ | (simp; done) | decide)
def tM (m : Int) : Int := el [0, 2, 1, 4, 3, 5] m.toNat
theorem tM_val {m : Int} (h : 1 ≤ m ∧ m ≤ 5) : (m = 1 ∧ tM m = 2) ∨ (m = 2 ∧ tM m = 1) ∨ (m = 3 ∧ tM m = 4) ∨ (m = 4 ∧ tM m = 3) ∨ (m = 5 ∧ tM m = 5) := by
  have : m = 1 ∨ m = 2 ∨ m = 3 ∨ m = 4 ∨ m = 5 := by omega
  rcases this with rfl | rfl | rfl | rfl | rfl <;> decide
theorem tM_tM {m : Int} (h : 1 ≤ m ∧ m ≤ 5) : tM (tM m) = m := by
  have : m = 1 ∨ m = 2 ∨ m = 3 ∨ m = 4 ∨ m = 5 := by omega
  rcases this with rfl | rfl | rfl | rfl | rfl <;> decide
theorem tM_at {m : Int} (h : 1 ≤ m ∧ m ≤ 5) : atI [PV.int 0, .int 2, .int 1, .int 4, .int 3, .int 5] m = some (.int (tM m)) := by
  have : m = 1 ∨ m = 2 ∨ m = 3 ∨ m = 4 ∨ m = 5 := by omega
  rcases this with rfl | rfl | rfl | rfl | rfl <;> rfl
theorem el_map {f : Int → Int} {l : List Int} {i : Nat} (h : i < l.length) : el (l.map f) i = f (el l i) := by
  rw [el_of (by rw [List.length_map]; exact h), List.getElem_map, el_of h]
section
variable {marks safe : List Int} {rows : List (List Mv)}
theorem Gd.mem (g : Gd marks rows safe) : ∀ m ∈ marks, 1 ≤ m ∧ m ≤ 5 := by
  intro m hm
  obtain ⟨i, hi, e⟩ := List.getElem_of_mem hm
  have := g.mr i hi
  rw [el_of hi, e] at this
  exact this
theorem Gd.turn (g : Gd marks rows safe) : Gd (marks.map tM) rows safe := by
  have lt : ∀ i < marks.length, (el (marks.map tM) i < 3 ↔ el marks i < 3) := fun i hi => by
    rw [el_map hi]
    have := tM_val (g.mr i hi)
    omega
  have ln : (marks.map tM).length = marks.length := List.length_map _
  refine ⟨by rw [ln]; exact g.n1, by rw [ln]; exact g.n2, by rw [ln]; exact g.nr, ?_, ?_, ?_, ?_, ?_, by rw [ln]; exact g.sf, ?_⟩ <;> rw [ln]
  · intro i hi
    rw [el_map hi]
    have := tM_val (g.mr i hi)
    omega
  · exact fun i hi hm => g.rl i hi ((lt i hi).mp hm)
  · exact fun i hi hm => g.ok i hi ((lt i hi).mp hm)
  · exact fun i hi hm => g.nd i hi ((lt i hi).mp hm)
  · exact fun i hi hm => g.en i hi fun z => hm ((lt i hi).mpr z)
  · exact fun i hi hm => (lt i hi).mpr (g.se i hi hm)
theorem turned_ok (g : Gd marks rows safe) : F_Game_turned [gmP marks rows safe] = .ok (.obj 7 (gmO (marks.map tM) rows safe)) := by
  have mk := g.turn.made (pm := .lst ((marks.map tM).map .int)) (pr := .tup (rows.map rowT)) (ps := .tup (safe.map .int)) (.inl rfl) (rws_tup g) (.inr rfl)
  have lc : fLc (.nm 1) [1] (iSeq (eFld "marks" ok_marks (eVar 0))) tYesB c_Game_turned_1 [some (.sh (gmP marks rows safe)), none] = .ok (.own (marks.map fun m => .sh (.int (tM m)))) := by
    refine fLc_at (ps := marks.map .int) (by unfold gmP; simp) (by have := g.n2; simp [szl]; omega) ?_
    refine lcGo_map (f := PV.int) _ fun m hm => ?_
    unfold c_Game_turned_1
    simp [tM_at (g.mem m hm)]
  rw [List.map_map] at mk
  have mk : F_Game_init [.lst (marks.map fun m => PV.int (tM m)), .tup (rows.map rowT), .tup (safe.map .int)] = .ok (gmO (marks.map tM) rows safe) := mk
  rw [F_Game_turned_at]
  unfold s_Game_turned
  unfold gmP at lc ⊢
  simp (disch := walk_at "d") [lc, mk, cap_gm, pvf_gm]
theorem Gd.safed (g : Gd marks rows safe) {s : List Int} (hf : gFit marks.length (-1) s = true) (hs : ∀ i < marks.length, (i : Int) ∈ s → el marks i < 3) : Gd marks rows s := ⟨g.n1, g.n2, g.nr, g.mr, g.rl, g.ok, g.nd, g.en, hf, hs⟩
theorem with_safe_ok (g : Gd marks rows safe) {s : List Int} (hf : gFit marks.length (-1) s = true) (hs : ∀ i < marks.length, (i : Int) ∈ s → el marks i < 3) : F_Game_with_safe [gmP marks rows safe, .lst (s.map .int)] = .ok (.obj 7 (gmO marks rows s)) := by
  have mk := (g.safed hf hs).made (pm := .tup (marks.map .int)) (pr := .tup (rows.map rowT)) (ps := .lst (s.map .int)) (.inr rfl) (rws_tup g) (.inl rfl)
  rw [F_Game_with_safe_at]
  unfold s_Game_with_safe
  unfold gmP
  simp (disch := walk_at "d") [mk, cap_gm, pvf_gm]
end
end K00

end
section
/-! with another move -/
namespace K00
open PySem L2 L3
local macro_rules | `(tactic| walk_at "d") => `(tactic| first | assumption | omega | (simp only [szl, repP_length, List.length_map, List.length_append, List.length_cons, List.length_nil, List.length_range, List.length_replicate, rngP_length, List.length_set]; omega) | exact Eq.refl _ | (simp; done) | decide)
theorem pvs_set {l : List OV} {k : Nat} {o : OV} : OV.pvs (l.set k o) = (OV.pvs l).set k o.pv := by
  rw [pvs_eq, pvs_eq, List.map_set]
/-- rows with one move changed, as with_move hands them in -/
def wRows (rows : List (List Mv)) (i k : Nat) (m : Mv) : List (List Mv) := rows.set i ((rowAt rows i).set k m)
def wPV (rows : List (List Mv)) (i k : Nat) (m : Mv) : List PV := (rows.map rowT).set i (.lst (((rowAt rows i).set k m).map mvP))
section
variable {marks safe : List Int} {rows : List (List Mv)}
theorem wRows_at {i k j : Nat} {m : Mv} (hi : i < rows.length) : rowAt (wRows rows i k m) j = if j = i then (rowAt rows i).set k m else rowAt rows j := by
  unfold wRows
  show (rows.set i ((rowAt rows i).set k m)).getD j [] = _
  rw [List.getD_eq_getElem?_getD, List.getElem?_set]
  by_cases h : j = i
  · subst h
    simp [hi]
  · have h' : ¬ i = j := fun z => h z.symm
    rw [if_neg h', if_neg h]
    unfold rowAt
    rw [List.getD_eq_getElem?_getD]
theorem okChr_set {r : List Mv} {k : Nat} {m : Mv} (h : okChr r) (hm : Chr m.w ∧ m.w.length ≤ 1000) : okChr (r.set k m) := by
  intro x hx
  rcases List.mem_or_eq_of_mem_set hx with h1 | rfl
  · exact h x h1
  · exact hm
theorem rws_w (g : Gd marks rows safe) {i k : Nat} {m : Mv} (hi : i < rows.length) (hm : Chr m.w ∧ m.w.length ≤ 1000) : Rws (.lst (wPV rows i k m)) (wPV rows i k m) (wRows rows i k m) := by
  have g' := rws_tup g
  refine ⟨.inl rfl, by simp [wPV, wRows], fun j hj => ?_, fun j hj => ?_⟩
  · have hj : j < rows.length := by simpa [wRows] using hj
    have e : pvAt (wPV rows i k m) j = if j = i then .lst (((rowAt rows i).set k m).map mvP) else rowT (rowAt rows j) := by
      unfold wPV pvAt
      rw [List.getD_eq_getElem?_getD, List.getElem?_set]
      by_cases h : j = i
      · subst h
        simp [hi]
      · have h' : ¬ i = j := fun z => h z.symm
        rw [if_neg h', if_neg h]
        unfold rowAt
        simp [List.getD_eq_getElem?_getD, hj]
    rw [e, wRows_at hi]
    by_cases h : j = i
    · rw [if_pos h, if_pos h]
      exact .inl rfl
    · rw [if_neg h, if_neg h]
      exact .inr rfl
  · have hj : j < rows.length := by simpa [wRows] using hj
    rw [wRows_at hi]
    have c := g.chr (i := j) (by rw [← g.nr]; exact hj)
    have ci := g.chr (i := i) (by rw [← g.nr]; exact hi)
    by_cases h : j = i
    · rw [if_pos h]
      exact ⟨okChr_set ci.1 hm, by rw [List.length_set]; omega⟩
    · rw [if_neg h]
      exact ⟨c.1, by omega⟩
theorem with_none (g : Gd marks rows safe) {i : Nat} {k : Int} {y z : PV} (hi : i < marks.length) (hk : k < 0 ∨ ((rowAt rows i).length : Int) ≤ k) : F_Game_with_move [gmP marks rows safe, .int i, .int k, y, z] = .er (noMove (.int k)) := by
  have ck := checked_ok (marks := marks) (rows := rows) (safe := safe) (i := i) (by omega) (by omega)
  have ra := row_at (rows := rows) (i := i) (by rw [g.nr]; exact hi)
  have c : (decide (k < 0) || decide (((rowAt rows i).length : Int) ≤ k)) = true := by simpa using hk
  unfold gmP noMove at *
  rw [F_Game_with_move_at]
  unfold s_Game_with_move
  simp (disch := walk_at "d") [ck, ra, c, pvs_eq]
theorem with_ok (g : Gd marks rows safe) {i k : Nat} {n d : Int} {rows2 : List (List Mv)} (hi : i < marks.length) (hk : k < (rowAt rows i).length) (h : F_Game_init [.tup (marks.map .int), .lst (wPV rows i k ⟨(mvAt (rowAt rows i) k).w, (mvAt (rowAt rows i) k).t, n, d⟩), .tup (safe.map .int)] = .ok (gmO marks rows2 safe)) : F_Game_with_move [gmP marks rows safe, .int i, .int k, .int n, .int d] = .ok (.obj 7 (gmO marks rows2 safe)) := by
  have hr : i < rows.length := by rw [g.nr]; exact hi
  have ck := checked_ok (marks := marks) (rows := rows) (safe := safe) (i := i) (by omega) (by omega)
  have ra := row_at (rows := rows) (i := i) hr
  have va : atI (rowAt rows i) (k : Int) = some (mvAt (rowAt rows i) k) := atI_getD hk
  have c1 : ¬ ((rowAt rows i).length ≤ k) := by omega
  have c2 : ¬ ((k : Int) < 0) := by omega
  unfold wPV at h
  simp only [List.map_set] at h
  have h : F_Game_init [.tup (marks.map .int), .lst ((rows.map fun x => rowT x).set i (.lst (((rowAt rows i).map fun x : Mv => PV.tup [.str (mkS x.w), .int x.t, .int x.n, .int x.d]).set k (.tup [.str (mkS (mvAt (rowAt rows i) k).w), .int (mvAt (rowAt rows i) k).t, .int n, .int d])))), .tup (safe.map .int)] = R.ok (gmO marks rows2 safe) := h
  unfold gmP at *
  rw [F_Game_with_move_at]
  unfold s_Game_with_move
  simp (disch := walk_at "d") [ck, ra, va, mvP, c1, c2, pvs_set]
  rw [h]
  simp (disch := walk_at "d") [cap_gm, pvf_gm]
theorem with_er (g : Gd marks rows safe) {i k : Nat} {n d z : Int} (hi : i < marks.length) (hk : k < (rowAt rows i).length) (h : F_Game_init [.tup (marks.map .int), .lst (wPV rows i k ⟨(mvAt (rowAt rows i) k).w, (mvAt (rowAt rows i) k).t, n, d⟩), .tup (safe.map .int)] = .er (badG z)) : F_Game_with_move [gmP marks rows safe, .int i, .int k, .int n, .int d] = .er (badG z) := by
  have hr : i < rows.length := by rw [g.nr]; exact hi
  have ck := checked_ok (marks := marks) (rows := rows) (safe := safe) (i := i) (by omega) (by omega)
  have ra := row_at (rows := rows) (i := i) hr
  have va : atI (rowAt rows i) (k : Int) = some (mvAt (rowAt rows i) k) := atI_getD hk
  have c1 : ¬ ((rowAt rows i).length ≤ k) := by omega
  have c2 : ¬ ((k : Int) < 0) := by omega
  unfold wPV at h
  simp only [List.map_set] at h
  have h : F_Game_init [.tup (marks.map .int), .lst ((rows.map fun x => rowT x).set i (.lst (((rowAt rows i).map fun x : Mv => PV.tup [.str (mkS x.w), .int x.t, .int x.n, .int x.d]).set k (.tup [.str (mkS (mvAt (rowAt rows i) k).w), .int (mvAt (rowAt rows i) k).t, .int n, .int d])))), .tup (safe.map .int)] = R.er (badG z) := h
  unfold gmP badG at *
  rw [F_Game_with_move_at]
  unfold s_Game_with_move
  simp (disch := walk_at "d") [ck, ra, va, mvP, c1, c2, pvs_set]
  rw [h]
  have cf : (capR false (.er ⟨3, [("position", .int z)]⟩) : R OV) = .er ⟨3, [("position", .int z)]⟩ := capR_flat_er (by simp [PV.flatf])
  simp (disch := walk_at "d") [cf]
end
end K00

end
section
/-! with another move: made or refused -/
namespace K00
open PySem L2 L3
local macro_rules | `(tactic| walk_at "d") => `(tactic| first | assumption | omega | (simp only [szl, repP_length, List.length_map, List.length_append, List.length_cons, List.length_nil, List.length_range, List.length_replicate, rngP_length, List.length_set]; omega) | exact Eq.refl _ | (simp; done) | decide)
@[simp] theorem int_bl {b : Bool} : bInt [.bl b] = .ok (.int (if b = true then 1 else 0)) := nr rfl
theorem map_set_same {r : List Mv} {k : Nat} {m : Mv} (h : k < r.length) (e : m.w = (mvAt r k).w) : (r.set k m).map (·.w) = r.map (·.w) := by
  rw [List.map_set, e]
  unfold mvAt
  rw [getD_of h]
  refine List.ext_getElem (by simp) fun j h1 h2 => ?_
  rw [List.getElem_set]
  split
  · rename_i q; subst q; simp
  · rfl
section
variable {marks safe : List Int} {rows : List (List Mv)}
theorem Gd.withm (g : Gd marks rows safe) {i k : Nat} {m : Mv} (hi : i < marks.length) (hm : el marks i < 3) (hk : k < (rowAt rows i).length) (ew : m.w = (mvAt (rowAt rows i) k).w) (ok : okB marks.length m = true) : Gd marks (wRows rows i k m) safe := by
  have hr : i < rows.length := by rw [g.nr]; exact hi
  refine ⟨g.n1, g.n2, by unfold wRows; rw [List.length_set]; exact g.nr, g.mr, fun j hj hm => ?_, fun j hj hm => ?_, fun j hj hm => ?_, fun j hj hn => ?_, g.sf, g.se⟩ <;> rw [wRows_at hr]
  · by_cases h : j = i
    · rw [if_pos h, List.length_set]; subst h; exact g.rl _ hj hm
    · rw [if_neg h]; exact g.rl _ hj hm
  · by_cases h : j = i
    · rw [if_pos h]
      intro x hx
      rcases List.mem_or_eq_of_mem_set hx with h1 | rfl
      · exact g.ok i hi (by assumption) x h1
      · exact ok
    · rw [if_neg h]; exact g.ok _ hj hm
  · by_cases h : j = i
    · rw [if_pos h, map_set_same hk ew]; subst h; exact g.nd _ hj hm
    · rw [if_neg h]; exact g.nd _ hj hm
  · by_cases h : j = i
    · exact absurd hm (h ▸ hn)
    · rw [if_neg h]; exact g.en _ hj hn
theorem with_made (g : Gd marks rows safe) {i k : Nat} {n d : Int} (hi : i < marks.length) (hm : el marks i < 3) (hk : k < (rowAt rows i).length) (hn : n ≤ 9) (hd : 0 ≤ d ∧ d ≤ n) : Gd marks (wRows rows i k ⟨(mvAt (rowAt rows i) k).w, (mvAt (rowAt rows i) k).t, n, d⟩) safe ∧ F_Game_with_move [gmP marks rows safe, .int i, .int k, .int n, .int d] = .ok (.obj 7 (gmO marks (wRows rows i k ⟨(mvAt (rowAt rows i) k).w, (mvAt (rowAt rows i) k).t, n, d⟩) safe)) := by
  have hr : i < rows.length := by rw [g.nr]; exact hi
  have hx : mvAt (rowAt rows i) k ∈ rowAt rows i := by
    unfold mvAt
    rw [getD_of hk]
    exact List.getElem_mem hk
  have ob := g.ok i hi hm _ hx
  have og := okB_rng ob
  have ow := isW_chr (okB_W ob)
  have g2 := g.withm (m := ⟨(mvAt (rowAt rows i) k).w, (mvAt (rowAt rows i) k).t, n, d⟩) hi hm hk rfl (by
    unfold okB
    dsimp only
    rw [okB_W ob, decide_eq_false (by omega), decide_eq_false (by omega), decide_eq_false (by omega), decide_eq_false (by omega), decide_eq_false (by omega)]
    rfl)
  exact ⟨g2, with_ok g hi hk (g2.made (.inr rfl) (rws_w g hr ⟨ow.1, by dsimp only; omega⟩) (.inr rfl))⟩
theorem with_bad (g : Gd marks rows safe) {i k : Nat} {n d : Int} (hi : i < marks.length) (hm : el marks i < 3) (hk : k < (rowAt rows i).length) (hn : 9 < n ∨ n < d) : F_Game_with_move [gmP marks rows safe, .int i, .int k, .int n, .int d] = .er (badG i) := by
  have hr : i < rows.length := by rw [g.nr]; exact hi
  have hx : mvAt (rowAt rows i) k ∈ rowAt rows i := by
    unfold mvAt
    rw [getD_of hk]
    exact List.getElem_mem hk
  have ob := g.ok i hi hm _ hx
  have ow := isW_chr (okB_W ob)
  have mr := g.mr i hi
  have rw1 := rws_w g (k := k) (m := ⟨(mvAt (rowAt rows i) k).w, (mvAt (rowAt rows i) k).t, n, d⟩) hr ⟨ow.1, by dsimp only; omega⟩
  have hn1 : (wRows rows i k ⟨(mvAt (rowAt rows i) k).w, (mvAt (rowAt rows i) k).t, n, d⟩).length = marks.length := by unfold wRows; rw [List.length_set]; exact g.nr
  have f1 : ∀ j < i, fitI marks (wRows rows i k ⟨(mvAt (rowAt rows i) k).w, (mvAt (rowAt rows i) k).t, n, d⟩) (gOf marks.length safe) j = true := by
    intro j hj
    have := g.fitI g.sf (i := j) (by omega) (g.se j (by omega))
    unfold fitI at this ⊢
    rw [wRows_at hr, if_neg (by omega)]
    exact this
  have f2 : fitI marks (wRows rows i k ⟨(mvAt (rowAt rows i) k).w, (mvAt (rowAt rows i) k).t, n, d⟩) (gOf marks.length safe) i = false := by
    unfold fitI fitP
    rw [if_pos (by omega), wRows_at hr, if_pos rfl]
    unfold fitR
    rw [fitM_bad, Bool.and_false]
    refine ⟨⟨(mvAt (rowAt rows i) k).w, (mvAt (rowAt rows i) k).t, n, d⟩, List.mem_set hk _, ?_⟩
    unfold okB
    dsimp only
    rcases hn with h | h
    · rw [decide_eq_true h]; simp
    · rw [decide_eq_true h]; simp
  exact with_er g hi hk (init_fit (.inr rfl) rw1 (.inr rfl) hn1 g.n2 g.sf hi f1 f2)
end
end K00

end
section
/-! one move changed: parts -/
namespace K00
open PySem L2 L3
local macro_rules | `(tactic| walk_at "d") => `(tactic| first | assumption | omega | (simp only [szl, repP_length, List.length_map, List.length_append, List.length_cons, List.length_nil, List.length_range, List.length_replicate, rngP_length, List.length_set]; omega) | exact Eq.refl _ | (simp; done) | decide)
theorem atI_set {α : Type} {l : List α} {i : Nat} {x : α} (h : i < l.length) : atI (l.set i x) (i : Int) = some x := by
  rw [atI_natP, List.getElem?_set_self h]
section
variable {marks safe : List Int} {rows : List (List Mv)}
theorem copy_lc {i : Nat} {x0 x1 x3 x4 x5 x6 x7 x8 x9 x10 x11 x12 x13 x14 x15 x16 x17 x19 : Option OV} (h : rows.length ≤ 1000) : fLc (.nm 18) [18] (iSeq (eVar 2)) tYesB c_p_law_changed_1 [x0, x1, some (.sh (lMoves rows)), x3, x4, x5, x6, x7, x8, x9, x10, x11, x12, x13, x14, x15, x16, x17, none, x19] = .ok (.own (rows.map fun r => .own (r.map fun m => .sh (mvP m)))) := by
  refine fLc_at (ps := rows.map fun r => .lst (r.map mvP)) (by simp [lMoves]) (by simp [szl]; omega) ?_
  refine lcGo_map (f := fun r : List Mv => PV.lst (r.map mvP)) _ fun r hr => ?_
  unfold c_p_law_changed_1
  simp
theorem tup_lc {x0 x1 x2 x3 x4 x5 x6 x7 x8 x9 x10 x12 x13 x14 x15 x16 x17 x19 : Option OV} (h : rows.length ≤ 1000) : fLc (.nm 18) [18] (iSeq (eVar 11)) tYesB c_p_law_changed_3 [x0, x1, x2, x3, x4, x5, x6, x7, x8, x9, x10, some (.sh (lMoves rows)), x12, x13, x14, x15, x16, x17, none, x19] = .ok (.own (rows.map fun r => .sh (rowT r))) := by
  refine fLc_at (ps := rows.map fun r => .lst (r.map mvP)) (by simp [lMoves]) (by simp [szl]; omega) ?_
  refine lcGo_map (f := fun r : List Mv => PV.lst (r.map mvP)) _ fun r hr => ?_
  unfold c_p_law_changed_3
  simp [rowT]
def cEnv (marks safe : List Int) (rows : List (List Mv)) (i k : Nat) (x : List (Option OV)) (x7 x8 x9 x10 x11 x12 x13 x14 x15 x16 x17 x18 x19 : Option OV) : L3.Env := [some (.sh (gmP marks rows safe)), some (.sh (.lst (marks.map .int))), some (.sh (lMoves rows)), some (.sh (.lst (safe.map .int))), some (.sh (.int i)), x.headD none, some (.sh (.int k)), x7, x8, x9, x10, x11, x12, x13, x14, x15, x16, x17, x18, x19]
section
variable {x : List (Option OV)} {x7 x8 x9 x10 x11 x12 x16 x17 x18 x19 : Option OV} {i k : Nat} {f : Int}
theorem ch_bad (g : Gd marks rows safe) (hi : i < marks.length) (hm : el marks i < 3) (hk : k < (rowAt rows i).length) {w : Nat} (hw : w < 2) : Turn (.nm 14) [14, 15] b_p_law_changed_1 (.int (0 + (w : Int))) (cEnv marks safe rows i k x x7 x8 x9 x10 x11 x12 (some (.sh (.int f))) none none x16 x17 x18 x19) (cEnv marks safe rows i k x x7 x8 x9 x10 x11 x12 (some (.sh (.int (f + 1)))) none none x16 x17 x18 x19) := by
  have ra := lrow_at (rows := rows) (i := i) (by rw [g.nr]; exact hi)
  have is := is_int (x := (i : Int)) (y := i)
  have b0 := with_bad g (n := 10) (d := 10) hi hm hk (.inl (by omega))
  have b1 := with_bad g (n := 3) (d := 4) hi hm hk (.inr (by omega))
  refine .of ?_
  unfold cEnv b_p_law_changed_1
  unfold lMoves gmP badG at *
  rcases (show w = 0 ∨ w = 1 by omega) with rfl | rfl
  · simp (disch := walk_at "d") [ra, is, b0, capR_flat_er]
  · simp (disch := walk_at "d") [ra, is, b1, capR_flat_er]
theorem ch_none (g : Gd marks rows safe) (hi : i < marks.length) {w : Nat} (hw : w = 2 ∨ w = 3) : Turn (.nm 14) [14, 15] b_p_law_changed_1 (.int (0 + (w : Int))) (cEnv marks safe rows i k x x7 x8 x9 x10 x11 x12 (some (.sh (.int f))) none none x16 x17 x18 x19) (cEnv marks safe rows i k x x7 x8 x9 x10 x11 x12 (some (.sh (.int (f + 1)))) none none x16 x17 x18 x19) := by
  have ra := lrow_at (rows := rows) (i := i) (by rw [g.nr]; exact hi)
  have is := fun z : Int => is_int (x := z) (y := z)
  have b0 := with_none g (y := .int 99) (z := .int 0) (k := (rowAt rows i).length) hi (.inr (by omega))
  have b1 := with_none g (y := .int 3) (z := .int 3) (k := -1) hi (.inl (by omega))
  refine .of ?_
  unfold cEnv b_p_law_changed_1
  unfold lMoves gmP noMove at *
  rcases hw with rfl | rfl
  · simp (disch := walk_at "d") [ra, is, b0, capR_flat_er]
  · simp (disch := walk_at "d") [ra, is, b1, capR_flat_er]
theorem ch_loop (g : Gd marks rows safe) (hi : i < marks.length) (hm : el marks i < 3) (hk : k < (rowAt rows i).length) : forGo (.nm 14) [14, 15] b_p_law_changed_1 (rngP 0 4) (cEnv marks safe rows i k x x7 x8 x9 x10 x11 x12 (some (.sh (.int 0))) none none x16 x17 x18 x19) = .nx (cEnv marks safe rows i k x x7 x8 x9 x10 x11 x12 (some (.sh (.int 4))) none none x16 x17 x18 x19) := by
  have e : rngP 0 4 = [.int (0 + ((0 : Nat) : Int)), .int (0 + ((1 : Nat) : Int)), .int (0 + ((2 : Nat) : Int)), .int (0 + ((3 : Nat) : Int))] := rfl
  rw [e, (ch_bad g hi hm hk (by omega)).go, (ch_bad g hi hm hk (by omega)).go, (ch_none g hi (.inl rfl)).go, (ch_none g hi (.inr rfl)).go]
  rfl
end
theorem eqo_ok {m1 m2 s1 s2 : List Int} {r1 r2 : List (List Mv)} (h1 : ∀ r ∈ r1, okChr r) (h2 : ∀ r ∈ r2, okChr r) : eqoK 7 F_Game_eq false (.ins 7 (gmF m1 r1 s1)) (.ins 7 (gmF m2 r2 s2)) = .ok (.bl (decide (m1 = m2) && (decide (r1 = r2) && decide (s1 = s2)))) := by
  have := eq_ok (m1 := m1) (m2 := m2) (s1 := s1) (s2 := s2) h1 h2
  unfold gmP at this
  unfold eqoK
  simp [eqY, this]
theorem Gd.chrs (g : Gd marks rows safe) : ∀ r ∈ rows, okChr r := by
  intro r hr
  obtain ⟨i, hi, e⟩ := List.getElem_of_mem hr
  have := (g.chr (i := i) (by rw [← g.nr]; exact hi)).1
  unfold rowAt at this
  rw [getD_of hi, e] at this
  exact this
end
end K00

end
section
/-! one move changed -/
namespace K00
open PySem L2 L3
local macro_rules | `(tactic| walk_at "d") => `(tactic| first | assumption | omega | (simp only [szl, repP_length, List.length_map, List.length_append, List.length_cons, List.length_nil, List.length_range, List.length_replicate, rngP_length, List.length_set]; omega) | exact Eq.refl _ | (simp; done) | decide)
section
variable {marks safe : List Int} {rows : List (List Mv)}
def others (marks safe : List Int) : List Int := ((List.range marks.length).filter fun i => decide (el marks i < 3) && !decide ((i : Int) ∈ safe)).map fun (i : Nat) => (i : Int)
theorem other_lc {x0 x2 x4 x5 x6 x7 x8 x9 x10 x11 x12 x13 x14 x15 x16 x17 x18 : Option OV} (h : marks.length ≤ 1000) : fLc (.nm 19) [19] (iRg rng1R (aCons (eB bLen (aCons (eVar 1) aNil)) aNil)) t_p_law_changed_1 c_p_law_changed_4 [x0, some (.sh (.lst (marks.map .int))), x2, some (.sh (.lst (safe.map .int))), x4, x5, x6, x7, x8, x9, x10, x11, x12, x13, x14, x15, x16, x17, x18, none] = .ok (.own ((others marks safe).map fun i => .sh (.int i))) := by
  refine fLc_at (ps := rngP 0 marks.length) (by simp (disch := walk_at "d")) (by simp [szl]; omega) ?_
  rw [rngP_eq]
  unfold others
  rw [List.map_map]
  refine lcGo_filter (f := fun (k : Nat) => PV.int (0 + (k : Int))) _ (fun j hj => ?_) fun j hj hc => ?_
  · have hj : j < marks.length := by simpa using hj
    have ma := mark_at hj
    have is := in_ints (i := (j : Int)) (l := safe) (neg := true)
    unfold t_p_law_changed_1
    simp (disch := walk_at "d") [ma, is]
  · unfold c_p_law_changed_4
    simp
theorem others_fit (g : Gd marks rows safe) : gFit marks.length (-1) (others marks safe) = true ∧ ∀ i < marks.length, (i : Int) ∈ others marks safe → el marks i < 3 := by
  refine ⟨?_, fun i hi h => ?_⟩
  · unfold others
    rw [List.range_eq_range']
    exact gFit_range _ 0 (-1) (by omega) (by omega)
  · unfold others at h
    obtain ⟨j, hj, e⟩ := List.mem_map.mp h
    have e : j = i := by omega
    subst e
    have := (List.mem_filter.mp hj).2
    rw [Bool.and_eq_true, decide_eq_true_eq] at this
    exact this.1
theorem wRows_eq {i k : Nat} {m : Mv} (hi : i < rows.length) (hk : k < (rowAt rows i).length) : wRows rows i k m = rows ↔ m = mvAt (rowAt rows i) k := by
  constructor
  · intro h
    have e := wRows_at (k := k) (j := i) (m := m) hi
    rw [h, if_pos rfl] at e
    have e2 : mvAt (rowAt rows i) k = mvAt ((rowAt rows i).set k m) k := by rw [← e]
    rw [e2]
    unfold mvAt
    rw [List.getD_eq_getElem?_getD, List.getElem?_set_self hk]
    rfl
  · intro h
    have e1 : (rowAt rows i).set k m = rowAt rows i := by
      rw [h]
      unfold mvAt
      rw [getD_of hk]
      exact List.set_getElem_self hk
    unfold wRows
    rw [e1]
    unfold rowAt
    rw [getD_of hi]
    exact List.set_getElem_self hi
theorem changed_ok (g : Gd marks rows safe) {i : Nat} {c : Int} (hi : i < marks.length) (hm : el marks i < 3) (hc : 0 ≤ c) : F_p_law_changed [gmP marks rows safe, .lst (marks.map .int), lMoves rows, .lst (safe.map .int), .int i, .int c] = .ok (.sh (.bl true)) := by
  have hr : i < rows.length := by rw [g.nr]; exact hi
  have hl : rows.length ≤ 1000 := by rw [g.nr]; exact g.n2
  have rl := g.rl i hi hm
  obtain ⟨k, ek, hk⟩ : ∃ k : Nat, c % ((rowAt rows i).length : Int) = (k : Int) ∧ k < (rowAt rows i).length := ⟨(c % ((rowAt rows i).length : Int)).toNat, by have := Int.emod_nonneg c (show ((rowAt rows i).length : Int) ≠ 0 by omega); omega, by have := Int.emod_lt_of_pos c (show (0 : Int) < ((rowAt rows i).length : Int) by omega); omega⟩
  have ra := lrow_at (rows := rows) (i := i) hr
  have rt := row_at (rows := rows) (i := i) hr
  have va : atI (rowAt rows i) (k : Int) = some (mvAt (rowAt rows i) k) := atI_getD hk
  have rg : rows[i]'hr = rowAt rows i := by unfold rowAt; rw [getD_of hr]
  have cl := fun x0 x1 x3 x4 x5 x6 x7 x8 x9 x10 x11 x12 x13 x14 x15 x16 x17 x19 => copy_lc (i := i) (rows := rows) (x0 := x0) (x1 := x1) (x3 := x3) (x4 := x4) (x5 := x5) (x6 := x6) (x7 := x7) (x8 := x8) (x9 := x9) (x10 := x10) (x11 := x11) (x12 := x12) (x13 := x13) (x14 := x14) (x15 := x15) (x16 := x16) (x17 := x17) (x19 := x19) hl
  obtain ⟨n, en, hn0, hn9⟩ : ∃ n : Int, c / 17 % 10 = n ∧ 0 ≤ n ∧ n ≤ 9 := ⟨c / 17 % 10, rfl, by omega, by omega⟩
  obtain ⟨d, ed, hd0, hdn⟩ : ∃ d : Int, c / 170 % (1 + n) = d ∧ 0 ≤ d ∧ d ≤ n := ⟨c / 170 % (1 + n), rfl, Int.emod_nonneg _ (by omega), by have := Int.emod_lt_of_pos (c / 170) (show 0 < 1 + n by omega); omega⟩
  obtain ⟨g2, wm⟩ := with_made g hi hm hk hn9 ⟨hd0, hdn⟩
  have hx : mvAt (rowAt rows i) k ∈ rowAt rows i := by
    unfold mvAt
    rw [getD_of hk]
    exact List.getElem_mem hk
  have hch : Chr (mvAt (rowAt rows i) k).w := ((g.chr hi).1 _ hx).1
  have we := wRows_eq (m := ⟨(mvAt (rowAt rows i) k).w, (mvAt (rowAt rows i) k).t, n, d⟩) hr hk
  have lm : (PV.lst ((rows.map fun x => PV.lst (x.map fun x : Mv => PV.tup [.str (mkS x.w), .int x.t, .int x.n, .int x.d])).set i (.lst (((rowAt rows i).map fun x : Mv => PV.tup [.str (mkS x.w), .int x.t, .int x.n, .int x.d]).set k (.tup [.str (mkS (mvAt (rowAt rows i) k).w), .int (mvAt (rowAt rows i) k).t, .int n, .int d]))))) = lMoves (wRows rows i k ⟨(mvAt (rowAt rows i) k).w, (mvAt (rowAt rows i) k).t, n, d⟩) := by
    unfold lMoves wRows
    rw [List.map_set, List.map_set]
    rfl
  have tl : ∀ x0 x1 x2 x3 x4 x5 x6 x7 x8 x9 x10 x12 x13 x14 x15 x16 x17 x19, fLc (.nm 18) [18] (iSeq (eVar 11)) tYesB c_p_law_changed_3 [x0, x1, x2, x3, x4, x5, x6, x7, x8, x9, x10, some (.sh (PV.lst ((rows.map fun x => PV.lst (x.map fun x : Mv => PV.tup [.str (mkS x.w), .int x.t, .int x.n, .int x.d])).set i (.lst (((rowAt rows i).map fun x : Mv => PV.tup [.str (mkS x.w), .int x.t, .int x.n, .int x.d]).set k (.tup [.str (mkS (mvAt (rowAt rows i) k).w), .int (mvAt (rowAt rows i) k).t, .int n, .int d])))))), x12, x13, x14, x15, x16, x17, none, x19] = .ok (.own ((wRows rows i k ⟨(mvAt (rowAt rows i) k).w, (mvAt (rowAt rows i) k).t, n, d⟩).map fun r => .sh (rowT r))) := by
    intros
    rw [lm]
    exact tup_lc (by unfold wRows; rw [List.length_set]; exact hl)
  have ne1 := ne_cln 3 (by omega) (cln_rows g2.chrs) (cln_rows g2.chrs)
  have ne0 := ne_cln 3 (by omega) (cln_rows g.chrs) (cln_rows g.chrs)
  have neI := fun l : List Int => ne_cln 1 (by omega) (cln_ints (l := l)) (cln_ints (l := l))
  have eqo := eqo_ok (m1 := marks) (m2 := marks) (s1 := safe) (s2 := safe) g2.chrs g.chrs
  have eqm := eq_cln 1 (by omega) (cln_mv (m := ⟨(mvAt (rowAt rows i) k).w, (mvAt (rowAt rows i) k).t, n, d⟩) hch) (cln_mv (m := mvAt (rowAt rows i) k) hch)
  have dw : decide (wRows rows i k ⟨(mvAt (rowAt rows i) k).w, (mvAt (rowAt rows i) k).t, n, d⟩ = rows) = decide ((⟨(mvAt (rowAt rows i) k).w, (mvAt (rowAt rows i) k).t, n, d⟩ : Mv) = mvAt (rowAt rows i) k) := decide_eq_decide.mpr we
  have dm : decide (mvP ⟨(mvAt (rowAt rows i) k).w, (mvAt (rowAt rows i) k).t, n, d⟩ = mvP (mvAt (rowAt rows i) k)) = decide ((⟨(mvAt (rowAt rows i) k).w, (mvAt (rowAt rows i) k).t, n, d⟩ : Mv) = mvAt (rowAt rows i) k) := decide_eq_decide.mpr ⟨mvP_inj, fun e => by rw [e]⟩
  rw [dw] at eqo
  rw [dm] at eqm
  unfold mvP at eqm
  dsimp only at eqm
  have lp := fun x7 x8 x9 x10 x11 x12 x16 x17 x18 x19 => ch_loop (x := [some (.sh (.int c))]) (x7 := x7) (x8 := x8) (x9 := x9) (x10 := x10) (x11 := x11) (x12 := x12) (x16 := x16) (x17 := x17) (x18 := x18) (x19 := x19) g hi hm hk
  unfold cEnv at lp
  simp only [List.headD_cons] at lp
  have ol := fun x0 x2 x4 x5 x6 x7 x8 x9 x10 x11 x12 x13 x14 x15 x16 x17 x18 => other_lc (safe := safe) (x0 := x0) (x2 := x2) (x4 := x4) (x5 := x5) (x6 := x6) (x7 := x7) (x8 := x8) (x9 := x9) (x10 := x10) (x11 := x11) (x12 := x12) (x13 := x13) (x14 := x14) (x15 := x15) (x16 := x16) (x17 := x17) (x18 := x18) g.n2
  obtain ⟨of1, of2⟩ := others_fit g
  have ws := with_safe_ok g of1 of2
  have eqs := eqo_ok (m1 := marks) (m2 := marks) (s1 := others marks safe) (s2 := safe) g.chrs g.chrs
  have eql := eq_cln 1 (p := .lst ((others marks safe).map .int)) (q := .lst (safe.map .int)) (by omega) (by simp [cln]) (by simp [cln])
  have ell : (PV.lst ((others marks safe).map .int) = .lst (safe.map .int)) ↔ others marks safe = safe := ⟨fun h => by injection h with h; exact (List.map_inj_right fun x y e => by injection e).mp h, fun h => by rw [h]⟩
  have dl : decide (PV.lst ((others marks safe).map .int) = .lst (safe.map .int)) = decide (others marks safe = safe) := decide_eq_decide.mpr ell
  rw [dl] at eql
  unfold lMoves gmP at *
  rw [F_p_law_changed_at]
  unfold s_p_law_changed
  simp (disch := walk_at "d") [ek, ra, rt, va, rg, cl, en, ed, wm, cap_gm, pvs_set, atI_set, mvP, pvf_gm, tl, ne1, ne0, neI, eqo, eqm, ol, ws, eqs, eql, lp]
end
end K00

end
section
/-! errors in order -/
namespace K00
open PySem L2 L3
local macro_rules | `(tactic| walk_at "d") => `(tactic| first | assumption | omega | (simp only [szl, repP_length, List.length_map, List.length_append, List.length_cons, List.length_nil, List.length_range, List.length_replicate, rngP_length, List.length_set]; omega) | exact Eq.refl _ | (simp; done) | decide)
section
variable {marks safe : List Int} {rows : List (List Mv)}
def eEnv (marks safe : List Int) (rows : List (List Mv)) (x1 x2 x3 x4 : Option OV) (f : Int) (x6 : Option OV) : L3.Env := [some (.sh (gmP marks rows safe)), x1, x2, x3, x4, some (.sh (.int f)), x6, none, none]
variable {x1 x2 x3 x4 : Option OV}
theorem er_turn {a f : Int} (ha : a < 0 ∨ (marks.length : Int) ≤ a) {w : Nat} (hw : w < 6) : Turn (.nm 7) [7, 8] b_p_law_errors_1 (.int (0 + (w : Int))) (eEnv marks safe rows x1 x2 x3 x4 f (some (.sh (.int a)))) (eEnv marks safe rows x1 x2 x3 x4 (f + 1) (some (.sh (.int a)))) := by
  have is := is_int (x := a) (y := a)
  have e0 := mover_bad (rows := rows) (safe := safe) ha
  have e1 := is_safe_bad (rows := rows) (safe := safe) ha
  have e2 := index_bad (rows := rows) (safe := safe) (p := .str "") ha
  have e3 := flag_bad (rows := rows) (safe := safe) ha
  have e4 := ended_bad (rows := rows) (safe := safe) ha
  have e5 := allowed_bad (rows := rows) (safe := safe) (p := .int (-1)) ha
  refine .of ?_
  unfold eEnv b_p_law_errors_1
  unfold gmP noPos at *
  rcases (show w = 0 ∨ w = 1 ∨ w = 2 ∨ w = 3 ∨ w = 4 ∨ w = 5 by omega) with rfl | rfl | rfl | rfl | rfl | rfl
  · simp (disch := walk_at "d") [is, e0, capR_flat_er]
  · simp (disch := walk_at "d") [is, e1, capR_flat_er]
  · simp (disch := walk_at "d") [is, e2, capR_flat_er]
  · simp (disch := walk_at "d") [is, e3, capR_flat_er]
  · simp (disch := walk_at "d") [is, e4, capR_flat_er]
  · simp (disch := walk_at "d") [is, e5, capR_flat_er]
theorem er_in {a f : Int} (ha : a < 0 ∨ (marks.length : Int) ≤ a) : forGo (.nm 7) [7, 8] b_p_law_errors_1 (rngP 0 6) (eEnv marks safe rows x1 x2 x3 x4 f (some (.sh (.int a)))) = .nx (eEnv marks safe rows x1 x2 x3 x4 (f + 6) (some (.sh (.int a)))) := by
  have e : rngP 0 6 = [.int (0 + ((0 : Nat) : Int)), .int (0 + ((1 : Nat) : Int)), .int (0 + ((2 : Nat) : Int)), .int (0 + ((3 : Nat) : Int)), .int (0 + ((4 : Nat) : Int)), .int (0 + ((5 : Nat) : Int))] := rfl
  rw [e, (er_turn ha (by omega)).go, (er_turn ha (by omega)).go, (er_turn ha (by omega)).go, (er_turn ha (by omega)).go, (er_turn ha (by omega)).go, (er_turn ha (by omega)).go]
  rw [show f + 1 + 1 + 1 + 1 + 1 + 1 = f + 6 by omega]
  rfl
theorem er_out {a f : Int} (ha : a < 0 ∨ (marks.length : Int) ≤ a) : Turn (.nm 6) [6, 7, 8] b_p_law_errors_2 (.int a) (eEnv marks safe rows x1 x2 x3 x4 f none) (eEnv marks safe rows x1 x2 x3 x4 (f + 6) none) := by
  have := fun x1 x2 x3 x4 => er_in (safe := safe) (rows := rows) (x1 := x1) (x2 := x2) (x3 := x3) (x4 := x4) (f := f) ha
  unfold eEnv at *
  refine .of ?_
  unfold b_p_law_errors_2
  simp (disch := walk_at "d") [this]
theorem er_loop {n : Int} (hn : n = (marks.length : Int)) : forGo (.nm 6) [6, 7, 8] b_p_law_errors_2 [.int n, .int (-1)] (eEnv marks safe rows x1 x2 x3 x4 0 none) = .nx (eEnv marks safe rows x1 x2 x3 x4 12 none) := by
  rw [(er_out (by omega)).go, (er_out (by omega)).go]
  rfl
theorem errors_ok (g : Gd marks rows safe) {i : Nat} (hi : i < marks.length) : F_p_law_errors [gmP marks rows safe, .int marks.length, .int i, .int (rowAt rows i).length, .int 1000000000000000000000000000000] = .ok (.sh (.bl true)) := by
  have lp := fun x1 x2 x3 x4 => er_loop (safe := safe) (rows := rows) (x1 := x1) (x2 := x2) (x3 := x3) (x4 := x4) (marks := marks) rfl
  have p1 := err_pos (play_bad (rows := rows) (safe := safe) (x := .int (-1)) (y := .int 1000000000000000000000000000001) (z := .int (-1)) (i := marks.length) (marks := marks) (.inr (by omega)))
  have p2 := err_pos (play_bad (rows := rows) (safe := safe) (x := .int 0) (y := .int 0) (z := .int 0) (i := -1) (marks := marks) (.inl (by omega)))
  have a1 := err_am (play_amount (rows := rows) (safe := safe) (x := -2) (y := 1000000000000000000000000000001) (z := -1) hi (.inl (by omega)))
  have a2 := err_am (play_amount2 (rows := rows) (safe := safe) (x := 0) (y := 1000000000000000000000000000001) (z := -1) hi (by omega) (by omega) (.inr (by omega)))
  have m1 := err_mv (play_move (rows := rows) (safe := safe) (x := 1000000000000000000000000000000) (y := 1000000000000000000000000000000) (z := (rowAt rows i).length) hi g.nr (by omega) (by omega) (by omega) (by omega) (.inr (by omega)))
  have m2 := err_mv (play_move (rows := rows) (safe := safe) (x := 0) (y := 0) (z := -1) hi g.nr (by omega) (by omega) (by omega) (by omega) (.inl (by omega)))
  have n1 := fun x => ne_pair (x := x) (y := x) ok_words.1
  have n2 := fun x => ne_pair (x := x) (y := x) ok_words.2.1
  have n3 := fun x => ne_pair (x := x) (y := x) ok_words.2.2.1
  unfold pair at *
  unfold eEnv at lp
  rw [F_p_law_errors_at]
  unfold s_p_law_errors
  simp (disch := walk_at "d") [lp, p1, p2, a1, a2, m1, m2, n1, n2, n3]
end
end K00

end
section
/-! what can be reached -/
namespace K00
open PySem L2 L3
local macro_rules | `(tactic| walk_at "d") => `(tactic| first | assumption | omega | (simp only [szl, repP_length, List.length_map, List.length_append, List.length_cons, List.length_nil, List.length_range, List.length_replicate, rngP_length, List.length_set]; omega) | exact Eq.refl _ | (simp; done) | decide)
/-! reaching, plain -/
inductive Rc (rows : List (List Mv)) (i : Nat) : Nat → Prop
  | refl : Rc rows i i
  | step {j k : Nat} : Rc rows i j → (∃ m ∈ rowAt rows j, m.t = (k : Int)) → Rc rows i k
def addNew (seen : List Int) (m : Mv) : List Int := if m.t ∈ seen then seen else seen ++ [m.t]
def grow (rows : List (List Mv)) (seen : List Int) (k : Nat) : List Int := if k < seen.length then (rowAt rows (el seen k).toNat).foldl addNew seen else seen
theorem nodup_len : ∀ (n : Nat) (l : List Nat), l.Nodup → (∀ x ∈ l, x < n) → l.length ≤ n
  | 0, l, _, h => by
    cases l with
    | nil => simp
    | cons x l => exact absurd (h x List.mem_cons_self) (by omega)
  | n + 1, l, hn, h => by
    have ih := nodup_len n (l.erase n) (hn.erase n) fun x hx => by
      have h1 := (List.Nodup.mem_erase_iff hn).mp hx
      have := h x h1.2
      have := h1.1
      omega
    rw [List.length_erase] at ih
    split at ih <;> omega
theorem new_fold : ∀ (r : List Mv) (s : List Int), (∃ z, r.foldl addNew s = s ++ z) ∧ (∀ m ∈ r, m.t ∈ r.foldl addNew s) ∧ (∀ x ∈ r.foldl addNew s, x ∈ s ∨ ∃ m ∈ r, m.t = x) ∧ (s.Nodup → (r.foldl addNew s).Nodup)
  | [], s => ⟨⟨[], by simp⟩, fun m h => (by cases h), fun x h => .inl h, fun h => h⟩
  | m :: r, s => by
    obtain ⟨⟨z, h1⟩, h2, h3, h4⟩ := new_fold r (addNew s m)
    rw [List.foldl_cons]
    have hm : m.t ∈ addNew s m := by
      unfold addNew
      split
      · assumption
      · simp
    refine ⟨?_, fun x hx => ?_, fun x hx => ?_, fun hs => h4 ?_⟩
    · unfold addNew at h1 ⊢
      by_cases c : m.t ∈ s
      · rw [if_pos c] at h1 ⊢
        exact ⟨z, h1⟩
      · rw [if_neg c] at h1 ⊢
        exact ⟨[m.t] ++ z, by rw [h1, List.append_assoc]⟩
    · rcases List.mem_cons.mp hx with rfl | hx
      · rw [h1]
        exact List.mem_append_left _ hm
      · exact h2 x hx
    · rcases h3 x hx with h | ⟨y, hy, e⟩
      · unfold addNew at h
        split at h
        · exact .inl h
        · rcases List.mem_append.mp h with h | h
          · exact .inl h
          · rw [List.mem_singleton] at h
            exact .inr ⟨m, List.mem_cons_self, h.symm⟩
      · exact .inr ⟨y, List.mem_cons_of_mem _ hy, e⟩
    · unfold addNew
      split
      · exact hs
      · rename_i c
        exact List.nodup_append.mpr ⟨hs, by simp, fun a ha b hb e => c (by rw [List.mem_singleton] at hb; rw [← hb, ← e]; exact ha)⟩
structure SeenI (rows : List (List Mv)) (n p k : Nat) (seen : List Int) : Prop where
  nd : seen.Nodup
  rg : ∀ x ∈ seen, 0 ≤ x ∧ x < n ∧ Rc rows p x.toNat
  st : (p : Int) ∈ seen
  cl : ∀ j < k, j < seen.length → ∀ m ∈ rowAt rows (el seen j).toNat, m.t ∈ seen
theorem el_append {s z : List Int} {j : Nat} (h : j < s.length) : el (s ++ z) j = el s j := by
  unfold el
  simp only [List.getD_eq_getElem?_getD, List.getElem?_append_left h]
section
variable {marks safe : List Int} {rows : List (List Mv)}
theorem Gd.tgt (g : Gd marks rows safe) {i : Nat} (hi : i < marks.length) : ∀ m ∈ rowAt rows i, 0 ≤ m.t ∧ m.t < marks.length := by
  intro m hm
  by_cases h : el marks i < 3
  · have := okB_rng (g.ok i hi h m hm)
    omega
  · rw [g.en i hi h] at hm
    cases hm
theorem grow_ok (g : Gd marks rows safe) {p k : Nat} {seen : List Int} (h : SeenI rows marks.length p k seen) : SeenI rows marks.length p (k + 1) (grow rows seen k) := by
  unfold grow
  by_cases c : k < seen.length
  · rw [if_pos c]
    obtain ⟨⟨z, e⟩, h2, h3, h4⟩ := new_fold (rowAt rows (el seen k).toNat) seen
    have hk := h.rg _ (el_mem c)
    refine ⟨h4 h.nd, fun x hx => ?_, ?_, fun j hj hl m hm => ?_⟩
    · rcases h3 x hx with hx | ⟨m, hm, e⟩
      · exact h.rg x hx
      · have t := g.tgt (i := (el seen k).toNat) (by omega) m hm
        rw [e] at t
        exact ⟨t.1, t.2, .step hk.2.2 ⟨m, hm, by omega⟩⟩
    · rw [e]; exact List.mem_append_left _ h.st
    · by_cases hjk : j = k
      · subst hjk
        rw [e, el_append c] at hm
        exact h2 m hm
      · rw [e, el_append (by omega)] at hm
        rw [e]
        exact List.mem_append_left _ (h.cl j (by omega) (by omega) m hm)
  · rw [if_neg c]
    exact ⟨h.nd, h.rg, h.st, fun j hj hl m hm => h.cl j (by omega) hl m hm⟩
def seenF (rows : List (List Mv)) (n p : Nat) : List Int := (List.range n).foldl (grow rows) [(p : Int)]
theorem seen_fold (g : Gd marks rows safe) {p : Nat} (hp : p < marks.length) : ∀ n, SeenI rows marks.length p n ((List.range n).foldl (grow rows) [(p : Int)])
  | 0 => ⟨by simp, fun x hx => by
      have : x = p := by simpa using hx
      subst this
      exact ⟨by omega, by omega, by rw [Int.toNat_natCast]; exact .refl⟩, by simp, fun j hj => by omega⟩
  | n + 1 => by
    rw [List.range_succ, List.foldl_append]
    exact grow_ok g (seen_fold g hp n)
theorem seen_iff (g : Gd marks rows safe) {p : Nat} (hp : p < marks.length) {j : Nat} : (j : Int) ∈ seenF rows marks.length p ↔ Rc rows p j := by
  have I := seen_fold g hp marks.length
  have len : (seenF rows marks.length p).length ≤ marks.length := by
    have := nodup_len marks.length ((seenF rows marks.length p).map Int.toNat) (by
      refine List.pairwise_map.mpr (List.Pairwise.imp_of_mem ?_ I.nd)
      intro a b ha hb hab e
      have := (I.rg a ha).1
      have := (I.rg b hb).1
      omega) fun x hx => by
      obtain ⟨y, hy, rfl⟩ := List.mem_map.mp hx
      have := I.rg y hy
      omega
    rwa [List.length_map] at this
  constructor
  · intro h
    have := (I.rg _ h).2.2
    rwa [Int.toNat_natCast] at this
  · intro h
    induction h with
    | refl => exact I.st
    | @step j k hj hm ih =>
      obtain ⟨m, hm, e⟩ := hm
      obtain ⟨a, ha, ea⟩ := List.getElem_of_mem ih
      rw [← e]
      refine I.cl a (by unfold seenF at len ha; omega) ha m ?_
      have : el (seenF rows marks.length p) a = j := by rw [el_of ha]; exact ea
      unfold seenF at this
      rw [this, Int.toNat_natCast]
      exact hm
theorem seen_rng (g : Gd marks rows safe) {p : Nat} (hp : p < marks.length) : ∀ x ∈ seenF rows marks.length p, 0 ≤ x ∧ x < marks.length := fun x hx => ⟨((seen_fold g hp marks.length).rg x hx).1, ((seen_fold g hp marks.length).rg x hx).2.1⟩
end
end K00

end
section
/-! the law's search -/
namespace K00
open PySem L2 L3
local macro_rules | `(tactic| walk_at "d") => `(tactic| first | assumption | omega | (simp only [szl, repP_length, List.length_map, List.length_append, List.length_cons, List.length_nil, List.length_range, List.length_replicate, rngP_length, List.length_set]; omega) | exact Eq.refl _ | (simp; done) | decide)
def rEnv (marks : List Int) (rows : List (List Mv)) (s : List Int) (x2 x3 x5 : Option OV) : L3.Env := [some (.sh (.lst (marks.map .int))), some (.sh (lMoves rows)), x2, x3, some (.own (s.map fun x => .sh (.int x))), x5, none, none]
section
variable {marks safe : List Int} {rows : List (List Mv)}
theorem new_turn {s : List Int} {m : Mv} {x2 x3 x5 : Option OV} (hs : s.length < 100000) : Turn (.nm 6) [6] b_p_law_reach_1 (mvP m) (rEnv marks rows s x2 x3 x5) (rEnv marks rows (addNew s m) x2 x3 x5) := by
  have is := in_ints (i := m.t) (l := s) (neg := true)
  rw [if_pos rfl] at is
  have lb : (s.map fun x => OV.sh (PV.int x)).length < 16777216 := by simp; omega
  refine .of ?_
  unfold b_p_law_reach_1 rEnv addNew
  by_cases c : m.t ∈ s
  · simp (disch := walk_at "d") [is, c, mvP]
  · simp (disch := walk_at "d") [is, c, mvP]
theorem new_loop {s : List Int} {r : List Mv} {x2 x3 x5 : Option OV} (hs : s.length ≤ 10000) (hr : r.length ≤ 1000) : forGo (.nm 6) [6] b_p_law_reach_1 (r.map mvP) (rEnv marks rows s x2 x3 x5) = .nx (rEnv marks rows (r.foldl addNew s) x2 x3 x5) := by
  refine (forGo_foldN (f := mvP) (fun s => rEnv marks rows s x2 x3 x5) addNew (fun k b => b.length ≤ 10000 + k ∧ k ≤ 1000) r 0 s ⟨by omega, by omega⟩ fun j m b hx hb => ?_).1
  obtain ⟨hj, _⟩ := List.getElem?_eq_some_iff.mp hx
  refine ⟨⟨?_, by omega⟩, new_turn (by omega)⟩
  unfold addNew
  split
  · omega
  · simp; omega
theorem grow_turn (g : Gd marks rows safe) {p k : Nat} {s : List Int} {x2 x3 : Option OV} (h : SeenI rows marks.length p k s) (hl : s.length ≤ 10000) : Turn (.nm 5) [5, 6] b_p_law_reach_2 (.int (0 + (k : Int))) (rEnv marks rows s x2 x3 none) (rEnv marks rows (grow rows s k) x2 x3 none) := by
  have lp := fun r x2 x3 x5 (hr : r.length ≤ 1000) => new_loop (marks := marks) (rows := rows) (s := s) (r := r) (x2 := x2) (x3 := x3) (x5 := x5) hl hr
  refine .of ?_
  unfold b_p_law_reach_2 grow
  by_cases c : k < s.length
  · have ek : atI s (k : Int) = some (el s k) := el_at c
    have rg := h.rg _ (el_mem c)
    have ra := lrow_at (rows := rows) (i := (el s k).toNat) (by rw [g.nr]; omega)
    rw [Int.toNat_of_nonneg rg.1] at ra
    have lp := fun x2 x3 x5 => lp (rowAt rows (el s k).toNat) x2 x3 x5 (by have := (g.chr (i := (el s k).toNat) (by omega)).2; omega)
    unfold rEnv lMoves at *
    simp (disch := walk_at "d") [c, ek, ra, lp]
  · unfold rEnv
    simp (disch := walk_at "d") [c]
theorem seen_len (g : Gd marks rows safe) {p k : Nat} {s : List Int} (h : SeenI rows marks.length p k s) : s.length ≤ marks.length := by
  have := nodup_len marks.length (s.map Int.toNat) (by
    refine List.pairwise_map.mpr (List.Pairwise.imp_of_mem ?_ h.nd)
    intro a b ha hb hab e
    have := (h.rg a ha).1
    have := (h.rg b hb).1
    omega) fun x hx => by
    obtain ⟨y, hy, rfl⟩ := List.mem_map.mp hx
    have := h.rg y hy
    omega
  rwa [List.length_map] at this
theorem seen_loop (g : Gd marks rows safe) {p : Nat} {x2 x3 : Option OV} (hp : p < marks.length) : forGo (.nm 5) [5, 6] b_p_law_reach_2 (rngP 0 marks.length) (rEnv marks rows [(p : Int)] x2 x3 none) = .nx (rEnv marks rows (seenF rows marks.length p) x2 x3 none) := by
  rw [rngP_eq]
  refine (forGo_foldN (f := fun (k : Nat) => PV.int (0 + (k : Int))) (fun s => rEnv marks rows s x2 x3 none) (grow rows) (fun k b => SeenI rows marks.length p k b) (List.range marks.length) 0 [(p : Int)] (seen_fold g hp 0) fun j m b hx hb => ?_).1
  obtain ⟨hj, rfl⟩ := List.getElem?_eq_some_iff.mp hx
  rw [List.length_range] at hj
  rw [Nat.zero_add] at hb ⊢
  rw [List.getElem_range]
  have := seen_len g hb
  have := g.n2
  exact ⟨grow_ok g hb, grow_turn g hb (by omega)⟩
/-- the law's own: is a position of the mark reached -/
def lawR (marks : List Int) (rows : List (List Mv)) (p : Nat) (mark : Int) : Bool := decide (mark ∈ (seenF rows marks.length p).map fun x => el marks x.toNat)
theorem reach_ok (g : Gd marks rows safe) {p : Nat} {mark : Int} (hp : p < marks.length) : F_p_law_reach [.lst (marks.map .int), lMoves rows, .int p, .int mark] = .ok (.sh (.bl (lawR marks rows p mark))) := by
  have n2 := g.n2
  have sl := seen_len g (seen_fold g hp marks.length)
  have lp := fun x2 x3 => seen_loop g (x2 := x2) (x3 := x3) hp
  have lc : ∀ x1 x2 x3 x5 x6, fLc (.nm 7) [7] (iSeq (eVar 4)) tYesB c_p_law_reach_1 [some (.sh (.lst (marks.map .int))), x1, x2, x3, some (.sh (.lst ((seenF rows marks.length p).map .int))), x5, x6, none] = .ok (.own (((seenF rows marks.length p).map fun x => el marks x.toNat).map fun m => .sh (.int m))) := by
    intro x1 x2 x3 x5 x6
    refine fLc_at (ps := (seenF rows marks.length p).map .int) (by simp) (by simp only [szl, List.length_map]; unfold seenF at *; omega) ?_
    rw [List.map_map]
    refine lcGo_map (f := PV.int) _ fun x hx => ?_
    have rg := seen_rng g hp x hx
    have ma := el_atI rg.1 rg.2
    unfold c_p_law_reach_1
    simp [ma]
  have is := in_ints (i := mark) (l := (seenF rows marks.length p).map fun x => el marks x.toNat) (neg := false)
  rw [if_neg Bool.false_ne_true] at is
  unfold lawR
  generalize ((seenF rows marks.length p).map fun x => el marks x.toNat) = ms at *
  unfold rEnv at lp
  simp only [List.map_cons, List.map_nil] at lp
  unfold lMoves at *
  rw [F_p_law_reach_at]
  unfold s_p_law_reach
  simp (disch := walk_at "d") [lp, lc, is]
end
end K00

end
section
/-! the law's hopeless positions -/
namespace K00
open PySem L2 L3
local macro_rules | `(tactic| walk_at "d") => `(tactic| first | assumption | omega | (simp only [szl, repP_length, List.length_map, List.length_append, List.length_cons, List.length_nil, List.length_range, List.length_replicate, rngP_length, List.length_set]; omega) | exact Eq.refl _ | (simp; done) | decide)
section
variable {marks safe : List Int} {rows : List (List Mv)}
theorem Rc.lt (g : Gd marks rows safe) {i j : Nat} (h : Rc rows i j) (hi : i < marks.length) : j < marks.length := by
  induction h with
  | refl => exact hi
  | @step j k hj hm ih =>
    obtain ⟨m, hm, e⟩ := hm
    have := g.tgt ih m hm
    omega
theorem lawR_iff (g : Gd marks rows safe) {p : Nat} {mark : Int} (hp : p < marks.length) : lawR marks rows p mark = true ↔ ∃ j, Rc rows p j ∧ el marks j = mark := by
  unfold lawR
  rw [decide_eq_true_eq, List.mem_map]
  constructor
  · rintro ⟨x, hx, e⟩
    have rg := seen_rng g hp x hx
    refine ⟨x.toNat, (seen_iff g hp).mp ?_, e⟩
    rwa [Int.toNat_of_nonneg rg.1]
  · rintro ⟨j, hj, e⟩
    exact ⟨j, (seen_iff g hp).mpr hj, by rw [Int.toNat_natCast]; exact e⟩
def isHop (marks : List Int) (rows : List (List Mv)) (i : Nat) : Bool := decide (el marks i < 3) && !lawR marks rows i (5 - el marks i)
def hopL (marks : List Int) (rows : List (List Mv)) : List Int := ((List.range marks.length).filter (isHop marks rows)).map fun (i : Nat) => (i : Int)
theorem hop_turn (g : Gd marks rows safe) {i : Nat} {s : List Int} (hi : i < marks.length) (hs : s.length ≤ 10000) : Turn (.nm 3) [3] b_p_law_hopeless_1 (.int (0 + (i : Int))) [some (.sh (.lst (marks.map .int))), some (.sh (lMoves rows)), some (.own (s.map fun x => .sh (.int x))), none] [some (.sh (.lst (marks.map .int))), some (.sh (lMoves rows)), some (.own ((if isHop marks rows i = true then s ++ [(i : Int)] else s).map fun x => .sh (.int x))), none] := by
  have ma := mark_at hi
  have rc := reach_ok g (mark := 5 - el marks i) hi
  have lb : (s.map fun x => OV.sh (PV.int x)).length < 16777216 := by simp; omega
  refine .of ?_
  unfold b_p_law_hopeless_1 isHop
  by_cases hm : el marks i < 3
  · cases c : lawR marks rows i (5 - el marks i) with
    | true => rw [c] at rc; simp (disch := walk_at "d") [ma, hm, rc]
    | false => rw [c] at rc; simp (disch := walk_at "d") [ma, hm, rc]
  · simp (disch := walk_at "d") [ma, hm]
theorem filt_fold {c : Nat → Bool} : ∀ n : Nat, (List.range n).foldl (fun s i => if c i = true then s ++ [(i : Int)] else s) ([] : List Int) = ((List.range n).filter c).map fun (i : Nat) => (i : Int)
  | 0 => rfl
  | n + 1 => by
    rw [List.range_succ, List.foldl_append, filt_fold n, List.filter_append, List.map_append]
    by_cases h : c n = true
    · simp [h]
    · simp [h]
theorem law_hop_ok (g : Gd marks rows safe) : F_p_law_hopeless [.lst (marks.map .int), lMoves rows] = .ok (.own ((hopL marks rows).map fun x => .sh (.int x))) := by
  have n2 := g.n2
  have key := (forGo_foldN (T := .nm 3) (fg := [3]) (fb := b_p_law_hopeless_1) (f := fun (k : Nat) => PV.int (0 + (k : Int))) (fun s => [some (.sh (.lst (marks.map .int))), some (.sh (lMoves rows)), some (.own (s.map fun x => .sh (.int x))), none]) (fun s i => if isHop marks rows i = true then s ++ [(i : Int)] else s) (fun k b => b.length ≤ k) (List.range marks.length) 0 [] (by simp) fun j m b hx hb => by
    obtain ⟨hj, rfl⟩ := List.getElem?_eq_some_iff.mp hx
    rw [List.length_range] at hj
    rw [List.getElem_range]
    refine ⟨?_, hop_turn g hj (by omega)⟩
    split
    · simp; omega
    · omega).1
  rw [← rngP_eq, filt_fold] at key
  unfold hopL
  simp only [List.map_nil] at key
  rw [F_p_law_hopeless_at]
  unfold s_p_law_hopeless
  simp (disch := walk_at "d") [key]
theorem hopL_fit (g : Gd marks rows safe) : gFit marks.length (-1) (hopL marks rows) = true ∧ ∀ i < marks.length, (i : Int) ∈ hopL marks rows → el marks i < 3 := by
  refine ⟨?_, fun i hi h => ?_⟩
  · unfold hopL
    rw [List.range_eq_range']
    exact gFit_range _ 0 (-1) (by omega) (by omega)
  · unfold hopL at h
    obtain ⟨j, hj, e⟩ := List.mem_map.mp h
    have e : j = i := by omega
    subst e
    have := (List.mem_filter.mp hj).2
    unfold isHop at this
    rw [Bool.and_eq_true, decide_eq_true_eq] at this
    exact this.1
end
end K00

end
section
/-! sources -/
namespace K00
open PySem L2 L3
local macro_rules | `(tactic| walk_at "d") => `(tactic| first | assumption | omega | (simp only [szl, repP_length, List.length_map, List.length_append, List.length_cons, List.length_nil, List.length_range, List.length_replicate, rngP_length, List.length_set]; omega) | exact Eq.refl _ | (simp; done) | decide)
def srcAt (s : List (List Int)) (j : Nat) : List Int := s.getD j []
def addSrc (s : List (List Int)) (t p : Int) : List (List Int) := s.set t.toNat (srcAt s t.toNat ++ [p])
theorem addSrc_at {s : List (List Int)} {t p : Int} {j : Nat} (ht : t.toNat < s.length) : srcAt (addSrc s t p) j = if j = t.toNat then srcAt s j ++ [p] else srcAt s j := by
  unfold addSrc
  show (s.set t.toNat (srcAt s t.toNat ++ [p])).getD j [] = _
  rw [List.getD_eq_getElem?_getD, List.getElem?_set]
  by_cases h : j = t.toNat
  · subst h
    simp [ht]
  · have h' : ¬ t.toNat = j := fun z => h z.symm
    rw [if_neg h', if_neg h]
    unfold srcAt
    rw [List.getD_eq_getElem?_getD]
theorem addSrc_len {s : List (List Int)} {t p : Int} : (addSrc s t p).length = s.length := by unfold addSrc; rw [List.length_set]
def srcRow (s : List (List Int)) (p : Int) (r : List Mv) : List (List Int) := r.foldl (fun s m => addSrc s m.t p) s
def srcAll (rows : List (List Mv)) (n : Nat) : List (List Int) := (List.range n).foldl (fun s (i : Nat) => srcRow s i (rowAt rows i)) (List.replicate n [])
theorem srcRow_ok {n : Nat} {p : Int} : ∀ (r : List Mv) (s : List (List Int)), s.length = n → (∀ m ∈ r, 0 ≤ m.t ∧ m.t < n) → (srcRow s p r).length = n ∧ (∀ B, (∀ j, (srcAt s j).length ≤ B) → ∀ j, (srcAt (srcRow s p r) j).length ≤ B + r.length) ∧ ∀ i j, i ∈ srcAt (srcRow s p r) j ↔ i ∈ srcAt s j ∨ (i = p ∧ ∃ m ∈ r, m.t = (j : Int))
  | [], s, hs, _ => ⟨hs, fun B h j => h j, fun i j => by simp [srcRow]⟩
  | m :: r, s, hs, hr => by
    have hm := hr m List.mem_cons_self
    obtain ⟨h1, h2, h3⟩ := srcRow_ok (n := n) (p := p) r (addSrc s m.t p) (by rw [addSrc_len]; exact hs) fun x hx => hr x (List.mem_cons_of_mem _ hx)
    refine ⟨h1, fun B hB j => ?_, fun i j => ?_⟩
    · have := h2 (B + 1) (fun j => by
        rw [addSrc_at (by omega)]
        have := hB j
        split
        · simp; omega
        · omega) j
      show (srcAt (srcRow (addSrc s m.t p) p r) j).length ≤ B + (r.length + 1)
      omega
    · show i ∈ srcAt (srcRow (addSrc s m.t p) p r) j ↔ _
      rw [h3, addSrc_at (by omega)]
      constructor
      · rintro (h | ⟨h, x, hx, e⟩)
        · split at h
          · rename_i q
            rcases List.mem_append.mp h with h | h
            · exact .inl h
            · rw [List.mem_singleton] at h
              exact .inr ⟨h, m, List.mem_cons_self, by omega⟩
          · exact .inl h
        · exact .inr ⟨h, x, List.mem_cons_of_mem _ hx, e⟩
      · rintro (h | ⟨h, x, hx, e⟩)
        · left
          split
          · exact List.mem_append_left _ h
          · exact h
        · rcases List.mem_cons.mp hx with rfl | hx
          · left
            rw [if_pos (by omega)]
            exact List.mem_append_right _ (by rw [List.mem_singleton]; exact h)
          · exact .inr ⟨h, x, hx, e⟩
section
variable {marks safe : List Int} {rows : List (List Mv)}
structure SrcI (marks : List Int) (rows : List (List Mv)) (k : Nat) (s : List (List Int)) : Prop where
  len : s.length = marks.length
  bd : ∀ j, (srcAt s j).length ≤ 16 * k
  mem : ∀ i j, i ∈ srcAt s j ↔ ∃ a, a < k ∧ i = (a : Int) ∧ ∃ m ∈ rowAt rows a, m.t = (j : Int)
theorem src_step (g : Gd marks rows safe) {k : Nat} {s : List (List Int)} (h : SrcI marks rows k s) (hk : k < marks.length) : SrcI marks rows (k + 1) (srcRow s k (rowAt rows k)) := by
  obtain ⟨h1, h2, h3⟩ := srcRow_ok (n := marks.length) (p := k) (rowAt rows k) s h.len (g.tgt hk)
  refine ⟨h1, fun j => ?_, fun i j => ?_⟩
  · have := h2 _ h.bd j
    have := (g.chr hk).2
    omega
  · rw [h3, h.mem]
    constructor
    · rintro (⟨a, ha, e⟩ | ⟨e, m⟩)
      · exact ⟨a, by omega, e⟩
      · exact ⟨k, by omega, e, m⟩
    · rintro ⟨a, ha, e, m⟩
      by_cases c : a = k
      · subst c; exact .inr ⟨e, m⟩
      · exact .inl ⟨a, by omega, e, m⟩
theorem src_zero : SrcI marks rows 0 (List.replicate marks.length []) := by
  have e : ∀ j, srcAt (List.replicate marks.length []) j = [] := by
    intro j
    unfold srcAt
    rw [List.getD_eq_getElem?_getD]
    by_cases c : j < marks.length
    · simp [c]
    · simp [c]
  refine ⟨by simp, fun j => by rw [e]; simp, fun i j => ?_⟩
  rw [e]
  constructor
  · intro h; cases h
  · rintro ⟨a, ha, _⟩; omega
def sEnv (g : PV) (x1 : Option OV) (s : List (List Int)) (x3 : Option OV) : L3.Env := [some (.sh g), x1, some (.own (s.map fun l => .own (l.map fun i => .sh (.int i)))), x3, none, none, none]
theorem src_get {s : List (List Int)} {j : Nat} (h : j < s.length) : s[j] = srcAt s j := by unfold srcAt; rw [getD_of h]
theorem addSrc_turn {g : PV} {x1 : Option OV} {s : List (List Int)} {p : Int} {m : Mv} (ht : 0 ≤ m.t ∧ m.t < s.length) (hb : (srcAt s m.t.toNat).length < 100000) : Turn (.nm 4) [4] b_reaching_1 (mvP m) (sEnv g x1 s (some (.sh (.int p)))) (sEnv g x1 (addSrc s m.t p) (some (.sh (.int p)))) := by
  have hl : m.t.toNat < s.length := by omega
  have sg := src_get hl
  have lb : ((srcAt s m.t.toNat).map fun i => OV.sh (PV.int i)).length < 16777216 := by simp; omega
  have h2 : m.t < (s.length : Int) := ht.2
  have h1 : 0 ≤ m.t := ht.1
  refine .of ?_
  unfold b_reaching_1 sEnv addSrc
  simp (disch := walk_at "d") [mvP, hl, sg, List.map_set]
end
end K00

end
section
/-! the program's search: turns -/
namespace K00
open PySem L2 L3
local macro_rules | `(tactic| walk_at "d") => `(tactic| first | assumption | omega | (simp only [szl, repP_length, List.length_map, List.length_append, List.length_cons, List.length_nil, List.length_range, List.length_replicate, rngP_length, List.length_set]; omega) | exact Eq.refl _ | (simp; done) | decide)
section
variable {marks safe : List Int} {rows : List (List Mv)}
theorem srcRow_loop {g : PV} {x1 : Option OV} {s : List (List Int)} {p : Int} {r : List Mv} (hr : ∀ m ∈ r, 0 ≤ m.t ∧ m.t < s.length) (hb : ∀ j, (srcAt s j).length ≤ 20000) (hl : r.length ≤ 1000) : forGo (.nm 4) [4] b_reaching_1 (r.map mvP) (sEnv g x1 s (some (.sh (.int p)))) = .nx (sEnv g x1 (srcRow s p r) (some (.sh (.int p)))) := by
  refine (forGo_foldN (f := mvP) (fun s => sEnv g x1 s (some (.sh (.int p)))) (fun s m => addSrc s m.t p) (fun k b => b.length = s.length ∧ (∀ j, (srcAt b j).length ≤ 20000 + k) ∧ k ≤ 1000) r 0 s ⟨rfl, fun j => hb j, by omega⟩ fun j m b hx h => ?_).1
  obtain ⟨hj, e⟩ := List.getElem?_eq_some_iff.mp hx
  have ht := hr m (e ▸ List.getElem_mem hj)
  have b1 := h.2.1 m.t.toNat
  refine ⟨⟨by rw [addSrc_len]; exact h.1, fun i => ?_, by omega⟩, addSrc_turn (by rw [h.1]; exact ht) (by omega)⟩
  rw [addSrc_at (by omega)]
  have := h.2.1 i
  split
  · simp; omega
  · omega
theorem src_turn (g : Gd marks rows safe) {k : Nat} {s : List (List Int)} {x1 x3 : Option OV} (h : SrcI marks rows k s) (hk : k < marks.length) : Turn (.nm 3) [4] b_reaching_2 (.int (0 + (k : Int))) (sEnv (gmP marks rows safe) x1 s x3) (sEnv (gmP marks rows safe) x1 (srcRow s k (rowAt rows k)) (some (.sh (.int (0 + (k : Int)))))) := by
  have n2 := g.n2
  have ra := row_at (rows := rows) (i := k) (by rw [g.nr]; exact hk)
  have lp := fun x1 => srcRow_loop (g := gmP marks rows safe) (x1 := x1) (p := k) (s := s) (r := rowAt rows k) (by rw [h.len]; exact g.tgt hk) (fun j => by have := h.bd j; omega) (by have := (g.chr hk).2; omega)
  unfold sEnv gmP at *
  refine .of ?_
  unfold b_reaching_2
  simp (disch := walk_at "d") [ra, lp]
theorem src_loop (g : Gd marks rows safe) {x1 : Option OV} : ∃ x3 s, SrcI marks rows marks.length s ∧ forGo (.nm 3) [4] b_reaching_2 (rngP 0 marks.length) (sEnv (gmP marks rows safe) x1 (List.replicate marks.length []) none) = .nx (sEnv (gmP marks rows safe) x1 s x3) := by
  have key := forGo_foldN (T := .nm 3) (fg := [4]) (fb := b_reaching_2) (f := fun (k : Nat) => PV.int (0 + (k : Int))) (fun (b : List (List Int) × Option OV) => sEnv (gmP marks rows safe) x1 b.1 b.2) (fun b k => (srcRow b.1 k (rowAt rows k), some (.sh (.int (0 + (k : Int)))))) (fun k b => SrcI marks rows k b.1) (List.range marks.length) 0 (List.replicate marks.length [], none) src_zero fun j x b hx h => by
    obtain ⟨hj, rfl⟩ := List.getElem?_eq_some_iff.mp hx
    rw [List.length_range] at hj
    rw [List.getElem_range]
    rw [Nat.zero_add] at h ⊢
    exact ⟨src_step g h hj, src_turn g h hj⟩
  rw [← rngP_eq] at key
  refine ⟨_, _, ?_, key.1⟩
  have := key.2
  rwa [Nat.zero_add, List.length_range] at this
/-- the search's state -/
def wEnv (g : PV) (x1 : Option OV) (s : List (List Int)) (fd : List Bool) (w : List Int) : L3.Env := [some (.sh g), x1, some (.sh (.lst (s.map fun l => .lst (l.map .int)))), none, none, some (.own (fd.map fun b => .sh (.bl b))), some (.own (w.map fun i => .sh (.int i)))]
def stepF (st : List Bool × List Int) (i : Int) : List Bool × List Int := if blAt st.1 i.toNat = true then st else (st.1.set i.toNat true, st.2 ++ [i])
def nFalse (fd : List Bool) : Nat := (fd.filter fun b => !b).length
theorem nFalse_set : ∀ {fd : List Bool} {i : Nat}, i < fd.length → blAt fd i = false → nFalse (fd.set i true) + 1 = nFalse fd
  | [], i, h, _ => by simp at h
  | b :: fd, 0, h, e => by
    have : b = false := e
    subst this
    simp [nFalse]
  | b :: fd, i + 1, h, e => by
    have := nFalse_set (fd := fd) (i := i) (by simpa using h) e
    unfold nFalse at this ⊢
    rw [List.set_cons_succ, List.filter_cons, List.filter_cons]
    split
    · simp; omega
    · exact this
theorem stepF_turn {g : PV} {x1 : Option OV} {s : List (List Int)} {st : List Bool × List Int} {i : Int} (hi : 0 ≤ i ∧ i < st.1.length) (hw : st.2.length < 100000) : Turn (.nm 3) [3] b_reaching_3 (.int i) (wEnv g x1 s st.1 st.2) (wEnv g x1 s (stepF st i).1 (stepF st i).2) := by
  obtain ⟨fd, w⟩ := st
  dsimp only at *
  have h1 : 0 ≤ i := hi.1
  have h2 : i < (fd.length : Int) := hi.2
  have ba : atI fd i = some (blAt fd i.toNat) := atI_getI h1 h2
  have lb : (w.map fun i => OV.sh (PV.int i)).length < 16777216 := by simp; omega
  refine .of ?_
  unfold b_reaching_3 wEnv stepF
  dsimp only
  cases c : blAt fd i.toNat with
  | true =>
    rw [c] at ba
    simp (disch := walk_at "d") [ba]
  | false =>
    rw [c] at ba
    simp (disch := walk_at "d") [ba, List.map_set]
end
end K00

end
section
/-! the program's search: plain -/
namespace K00
open PySem L2 L3
local macro_rules | `(tactic| walk_at "d") => `(tactic| first | assumption | omega | (simp only [szl, repP_length, List.length_map, List.length_append, List.length_cons, List.length_nil, List.length_range, List.length_replicate, rngP_length, List.length_set]; omega) | exact Eq.refl _ | (simp; done) | decide)
theorem stepF_fold {n : Nat} : ∀ (l : List Int) (st : List Bool × List Int), st.1.length = n → (∀ i ∈ l, 0 ≤ i ∧ i < n) → (l.foldl stepF st).1.length = n ∧ (∃ z, (l.foldl stepF st).2 = st.2 ++ z ∧ ∀ x ∈ z, x ∈ l) ∧ (∀ j, blAt (l.foldl stepF st).1 j = (blAt st.1 j || decide ((j : Int) ∈ l))) ∧ nFalse (l.foldl stepF st).1 + (l.foldl stepF st).2.length = nFalse st.1 + st.2.length ∧ (∀ j, blAt (l.foldl stepF st).1 j = true → blAt st.1 j = true ∨ (j : Int) ∈ (l.foldl stepF st).2)
  | [], st, hn, _ => ⟨hn, ⟨[], by simp, fun x h => (by cases h)⟩, fun j => by simp, rfl, fun j h => .inl h⟩
  | i :: l, st, hn, hl => by
    have hi := hl i List.mem_cons_self
    have s1 : (stepF st i).1.length = n := by
      unfold stepF
      split
      · exact hn
      · simp [hn]
    obtain ⟨h1, ⟨z, h2, h2'⟩, h3, h4, h5⟩ := stepF_fold l (stepF st i) s1 fun x hx => hl x (List.mem_cons_of_mem _ hx)
    rw [List.foldl_cons]
    have bs : ∀ j, blAt (stepF st i).1 j = (blAt st.1 j || decide ((j : Int) = i)) := by
      intro j
      unfold stepF
      split
      · rename_i c
        by_cases e : (j : Int) = i
        · have : j = i.toNat := by omega
          subst this
          rw [c]; simp
        · simp [e]
      · rw [bl_set (by omega)]
        by_cases e : (j : Int) = i
        · rw [if_pos (by omega)]; simp [e]
        · rw [if_neg (by omega)]; simp [e]
    refine ⟨h1, ?_, fun j => ?_, ?_, fun j hj => ?_⟩
    · unfold stepF at h2 ⊢
      split at h2
      · rename_i c
        rw [if_pos c]
        exact ⟨z, h2, fun x hx => List.mem_cons_of_mem _ (h2' x hx)⟩
      · rename_i c
        rw [if_neg c]
        refine ⟨[i] ++ z, by rw [h2, List.append_assoc], fun x hx => ?_⟩
        rcases List.mem_append.mp hx with hx | hx
        · rw [List.mem_singleton] at hx; rw [hx]; exact List.mem_cons_self
        · exact List.mem_cons_of_mem _ (h2' x hx)
    · rw [h3, bs, Bool.or_assoc]
      congr 1
      by_cases e : (j : Int) = i
      · simp [e]
      · simp [e]
    · rw [h4]
      unfold stepF
      split
      · rfl
      · rename_i c
        have := nFalse_set (fd := st.1) (i := i.toNat) (by omega) (by simpa using c)
        dsimp only
        rw [List.length_append]
        simp only [List.length_cons, List.length_nil]
        omega
    · rcases h5 j hj with h | h
      · rw [bs, Bool.or_eq_true, decide_eq_true_eq] at h
        rcases h with h | h
        · exact .inl h
        · by_cases c : blAt st.1 j = true
          · exact .inl c
          · right
            rw [h2]
            refine List.mem_append_left _ ?_
            unfold stepF
            have e : i.toNat = j := by omega
            rw [e, if_neg c, ← h]
            simp
      · exact .inr h
section
variable {marks safe : List Int} {rows : List (List Mv)}
theorem Rc.head {i j k : Nat} (h : ∃ m ∈ rowAt rows i, m.t = (j : Int)) (r : Rc rows j k) : Rc rows i k := by
  induction r with
  | refl => exact .step .refl h
  | step _ e ih => exact .step ih e
structure RchI (marks : List Int) (rows : List (List Mv)) (mark : Int) (fd : List Bool) (w : List Int) : Prop where
  len : fd.length = marks.length
  wi : ∀ x ∈ w, 0 ≤ x ∧ x < marks.length ∧ blAt fd x.toNat = true
  snd : ∀ j < marks.length, blAt fd j = true → ∃ k, Rc rows j k ∧ el marks k = mark
  mk' : ∀ j < marks.length, el marks j = mark → blAt fd j = true
  cl : ∀ j < marks.length, blAt fd j = true → (j : Int) ∈ w ∨ ∀ i < marks.length, (∃ m ∈ rowAt rows i, m.t = (j : Int)) → blAt fd i = true
theorem rch_step {mark x : Int} {fd : List Bool} {w : List Int} {s : List (List Int)} (hs : SrcI marks rows marks.length s) (h : RchI marks rows mark fd (w ++ [x])) : RchI marks rows mark ((srcAt s x.toNat).foldl stepF (fd, w)).1 ((srcAt s x.toNat).foldl stepF (fd, w)).2 ∧ nFalse ((srcAt s x.toNat).foldl stepF (fd, w)).1 + ((srcAt s x.toNat).foldl stepF (fd, w)).2.length + 1 = nFalse fd + (w ++ [x]).length := by
  have hx := h.wi x (List.mem_append_right _ List.mem_cons_self)
  have hl : ∀ i ∈ srcAt s x.toNat, 0 ≤ i ∧ i < (marks.length : Int) := fun i hi => by
    obtain ⟨a, ha, e, _⟩ := (hs.mem i x.toNat).mp hi
    omega
  obtain ⟨h1, ⟨z, h2, h2'⟩, h3, h4, h5⟩ := stepF_fold (n := marks.length) (srcAt s x.toNat) (fd, w) h.len hl
  dsimp only at h2 h3 h4 h5
  refine ⟨⟨h1, fun y hy => ?_, fun j hj hb => ?_, fun j hj e => ?_, fun j hj hb => ?_⟩, ?_⟩
  · rw [h2] at hy
    rcases List.mem_append.mp hy with hy | hy
    · have := h.wi y (List.mem_append_left _ hy)
      exact ⟨this.1, this.2.1, by rw [h3, this.2.2, Bool.true_or]⟩
    · have r := hl y (h2' y hy)
      refine ⟨r.1, r.2, ?_⟩
      rw [h3, Int.toNat_of_nonneg r.1, decide_eq_true (h2' y hy), Bool.or_true]
  · rw [h3, Bool.or_eq_true, decide_eq_true_eq] at hb
    rcases hb with hb | hb
    · exact h.snd j hj hb
    · obtain ⟨a, ha, e, m⟩ := (hs.mem _ _).mp hb
      have : j = a := by omega
      subst this
      obtain ⟨k, rk, ek⟩ := h.snd x.toNat (by omega) hx.2.2
      exact ⟨k, .head m rk, ek⟩
  · rw [h3, h.mk' j hj e, Bool.true_or]
  · rcases h5 j hb with hb' | hb'
    · rcases h.cl j hj hb' with hw | hc
      · rcases List.mem_append.mp hw with hw | hw
        · left; rw [h2]; exact List.mem_append_left _ hw
        · rw [List.mem_singleton] at hw
          right
          intro i hi m
          rw [h3]
          have : (i : Int) ∈ srcAt s x.toNat := (hs.mem _ _).mpr ⟨i, hi, rfl, by obtain ⟨m, hm, e⟩ := m; exact ⟨m, hm, by omega⟩⟩
          rw [decide_eq_true this, Bool.or_true]
      · right
        intro i hi m
        rw [h3, hc i hi m, Bool.true_or]
    · exact .inl hb'
  · rw [h4, List.length_append]
    simp only [List.length_cons, List.length_nil]
    omega
theorem rch_end {mark : Int} {fd : List Bool} (h : RchI marks rows mark fd []) (g : Gd marks rows safe) {i : Nat} (hi : i < marks.length) : blAt fd i = lawR marks rows i mark := by
  have key : ∀ k, Rc rows i k → blAt fd k = true → blAt fd i = true := by
    intro k r
    induction r with
    | refl => exact fun h => h
    | @step j k hj hm ih =>
      intro hb
      have kl : k < marks.length := Rc.lt g (.step hj hm) hi
      rcases h.cl k kl hb with hw | hc
      · cases hw
      · exact ih (hc j (Rc.lt g hj hi) hm)
  rw [Bool.eq_iff_iff, lawR_iff g hi]
  exact ⟨h.snd i hi, fun ⟨k, r, e⟩ => key k r (h.mk' k (Rc.lt g r hi) e)⟩
end
end K00

end
section
/-! the program's search -/
namespace K00
open PySem L2 L3
local macro_rules | `(tactic| walk_at "d") => `(tactic| first | assumption | omega | (simp only [szl, repP_length, List.length_map, List.length_append, List.length_cons, List.length_nil, List.length_range, List.length_replicate, rngP_length, List.length_set]; omega) | exact Eq.refl _ | (simp; done) | decide)
section
variable {marks safe : List Int} {rows : List (List Mv)}
theorem step_loop {g : PV} {x1 : Option OV} {s : List (List Int)} {l : List Int} {fd : List Bool} {w : List Int} (hl : ∀ i ∈ l, 0 ≤ i ∧ i < fd.length) (hw : w.length ≤ 20000) (hn : l.length ≤ 20000) : forGo (.nm 3) [3] b_reaching_3 (l.map .int) (wEnv g x1 s fd w) = .nx (wEnv g x1 s (l.foldl stepF (fd, w)).1 (l.foldl stepF (fd, w)).2) := by
  refine (forGo_foldN (f := PV.int) (fun (b : List Bool × List Int) => wEnv g x1 s b.1 b.2) stepF (fun k b => b.1.length = fd.length ∧ b.2.length ≤ 20000 + k ∧ k ≤ 20000) l 0 (fd, w) ⟨rfl, by dsimp only; omega, by omega⟩ fun j m b hx h => ?_).1
  obtain ⟨hj, e⟩ := List.getElem?_eq_some_iff.mp hx
  have ht := hl m (e ▸ List.getElem_mem hj)
  refine ⟨?_, stepF_turn (by rw [h.1]; exact ht) (by omega)⟩
  unfold stepF
  split
  · exact ⟨h.1, by omega, by omega⟩
  · refine ⟨by dsimp only; rw [List.length_set]; exact h.1, ?_, by omega⟩
    dsimp only
    rw [List.length_append]
    simp only [List.length_cons, List.length_nil]
    omega
theorem rch_body {g : PV} {x1 : Option OV} {s : List (List Int)} {fd : List Bool} {w : List Int} {x : Int} (hx : 0 ≤ x ∧ x < s.length) (hl : ∀ i ∈ srcAt s x.toNat, 0 ≤ i ∧ i < fd.length) (hw : w.length ≤ 20000) (hn : (srcAt s x.toNat).length ≤ 20000) : b_reaching_4 (wEnv g x1 s fd (w ++ [x])) = .nx (wEnv g x1 s ((srcAt s x.toNat).foldl stepF (fd, w)).1 ((srcAt s x.toNat).foldl stepF (fd, w)).2) := by
  have lp := step_loop (g := g) (x1 := x1) (s := s) hl hw hn
  have sa : atI (s.map fun l => PV.lst (l.map .int)) x = some (.lst ((srcAt s x.toNat).map .int)) := by
    rw [atI_map, atI_getI (d := []) hx.1 hx.2]
    rfl
  unfold wEnv at *
  unfold b_reaching_4
  simp only [List.map_append, List.map_cons, List.map_nil, sForN_at, iN_at, nIx_at, nPop_at, eVar_succ, eVar_zero, pVar_at, atE_succ, atE_zero, getP_nil, ownR_own, popB_ok, popR_snoc, upE_succ, upE_zero, setP_nil]
  rw [ix2N_ok sa, seq1N_ok, forN_ok]
  simp only [wipeE_cons, wipeE_nil, List.set_cons_succ, List.set_cons_zero]
  exact lp
theorem rch_while {g : PV} {x1 : Option OV} {s : List (List Int)} {mark : Int} (hs : SrcI marks rows marks.length s) (h2 : marks.length ≤ 1000) : ∀ (N fuel : Nat) (fd : List Bool) (w : List Int), nFalse fd + w.length ≤ N → N ≤ 1000 → N < fuel → RchI marks rows mark fd w → ∃ fd', whGo [3] (eTru (eOwn 6)) b_reaching_4 fuel (wEnv g x1 s fd w) = .nx (wEnv g x1 s fd' []) ∧ RchI marks rows mark fd' []
  | N, 0, fd, w, _, _, h, _ => by omega
  | N, fuel + 1, fd, w, h1, h1', h, I => by
    rcases List.eq_nil_or_concat w with rfl | ⟨w0, x, rfl⟩
    · refine ⟨fd, whGo_false ?_, I⟩
      unfold wEnv
      simp [truthR]
    · rw [List.concat_eq_append] at *
      have hx := I.wi x (List.mem_append_right _ List.mem_cons_self)
      have hl : ∀ i ∈ srcAt s x.toNat, 0 ≤ i ∧ i < (fd.length : Int) := fun i hi => by
        obtain ⟨a, ha, e, _⟩ := (hs.mem i x.toNat).mp hi
        rw [I.len]
        omega
      have bd := hs.bd x.toNat
      obtain ⟨I2, m⟩ := rch_step hs I
      rw [List.length_append] at h1 m
      simp only [List.length_cons, List.length_nil] at h1 m
      have bo := rch_body (g := g) (x1 := x1) (w := w0) ⟨hx.1, by rw [hs.len]; exact hx.2.1⟩ hl (by omega) (by omega)
      obtain ⟨fd', e, I3⟩ := rch_while hs h2 (N - 1) fuel _ _ (by omega) (by omega) (by omega) I2
      refine ⟨fd', ?_, I3⟩
      rw [whGo_true (ρ2 := wEnv g x1 s ((srcAt s x.toNat).foldl stepF (fd, w0)).1 ((srcAt s x.toNat).foldl stepF (fd, w0)).2) (by unfold wEnv; simp [truthR]) bo]
      exact e
theorem reaching_ok (g : Gd marks rows safe) {mark : Int} : ∃ fd : List Bool, F_reaching [gmP marks rows safe, .int mark] = .ok (.own (fd.map fun b => .sh (.bl b))) ∧ fd.length = marks.length ∧ ∀ i < marks.length, blAt fd i = lawR marks rows i mark := by
  have n2 := g.n2
  obtain ⟨x3, s, S, sl⟩ := src_loop g (x1 := some (.sh (.int mark)))
  have ef : ∀ i, i < marks.length → blAt (marks.map fun m => decide (m = mark)) i = decide (el marks i = mark) := by
    intro i hi
    unfold blAt
    rw [List.getD_eq_getElem?_getD, List.getElem?_map, List.getElem?_eq_getElem hi, el_of hi]
    rfl
  have I0 : RchI marks rows mark (marks.map fun m => decide (m = mark)) (((List.range marks.length).filter fun i => decide (el marks i = mark)).map fun (i : Nat) => (i : Int)) := by
    refine ⟨by simp, fun x hx => ?_, fun j hj hb => ?_, fun j hj e => ?_, fun j hj hb => ?_⟩
    · obtain ⟨a, ha, rfl⟩ := List.mem_map.mp hx
      obtain ⟨a1, a2⟩ := List.mem_filter.mp ha
      rw [List.mem_range] at a1
      exact ⟨by omega, by omega, by rw [Int.toNat_natCast, ef a a1]; exact a2⟩
    · rw [ef j hj, decide_eq_true_eq] at hb
      exact ⟨j, .refl, hb⟩
    · rw [ef j hj, decide_eq_true_eq]; exact e
    · rw [ef j hj] at hb
      left
      exact List.mem_map.mpr ⟨j, List.mem_filter.mpr ⟨List.mem_range.mpr hj, hb⟩, rfl⟩
  have n0 : nFalse (marks.map fun m => decide (m = mark)) + (((List.range marks.length).filter fun i => decide (el marks i = mark)).map fun (i : Nat) => (i : Int)).length ≤ 1000 := by
    have e1 : (((List.range marks.length).filter fun i => decide (el marks i = mark)).map fun (i : Nat) => (i : Int)).length = (marks.filter fun m => decide (m = mark)).length := by
      rw [List.length_map]
      have : marks = (List.range marks.length).map (el marks) := by
        refine List.ext_getElem (by simp) fun i h1 h2 => ?_
        rw [List.getElem_map, List.getElem_range, el_of h1]
      conv => rhs; rw [this]
      rw [List.filter_map, List.length_map]
      rfl
    have e2 : nFalse (marks.map fun m => decide (m = mark)) = (marks.filter fun m => !decide (m = mark)).length := by
      unfold nFalse
      rw [List.filter_map, List.length_map]
      rfl
    rw [e1, e2]
    have : ∀ l : List Int, (l.filter fun m => !decide (m = mark)).length + (l.filter fun m => decide (m = mark)).length = l.length := by
      intro l
      induction l with
      | nil => rfl
      | cons a l ih =>
        rw [List.filter_cons, List.filter_cons]
        by_cases c : a = mark
        · simp [c]; omega
        · simp [c]; omega
    rw [this]
    exact n2
  obtain ⟨fd', wl, I'⟩ := rch_while (g := gmP marks rows safe) (x1 := some (.sh (.int mark))) S n2 _ 2000 _ _ (Nat.le_refl _) n0 (by omega) I0
  refine ⟨fd', ?_, I'.len, fun i hi => rch_end I' g hi⟩
  have l1 : ∀ x1 x4 x5 x6, fLc (.nm 3) [3] (iRg rng1R (aCons (eFld "size" ok_size (eVar 0)) aNil)) tYesB c_reaching_1 [some (.sh (gmP marks rows safe)), x1, none, none, x4, x5, x6] = .ok (.own ((List.replicate marks.length ([] : List Int)).map fun l => .own (l.map fun i => .sh (.int i)))) := by
    intro x1 x4 x5 x6
    refine fLc_at (ps := rngP 0 marks.length) (by unfold gmP; simp (disch := walk_at "d")) (by simp [szl]; omega) ?_
    rw [rngP_eq]
    have : (List.replicate marks.length ([] : List Int)).map (fun l => OV.own (l.map fun i => .sh (.int i))) = (List.range marks.length).map fun _ => OV.own [] := List.ext_getElem (by simp) fun i h1 h2 => by simp
    rw [this]
    refine lcGo_map (f := fun (k : Nat) => PV.int (0 + (k : Int))) _ fun j hj => ?_
    unfold c_reaching_1
    simp (disch := walk_at "d")
  have l2 : ∀ x2 x3 x4 x5 x6, fLc (.nm 3) [3] (iRg rng1R (aCons (eFld "size" ok_size (eVar 0)) aNil)) tYesB c_reaching_2 [some (.sh (gmP marks rows safe)), some (.sh (.int mark)), x2, x3, x4, x5, x6] = .ok (.own ((marks.map fun m => decide (m = mark)).map fun b => .sh (.bl b))) := by
    intro x2 x3 x4 x5 x6
    refine fLc_at (ps := rngP 0 marks.length) (by unfold gmP; simp (disch := walk_at "d")) (by simp [szl]; omega) ?_
    rw [rngP_eq]
    have : (marks.map fun m => decide (m = mark)).map (fun b => OV.sh (.bl b)) = (List.range marks.length).map fun i => OV.sh (.bl (decide (el marks i = mark))) := by
      refine List.ext_getElem (by simp) fun i h1 h2 => ?_
      have : i < marks.length := by simpa using h1
      simp [el_of this]
    rw [this]
    refine lcGo_map (f := fun (k : Nat) => PV.int (0 + (k : Int))) _ fun j hj => ?_
    have hj : j < marks.length := by simpa using hj
    have ma := el_at hj
    unfold c_reaching_2 gmP
    simp (disch := walk_at "d") [ma]
  have l3 : ∀ x1 x2 x3 x4 x6, fLc (.nm 3) [3] (iRg rng1R (aCons (eFld "size" ok_size (eVar 0)) aNil)) t_reaching_1 c_reaching_3 [some (.sh (gmP marks rows safe)), x1, x2, x3, x4, some (.own ((marks.map fun m => decide (m = mark)).map fun b => .sh (.bl b))), x6] = .ok (.own ((((List.range marks.length).filter fun i => decide (el marks i = mark)).map fun (i : Nat) => (i : Int)).map fun i => .sh (.int i))) := by
    intro x1 x2 x3 x4 x6
    refine fLc_at (ps := rngP 0 marks.length) (by unfold gmP; simp (disch := walk_at "d")) (by simp [szl]; omega) ?_
    rw [rngP_eq]
    refine (lcGo_filter (f := fun (k : Nat) => PV.int (0 + (k : Int))) (g := fun (i : Nat) => OV.sh (.int i)) (c := fun i => decide (el marks i = mark)) _ (fun j hj => ?_) fun j hj hc => ?_).trans (by rw [List.map_map]; rfl)
    · have hj : j < marks.length := by simpa using hj
      have ba : atI (marks.map fun m => decide (m = mark)) (j : Int) = some (decide (el marks j = mark)) := by
        rw [atI_map, el_at hj]; rfl
      generalize (marks.map fun m => decide (m = mark)) = fd at *
      unfold t_reaching_1
      simp (disch := walk_at "d") [ba]
    · unfold c_reaching_3
      simp
  generalize (marks.map fun m => decide (m = mark)) = fd0 at *
  generalize (((List.range marks.length).filter fun i => decide (el marks i = mark)).map fun (i : Nat) => (i : Int)) = w0 at *
  generalize List.replicate marks.length ([] : List Int) = s0 at *
  unfold sEnv at sl
  unfold wEnv at wl
  simp only [List.map_nil] at wl
  unfold gmP at *
  rw [F_reaching_at]
  unfold s_reaching fuel_reaching
  simp (disch := walk_at "d") [l1, sl, l2, l3, wl]
end
end K00

end
section
/-! hopeless positions -/
namespace K00
open PySem L2 L3
local macro_rules | `(tactic| walk_at "d") => `(tactic| first | assumption | omega | (simp only [szl, repP_length, List.length_map, List.length_append, List.length_cons, List.length_nil, List.length_range, List.length_replicate, rngP_length, List.length_set]; omega) | exact Eq.refl _ | (simp; done) | decide)
section
variable {marks safe : List Int} {rows : List (List Mv)}
theorem bls_at {l : List Bool} {i : Nat} (h : i < l.length) : atI l (i : Int) = some (blAt l i) := atI_getD h
theorem hopP_turn (g : Gd marks rows safe) {i : Nat} {s : List Int} {f1 f2 : List Bool} (hi : i < marks.length) (hs : s.length ≤ 10000) (l1 : f1.length = marks.length) (l2 : f2.length = marks.length) (e1 : blAt f1 i = lawR marks rows i 3) (e2 : blAt f2 i = lawR marks rows i 4) :
    Turn (.nm 4) [4, 5] b_hopeless_1 (.int (0 + (i : Int))) [some (.sh (gmP marks rows safe)), some (.sh (.lst (f1.map .bl))), some (.sh (.lst (f2.map .bl))), some (.own (s.map fun x => .sh (.int x))), none, none] [some (.sh (gmP marks rows safe)), some (.sh (.lst (f1.map .bl))), some (.sh (.lst (f2.map .bl))), some (.own ((if isHop marks rows i = true then s ++ [(i : Int)] else s).map fun x => .sh (.int x))), none, none] := by
  have mv := mover_ok (rows := rows) (safe := safe) hi
  have mr := g.mr i hi
  have b1 := bls_at (l := f1) (i := i) (by omega)
  have b2 := bls_at (l := f2) (i := i) (by omega)
  rw [e1] at b1
  rw [e2] at b2
  have lb : (s.map fun x => OV.sh (PV.int x)).length < 16777216 := by simp; omega
  refine .of ?_
  unfold gmP at *
  unfold b_hopeless_1 isHop
  by_cases c1 : el marks i = 1
  · rw [if_pos (.inl c1), c1] at mv
    rw [c1, show (5 : Int) - 1 = 4 from rfl]
    cases c : lawR marks rows i 4 with
    | true => rw [c] at b2; simp (disch := walk_at "d") [mv, b1, b2]
    | false => rw [c] at b2; simp (disch := walk_at "d") [mv, b1, b2]
  · by_cases c2 : el marks i = 2
    · rw [if_pos (.inr c2), c2] at mv
      rw [c2, show (5 : Int) - 2 = 3 from rfl]
      cases c : lawR marks rows i 3 with
      | true => rw [c] at b1; simp (disch := walk_at "d") [mv, b1, b2]
      | false => rw [c] at b1; simp (disch := walk_at "d") [mv, b1, b2]
    · rw [if_neg (by omega)] at mv
      have c3 : ¬ el marks i < 3 := by omega
      simp (disch := walk_at "d") [mv, b1, b2, c3]
theorem hopeless_ok (g : Gd marks rows safe) : F_hopeless [gmP marks rows safe] = .ok (.own ((hopL marks rows).map fun x => .sh (.int x))) := by
  have n2 := g.n2
  obtain ⟨f1, r1, l1, e1⟩ := reaching_ok g (mark := 3)
  obtain ⟨f2, r2, l2, e2⟩ := reaching_ok g (mark := 4)
  have key := (forGo_foldN (T := .nm 4) (fg := [4, 5]) (fb := b_hopeless_1) (f := fun (k : Nat) => PV.int (0 + (k : Int))) (fun s => [some (.sh (gmP marks rows safe)), some (.sh (.lst (f1.map .bl))), some (.sh (.lst (f2.map .bl))), some (.own (s.map fun x => .sh (.int x))), none, none]) (fun s i => if isHop marks rows i = true then s ++ [(i : Int)] else s) (fun k b => b.length ≤ k) (List.range marks.length) 0 [] (by simp) fun j m b hx hb => by
    obtain ⟨hj, rfl⟩ := List.getElem?_eq_some_iff.mp hx
    rw [List.length_range] at hj
    rw [List.getElem_range]
    refine ⟨?_, hopP_turn g hj (by omega) l1 l2 (e1 j hj) (e2 j hj)⟩
    split
    · simp; omega
    · omega).1
  rw [← rngP_eq, filt_fold] at key
  unfold hopL
  simp only [List.map_nil] at key
  unfold gmP at *
  rw [F_hopeless_at]
  unfold s_hopeless
  simp (disch := walk_at "d") [key, r1, r2]
end
end K00

end
section
/-! refusals, plain -/
namespace K00
open PySem L2 L3
local macro_rules | `(tactic| walk_at "d") => `(tactic| first | assumption | omega | (simp only [szl, repP_length, List.length_map, List.length_append, List.length_cons, List.length_nil, List.length_range, List.length_replicate, rngP_length, List.length_set]; omega) | exact Eq.refl _ | (simp; done) | decide)
theorem take_set {α : Type} {l : List α} {p : Nat} {x : α} (h : p < l.length) : l.take p ++ x :: l.drop (p + 1) = l.set p x := by
  rw [List.set_eq_take_append_cons_drop, if_pos h]
theorem set_at {rows : List (List Mv)} {p j : Nat} {r : List Mv} (hp : p < rows.length) : rowAt (rows.set p r) j = if j = p then r else rowAt rows j := by
  show (rows.set p r).getD j [] = _
  rw [List.getD_eq_getElem?_getD, List.getElem?_set]
  by_cases h : j = p
  · subst h
    simp [hp]
  · have h' : ¬ p = j := fun z => h z.symm
    rw [if_neg h', if_neg h]
    unfold rowAt
    rw [List.getD_eq_getElem?_getD]
/-- rows as lists of lists -/
theorem rws_of {rows : List (List Mv)} (h : ∀ i < rows.length, okChr (rowAt rows i) ∧ (rowAt rows i).length ≤ 1000) : Rws (lMoves rows) (rows.map fun r => .lst (r.map mvP)) rows := by
  refine ⟨.inl rfl, by simp, fun i hi => .inl ?_, h⟩
  unfold pvAt rowAt
  simp [List.getD_eq_getElem?_getD, hi]
section
variable {marks safe : List Int} {rows : List (List Mv)}
theorem bad_rows (g : Gd marks rows safe) {rows2 : List (List Mv)} {p : Nat} (hp : p < marks.length) (hl : rows2.length = rows.length) (hc : ∀ i < rows.length, okChr (rowAt rows2 i) ∧ (rowAt rows2 i).length ≤ 1000) (he : ∀ i < p, rowAt rows2 i = rowAt rows i) (hb : fitP (el marks p) (rowAt rows2 p) marks.length (blAt (gOf marks.length safe) p) = false) : F_p_law_bad [.lst (marks.map .int), lMoves rows2, .lst (safe.map .int), .int p] = .ok (.sh (.bl true)) := by
  refine bad_of (init_fit (.inl rfl) (rws_of (rows := rows2) fun i hi => hc i (by omega)) (.inl rfl) (by rw [hl]; exact g.nr) g.n2 g.sf hp (fun i hi => ?_) hb)
  have := g.fitI g.sf (i := i) (by omega) (g.se i (by omega))
  unfold fitI at this ⊢
  rw [he i hi]
  exact this
theorem bad_set (g : Gd marks rows safe) {p : Nat} {r : List Mv} (hp : p < marks.length) (hr : okChr r ∧ r.length ≤ 1000) (hb : fitP (el marks p) r marks.length (blAt (gOf marks.length safe) p) = false) : F_p_law_bad [.lst (marks.map .int), .lst ((rows.map fun r => PV.lst (r.map mvP)).take p ++ PV.lst (r.map mvP) :: (rows.map fun r => PV.lst (r.map mvP)).drop (p + 1)), .lst (safe.map .int), .int p] = .ok (.sh (.bl true)) := by
  have hp2 : p < rows.length := by rw [g.nr]; exact hp
  have := bad_rows g (rows2 := rows.set p r) hp (by simp) (fun i hi => by
    rw [set_at hp2]
    split
    · exact hr
    · have := g.chr (i := i) (by rw [← g.nr]; exact hi)
      exact ⟨this.1, by omega⟩) (fun i hi => by rw [set_at hp2, if_neg (by omega)]) (by rw [set_at hp2, if_pos rfl]; exact hb)
  rw [take_set (by rw [List.length_map]; exact hp2)]
  unfold lMoves at this
  rw [List.map_set] at this
  exact this
theorem bad_safe (g : Gd marks rows safe) {s : List Int} (h : gFit marks.length (-1) s = false) : F_p_law_bad [.lst (marks.map .int), lMoves rows, .lst (s.map .int), .int (-1)] = .ok (.sh (.bl true)) :=
  bad_of (init_guard (.inl rfl) (rws_lst g).s (.inl rfl) (by rw [(rws_lst g).len]; exact g.nr) g.n1 g.n2 h)
theorem bad_guard (g : Gd marks rows safe) {p : Nat} (hp : p < marks.length) (hm : ¬ el marks p < 3) : F_p_law_bad [.lst (marks.map .int), lMoves rows, .lst [.int p], .int p] = .ok (.sh (.bl true)) := by
  have gf : gFit marks.length (-1) [(p : Int)] = true := by
    unfold gFit
    rw [decide_eq_false (by omega), decide_eq_false (by omega)]
    rfl
  refine bad_of (init_fit (safe := [(p : Int)]) (.inl rfl) (rws_lst g) (.inl rfl) g.nr g.n2 gf hp (fun i hi => ?_) ?_)
  · refine g.fitI gf (by omega) fun h => ?_
    have : (i : Int) = p := by simpa using h
    omega
  · have mr := g.mr p hp
    unfold fitI fitP
    rw [if_neg (by omega), if_pos (by omega), gOf_at gf]
    simp
theorem el_set {l : List Int} {p i : Nat} {v : Int} (hp : p < l.length) : el (l.set p v) i = if i = p then v else el l i := by
  unfold el
  rw [List.getD_eq_getElem?_getD, List.getElem?_set, List.getD_eq_getElem?_getD]
  by_cases h : i = p
  · subst h
    simp [hp]
  · have h' : ¬ p = i := fun z => h z.symm
    rw [if_neg h', if_neg h]
theorem bad_mark (g : Gd marks rows safe) {p : Nat} {v : Int} (hp : p < marks.length) (hv : v = 0 ∨ v = 6) : F_p_law_bad [.lst ((marks.map .int).take p ++ .int v :: (marks.map .int).drop (p + 1)), lMoves rows, .lst [], .int p] = .ok (.sh (.bl true)) := by
  rw [take_set (by rw [List.length_map]; exact hp)]
  have e : (marks.map PV.int).set p (.int v) = (marks.set p v).map .int := by rw [List.map_set]
  rw [e]
  have ln : (marks.set p v).length = marks.length := List.length_set
  refine bad_of (init_fit (safe := []) (.inl rfl) (rws_lst g) (.inl rfl) (by rw [ln]; exact g.nr) (by rw [ln]; exact g.n2) rfl (by rw [ln]; exact hp) (fun i hi => ?_) ?_)
  · have := g.fitI (sf := []) rfl (i := i) (by omega) (fun h => by cases h)
    unfold fitI at this ⊢
    rw [ln, el_set hp, if_neg (by omega)]
    exact this
  · unfold fitI fitP
    rw [el_set hp, if_pos rfl, if_neg (by omega), if_neg (by omega)]
theorem bad_size (g : Gd marks rows safe) : F_p_law_bad [.lst (marks.map .int ++ [.int 5]), lMoves rows, .lst (safe.map .int), .int (-1)] = .ok (.sh (.bl true)) := by
  refine bad_of (init_size (marks := marks ++ [5]) (.inl (by simp)) (rws_lst g).s (.inr (.inr ?_)))
  rw [(rws_lst g).len, g.nr]
  simp
theorem bad_empty : F_p_law_bad [.lst [], .lst [], .lst [], .int (-1)] = .ok (.sh (.bl true)) :=
  bad_of (init_size (marks := []) (rl := []) (.inl rfl) (.inl rfl) (.inl (by simp)))
theorem base_ok (g : Gd marks rows safe) : F_p_law_base [.lst (marks.map .int), lMoves rows] = .ok (.sh (.bl true)) :=
  base_of (init_guard (safe := [-1]) (.inl rfl) (rws_lst g).s (.inl rfl) (by rw [(rws_lst g).len]; exact g.nr) g.n1 g.n2 (by
    unfold gFit
    simp))
end
end K00

end
section
/-! broken moves -/
namespace K00
open PySem L2 L3
local macro_rules | `(tactic| walk_at "d") => `(tactic| first | assumption | omega | (simp only [szl, repP_length, List.length_map, List.length_append, List.length_cons, List.length_nil, List.length_range, List.length_replicate, rngP_length, List.length_set]; omega) | exact Eq.refl _ | (simp; done) | decide)
theorem s_A : ("A" : Str) = mkS [65] := by decide +kernel
theorem s_e : ("" : Str) = mkS [] := by decide +kernel
theorem s_z : ("z" : Str) = mkS [122] := by decide +kernel
theorem s_u : ("_" : Str) = mkS [95] := by decide +kernel
theorem s_4 : pyMul (.str "a0") (.int 4) = .ok (.str (mkS [97, 48, 97, 48, 97, 48, 97, 48])) := by kernel_rfl
theorem s_0 : slR (.str "a_") (some 0) (some 1) = .ok (.str (mkS [97])) := by kernel_rfl
theorem s_1 : slR (.str "a_") (some 1) (some 2) = .ok (.str (mkS [95])) := by kernel_rfl
def brk (m : Mv) (way size : Int) : Mv :=
  if way = 0 then ⟨m.w ++ [65], m.t, m.n, m.d⟩
  else if way = 1 then ⟨[], m.t, m.n, m.d⟩
  else if way = 2 then ⟨[97, 48, 97, 48, 97, 48, 97, 48, 122], m.t, m.n, m.d⟩
  else if way = 3 then ⟨m.w, size, m.n, m.d⟩
  else if way = 4 then ⟨m.w, -1, m.n, m.d⟩
  else if way = 5 then ⟨m.w, m.t, 10, m.d⟩
  else if way = 6 then ⟨m.w, m.t, m.n, m.n + 1⟩
  else if way = 7 then ⟨m.w, m.t, m.n, -1⟩
  else if way = 8 then ⟨[97, 95], m.t, m.n, m.d⟩
  else ⟨[95, 95], m.t, m.n, m.d⟩
theorem ways {way : Int} (h : 0 ≤ way ∧ way < 10) : way = 0 ∨ way = 1 ∨ way = 2 ∨ way = 3 ∨ way = 4 ∨ way = 5 ∨ way = 6 ∨ way = 7 ∨ way = 8 ∨ way = 9 := by omega
theorem broken_ok {m : Mv} {way size : Int} (h : 0 ≤ way ∧ way < 10) (hw : m.w.length ≤ 1000) : F_p_law_broken [mvP m, .int way, .int size] = .ok (.sh (mvP (brk m way size))) := by
  have a0 := add_S (l := m.w) (r := [65]) (by simp; omega)
  have a2 := add_S (l := [97, 48, 97, 48, 97, 48, 97, 48]) (r := [122]) (by simp)
  have a8 := add_S (l := [97]) (r := [95]) (by simp)
  have a9 := add_S (l := [95]) (r := [95]) (by simp)
  have t0 := s_4
  have t1 := s_0
  have t2 := s_1
  simp only [List.cons_append, List.nil_append] at a2 a8 a9
  unfold mvP brk
  rw [F_p_law_broken_at]
  unfold s_p_law_broken
  rw [s_A, s_e, s_z, s_u]
  rcases ways h with rfl | rfl | rfl | rfl | rfl | rfl | rfl | rfl | rfl | rfl <;> simp (disch := walk_at "d") [a0, a2, a8, a9, t0, t1, t2]
theorem isW_bad {l : List Nat} (h : l.length = 0 ∨ 8 < l.length ∨ 65 ∈ l ∨ 95 ∈ l) : isW l = false := by
  unfold isW
  rcases h with h | h | h | h
  · rw [decide_eq_false (by omega)]; rfl
  · rw [decide_eq_false (p := l.length ≤ 8) (by omega)]; simp
  · have : (l.all fun c => decide (c ∈ sgn)) = false := by
      rw [Bool.eq_false_iff]
      intro z
      have := of_decide_eq_true (List.all_eq_true.mp z 65 h)
      exact bad_not 65 (.inl rfl) this
    rw [this]; simp
  · have : (l.all fun c => decide (c ∈ sgn)) = false := by
      rw [Bool.eq_false_iff]
      intro z
      have := of_decide_eq_true (List.all_eq_true.mp z 95 h)
      exact bad_not 95 (.inr rfl) this
    rw [this]; simp
theorem brk_bad {m : Mv} {way : Int} {size : Nat} (h : 0 ≤ way ∧ way < 10) (hs : 0 < size) : okB size (brk m way size) = false := by
  unfold brk okB
  rcases ways h with rfl | rfl | rfl | rfl | rfl | rfl | rfl | rfl | rfl | rfl
  · rw [if_pos rfl]; dsimp only; rw [isW_bad (.inr (.inr (.inl (by simp))))]; rfl
  · rw [if_neg (by decide), if_pos rfl]; dsimp only; rw [isW_bad (.inl rfl)]; rfl
  · rw [if_neg (by decide), if_neg (by decide), if_pos rfl]; dsimp only; rw [isW_bad (.inr (.inl (by decide)))]; rfl
  · simp
  · simp
  · simp
  · simp
    intros
    omega
  · simp
  · simp only [show ¬ (8 : Int) = 0 by decide, show ¬ (8 : Int) = 1 by decide, show ¬ (8 : Int) = 2 by decide, show ¬ (8 : Int) = 3 by decide, show ¬ (8 : Int) = 4 by decide, show ¬ (8 : Int) = 5 by decide, show ¬ (8 : Int) = 6 by decide, show ¬ (8 : Int) = 7 by decide, if_false, if_true]
    rw [isW_bad (.inr (.inr (.inr (by decide))))]; rfl
  · simp only [show ¬ (9 : Int) = 0 by decide, show ¬ (9 : Int) = 1 by decide, show ¬ (9 : Int) = 2 by decide, show ¬ (9 : Int) = 3 by decide, show ¬ (9 : Int) = 4 by decide, show ¬ (9 : Int) = 5 by decide, show ¬ (9 : Int) = 6 by decide, show ¬ (9 : Int) = 7 by decide, show ¬ (9 : Int) = 8 by decide, if_false]
    rw [isW_bad (.inr (.inr (.inr (by decide))))]; rfl
theorem brk_chr {m : Mv} {way size : Int} (hm : Chr m.w ∧ m.w.length ≤ 999) : Chr (brk m way size).w ∧ (brk m way size).w.length ≤ 1000 := by
  have c1 : Chr [97, 48, 97, 48, 97, 48, 97, 48, 122] := by
    have : ∀ c ∈ [97, 48, 97, 48, 97, 48, 97, 48, 122], c ∈ sgn := by decide
    exact fun c hc => .inl (this c hc)
  have c2 : Chr [97, 95] := by
    intro c hc
    simp at hc
    rcases hc with rfl | rfl
    · left; decide
    · right; right; rfl
  have c3 : Chr [95, 95] := by
    intro c hc
    simp at hc
    right; right; exact hc
  unfold brk
  repeat' split
  all_goals dsimp only
  · refine ⟨fun c hc => ?_, by simp; omega⟩
    rcases List.mem_append.mp hc with hc | hc
    · exact hm.1 c hc
    · rw [List.mem_singleton] at hc
      exact .inr (.inl hc)
  · exact ⟨fun c hc => (by cases hc), by simp⟩
  · exact ⟨c1, by simp⟩
  · exact ⟨hm.1, by omega⟩
  · exact ⟨hm.1, by omega⟩
  · exact ⟨hm.1, by omega⟩
  · exact ⟨hm.1, by omega⟩
  · exact ⟨hm.1, by omega⟩
  · exact ⟨c2, by simp⟩
  · exact ⟨c3, by simp⟩
end K00

end
section
/-! worse rows -/
namespace K00
open PySem L2 L3
local macro_rules | `(tactic| walk_at "d") => `(tactic| first | assumption | omega | (simp only [szl, repP_length, List.length_map, List.length_append, List.length_cons, List.length_nil, List.length_range, List.length_replicate, rngP_length, List.length_set]; omega) | exact Eq.refl _ | (simp; done) | decide)
/-- a row that may have been made anew -/
def encW (b : Bool × List Mv) : OV := if b.1 = true then .own (b.2.map fun m => .sh (mvP m)) else .sh (.lst (b.2.map mvP))
theorem encW_pv {b : Bool × List Mv} : (encW b).pv = .lst (b.2.map mvP) := by
  obtain ⟨c, r⟩ := b
  cases c
  · simp [encW]
  · simp [encW]
theorem encW_pv' : OV.pv ∘ encW = fun b => .lst (b.2.map mvP) := funext fun b => encW_pv
def bAt (cell : Int) (r : List Mv) : Nat := (cell / 7 % (r.length : Int)).toNat
def brkRow (rows : List (List Mv)) (cell way size : Int) (i : Nat) : List Mv := (rowAt rows i).set (bAt cell (rowAt rows i)) (brk (mvAt (rowAt rows i) (bAt cell (rowAt rows i))) way size)
def stepW (rows : List (List Mv)) (cell way size : Int) (first : Nat) (W : List (Bool × List Mv)) (i : Nat) : List (Bool × List Mv) := if first ≤ i then W.set i (true, brkRow rows cell way size i) else W
def wAt (W : List (Bool × List Mv)) (j : Nat) : List Mv := (W.getD j (false, [])).2
theorem stepW_fold {rows : List (List Mv)} {cell way size : Int} {first n : Nat} : ∀ (l : List Nat) (W : List (Bool × List Mv)), W.length = n → (∀ i ∈ l, i < n) → (l.foldl (stepW rows cell way size first) W).length = n ∧ ∀ j, wAt (l.foldl (stepW rows cell way size first) W) j = if j ∈ l ∧ first ≤ j then brkRow rows cell way size j else wAt W j
  | [], W, h, _ => ⟨h, fun j => by simp⟩
  | i :: l, W, h, hl => by
    have hi := hl i List.mem_cons_self
    have s1 : (stepW rows cell way size first W i).length = n := by
      unfold stepW
      split
      · rw [List.length_set]; exact h
      · exact h
    obtain ⟨h1, h2⟩ := stepW_fold l (stepW rows cell way size first W i) s1 fun x hx => hl x (List.mem_cons_of_mem _ hx)
    rw [List.foldl_cons]
    refine ⟨h1, fun j => ?_⟩
    rw [h2]
    by_cases c : j ∈ l ∧ first ≤ j
    · rw [if_pos c, if_pos ⟨List.mem_cons_of_mem _ c.1, c.2⟩]
    · rw [if_neg c]
      unfold stepW
      by_cases f : first ≤ i
      · rw [if_pos f]
        unfold wAt
        rw [List.getD_eq_getElem?_getD, List.getElem?_set]
        by_cases e : i = j
        · subst e
          rw [if_pos rfl, if_pos (by omega), if_pos ⟨List.mem_cons_self, f⟩]
          rfl
        · rw [if_neg e, if_neg fun z => ?_, List.getD_eq_getElem?_getD]
          rcases List.mem_cons.mp z.1 with q | q
          · exact e q.symm
          · exact c ⟨q, z.2⟩
      · rw [if_neg f, if_neg fun z => ?_]
        rcases List.mem_cons.mp z.1 with q | q
        · omega
        · exact c ⟨q, z.2⟩
section
variable {marks safe : List Int} {rows : List (List Mv)}
def qEnv (x0 : Option OV) (rows : List (List Mv)) (x2 : Option OV) (way cell size : Int) (x6 x7 : Option OV) (first : Nat) (W : List (Bool × List Mv)) (x13 x14 x15 : Option OV) : L3.Env := [x0, some (.sh (lMoves rows)), x2, some (.sh (.int way)), some (.sh (.int cell)), some (.sh (.int size)), x6, x7, none, some (.sh (.int first)), some (.own (W.map encW)), none, none, x13, x14, x15]
theorem worse_turn (g : Gd marks rows safe) {i first : Nat} {way cell size : Int} {x0 x2 x6 x7 x13 x14 x15 : Option OV} {W : List (Bool × List Mv)} (hi : i < marks.length) (hm : el marks i < 3) (hw : 0 ≤ way ∧ way < 10) (hW : W.length = marks.length) : Turn (.nm 8) [8, 11, 12] b_p_law_refusals_2 (.int (i : Int)) (qEnv x0 rows x2 way cell size x6 x7 first W x13 x14 x15) (qEnv x0 rows x2 way cell size x6 x7 first (stepW rows cell way size first W i) x13 x14 x15) := by
  refine .of ?_
  unfold b_p_law_refusals_2 qEnv stepW
  by_cases f : first ≤ i
  · have rl := g.rl i hi hm
    have ra := lrow_at (rows := rows) (i := i) (by rw [g.nr]; exact hi)
    have ba : cell / 7 % ((rowAt rows i).length : Int) = (bAt cell (rowAt rows i) : Nat) := by
      unfold bAt
      have := Int.emod_nonneg (cell / 7) (show ((rowAt rows i).length : Int) ≠ 0 by omega)
      omega
    have bl : bAt cell (rowAt rows i) < (rowAt rows i).length := by
      have := Int.emod_lt_of_pos (cell / 7) (show (0 : Int) < ((rowAt rows i).length : Int) by omega)
      omega
    have va : atI (rowAt rows i) (bAt cell (rowAt rows i) : Int) = some (mvAt (rowAt rows i) (bAt cell (rowAt rows i))) := atI_getD bl
    have hx : mvAt (rowAt rows i) (bAt cell (rowAt rows i)) ∈ rowAt rows i := by
      unfold mvAt
      rw [getD_of bl]
      exact List.getElem_mem bl
    have ch := (g.chr hi).1 _ hx
    have bo := broken_ok (size := size) hw ch.2
    have cp : ∀ m : Mv, (capR false (.ok (.sh (mvP m))) : R OV) = .ok (.sh (mvP m)) := fun m => capR_flat (by simp [flat_mv])
    have f1 : (first : Int) ≤ (i : Int) := by omega
    have hW' : i < W.length := by omega
    unfold brkRow
    generalize bAt cell (rowAt rows i) = k at *
    unfold lMoves
    simp (disch := walk_at "d") [f, f1, ra, ba, va, bo, cp, List.map_set, encW]
    rfl
  · have f1 : ¬ (first : Int) ≤ (i : Int) := by omega
    simp (disch := walk_at "d") [f, f1]
end
end K00

end
section
/-! refusals, loops -/
namespace K00
open PySem L2 L3
local macro_rules | `(tactic| walk_at "d") => `(tactic| first | assumption | omega | (simp only [szl, repP_length, List.length_map, List.length_append, List.length_cons, List.length_nil, List.length_range, List.length_replicate, rngP_length, List.length_set]; omega) | exact Eq.refl _ | (simp; done) | decide)
theorem add_take {l : List PV} {i : Nat} {x : PV} (hl : l.length ≤ 1000) : pyAdd (.lst (l.take i)) (.lst [x]) = .ok (.lst (l.take i ++ [x])) := add_lst (by simp only [szl, List.length_take, List.length_cons, List.length_nil]; omega)
theorem add_drop {l : List PV} {i : Nat} {x : PV} (hl : l.length ≤ 1000) : pyAdd (.lst (l.take i ++ [x])) (.lst (l.drop (i + 1))) = .ok (.lst (l.take i ++ x :: l.drop (i + 1))) := by
  rw [add_lst (by simp only [szl, List.length_append, List.length_take, List.length_drop, List.length_cons, List.length_nil]; omega), List.append_assoc]
  rfl
theorem s_a : ("a" : Str) = mkS [97] := by decide +kernel
section
variable {marks safe : List Int} {rows : List (List Mv)}
theorem ends_turn (g : Gd marks rows safe) {i : Nat} {cell : Int} {x3 x5 x6 x7 x9 x10 x11 x12 x13 x14 x15 : Option OV} (hi : i < marks.length) (hm : ¬ el marks i < 3) : Turn (.nm 8) [8] b_p_law_refusals_1 (.int (i : Int)) [some (.sh (.lst (marks.map .int))), some (.sh (lMoves rows)), some (.sh (.lst (safe.map .int))), x3, some (.sh (.int cell)), x5, x6, x7, none, x9, x10, x11, x12, x13, x14, x15] [some (.sh (.lst (marks.map .int))), some (.sh (lMoves rows)), some (.sh (.lst (safe.map .int))), x3, some (.sh (.int cell)), x5, x6, x7, none, x9, x10, x11, x12, x13, x14, x15] := by
  have n2 := g.n2
  have mr := g.mr i hi
  have b1 := bad_guard g hi hm
  have b2 := bad_set g (r := [⟨[97], 0, 1, 1⟩]) hi ⟨fun m h => (by
    rw [List.mem_singleton] at h
    subst h
    refine ⟨fun c hc => ?_, by simp⟩
    rw [List.mem_singleton] at hc
    subst hc
    left; decide), by simp⟩ (by
    unfold fitP
    rw [if_neg (by omega), if_pos (by omega)]
    rfl)
  have b3 := bad_mark g (v := 6 * (cell % 2)) hi (by omega)
  have at1 := fun x => add_take (l := rows.map fun r => PV.lst (r.map mvP)) (i := i) (x := x) (by rw [List.length_map, g.nr]; omega)
  have at2 := fun x => add_drop (l := rows.map fun r => PV.lst (r.map mvP)) (i := i) (x := x) (by rw [List.length_map, g.nr]; omega)
  have at3 := fun x => add_take (l := marks.map PV.int) (i := i) (x := x) (by rw [List.length_map]; omega)
  have at4 := fun x => add_drop (l := marks.map PV.int) (i := i) (x := x) (by rw [List.length_map]; omega)
  have tn : ((i : Int) + 1).toNat = i + 1 := by omega
  simp only [List.map_cons, List.map_nil, mvP, ← s_a] at b2
  refine .of ?_
  unfold b_p_law_refusals_1
  unfold lMoves at *
  simp (disch := walk_at "d") [b1, b2, b3, at1, at2, at3, at4, tn]
theorem wrong_turn (g : Gd marks rows safe) {i : Nat} {r : List Mv} {x3 x4 x5 x6 x7 x8 x10 x11 x12 x13 : Option OV} (hi : i < marks.length) (hr : okChr r ∧ r.length ≤ 1000) (hb : fitP (el marks i) r marks.length (blAt (gOf marks.length safe) i) = false) : Turn (.nm 14) [14, 15] b_p_law_refusals_3 (.lst (r.map mvP)) [some (.sh (.lst (marks.map .int))), some (.sh (lMoves rows)), some (.sh (.lst (safe.map .int))), x3, x4, x5, x6, x7, x8, some (.sh (.int i)), x10, x11, x12, x13, none, none] [some (.sh (.lst (marks.map .int))), some (.sh (lMoves rows)), some (.sh (.lst (safe.map .int))), x3, x4, x5, x6, x7, x8, some (.sh (.int i)), x10, x11, x12, x13, none, none] := by
  have n2 := g.n2
  have b2 := bad_set g hi hr hb
  have at1 := fun x => add_take (l := rows.map fun r => PV.lst (r.map mvP)) (i := i) (x := x) (by rw [List.length_map, g.nr]; omega)
  have at2 := fun x => add_drop (l := rows.map fun r => PV.lst (r.map mvP)) (i := i) (x := x) (by rw [List.length_map, g.nr]; omega)
  have tn : ((i : Int) + 1).toNat = i + 1 := by omega
  refine .of ?_
  unfold b_p_law_refusals_3
  unfold lMoves at *
  simp (disch := walk_at "d") [b2, at1, at2, tn]
/-- movers and ends -/
def moversN (marks : List Int) : List Nat := (List.range marks.length).filter fun i => decide (el marks i < 3)
def endsN (marks : List Int) : List Nat := (List.range marks.length).filter fun i => decide (2 < el marks i)
theorem movers_lc {x1 x2 x3 x4 x6 x7 x9 x10 x11 x12 x13 x14 x15 : Option OV} (h : marks.length ≤ 1000) : fLc (.nm 8) [8] (iRg rng1R (aCons (eVar 5) aNil)) t_p_law_refusals_1 c_p_law_refusals_1 [some (.sh (.lst (marks.map .int))), x1, x2, x3, x4, some (.sh (.int marks.length)), x6, x7, none, x9, x10, x11, x12, x13, x14, x15] = .ok (.own ((moversN marks).map fun (i : Nat) => .sh (.int i))) := by
  refine fLc_at (ps := rngP 0 marks.length) (by simp (disch := walk_at "d")) (by simp [szl]; omega) ?_
  rw [rngP_eq]
  refine lcGo_filter (f := fun (k : Nat) => PV.int (0 + (k : Int))) _ (fun j hj => ?_) fun j hj hc => ?_
  · have hj : j < marks.length := by simpa using hj
    have ma := el_at hj
    unfold t_p_law_refusals_1
    simp (disch := walk_at "d") [ma]
  · unfold c_p_law_refusals_1
    simp
theorem ends_lc {x1 x2 x3 x4 x6 x7 x9 x10 x11 x12 x13 x14 x15 : Option OV} (h : marks.length ≤ 1000) : fLc (.nm 8) [8] (iRg rng1R (aCons (eVar 5) aNil)) t_p_law_refusals_2 c_p_law_refusals_2 [some (.sh (.lst (marks.map .int))), x1, x2, x3, x4, some (.sh (.int marks.length)), x6, x7, none, x9, x10, x11, x12, x13, x14, x15] = .ok (.own ((endsN marks).map fun (i : Nat) => .sh (.int i))) := by
  refine fLc_at (ps := rngP 0 marks.length) (by simp (disch := walk_at "d")) (by simp [szl]; omega) ?_
  rw [rngP_eq]
  refine lcGo_filter (f := fun (k : Nat) => PV.int (0 + (k : Int))) _ (fun j hj => ?_) fun j hj hc => ?_
  · have hj : j < marks.length := by simpa using hj
    have ma := el_at hj
    unfold t_p_law_refusals_2
    simp (disch := walk_at "d") [ma]
  · unfold c_p_law_refusals_2
    simp
theorem moversN_mem {i : Nat} : i ∈ moversN marks ↔ i < marks.length ∧ el marks i < 3 := by
  unfold moversN
  rw [List.mem_filter, List.mem_range, decide_eq_true_eq]
theorem endsN_mem {i : Nat} : i ∈ endsN marks ↔ i < marks.length ∧ 2 < el marks i := by
  unfold endsN
  rw [List.mem_filter, List.mem_range, decide_eq_true_eq]
theorem moversN_inc : (moversN marks).Pairwise (· < ·) := List.Pairwise.filter _ List.pairwise_lt_range
end
end K00

end
section
/-! refusals: rows -/
namespace K00
open PySem L2 L3
local macro_rules | `(tactic| walk_at "d") => `(tactic| first | assumption | omega | (simp only [szl, repP_length, List.length_map, List.length_append, List.length_cons, List.length_nil, List.length_range, List.length_replicate, rngP_length, List.length_set]; omega) | exact Eq.refl _ | (simp; done) | decide)
def dig (k : Nat) : List Nat := if k < 10 then [48 + k] else [49, 48 + (k - 10)]
theorem dig_ok0 : ∀ k : Fin 17, (toString ((k : Nat) : Int) : Str) = mkS (dig k) := by decide +kernel
theorem dig_str {k : Nat} (h : k < 17) : bStr [.int (k : Int)] = .ok (.str (mkS (dig k))) := by
  rw [str_int (log2_le (by rw [Int.natAbs_natCast]; exact Nat.lt_of_lt_of_le h (by decide)) (by decide))]
  have := dig_ok0 ⟨k, h⟩
  dsimp only at this
  rw [this]
def aMv (first k : Nat) : Mv := ⟨[97] ++ dig k, first, 0, 0⟩
theorem aMv_chr0 : ∀ k : Fin 17, ∀ c ∈ [97] ++ dig k, c ∈ sgn := by decide
theorem aMv_chr {first : Nat} : okChr ((List.range 17).map (aMv first)) := by
  intro m hm
  obtain ⟨k, hk, rfl⟩ := List.mem_map.mp hm
  have hk : k < 17 := by simpa using hk
  refine ⟨fun c hc => .inl (aMv_chr0 ⟨k, hk⟩ c hc), ?_⟩
  unfold aMv dig
  dsimp only
  split <;> simp
section
variable {marks safe : List Int} {rows : List (List Mv)}
theorem rows17 {i : Nat} {x0 x1 x2 x3 x4 x5 x6 x7 x8 x10 x11 x12 x13 x14 : Option OV} : fLc (.nm 15) [15] (iRg rng1R (aCons (eCst (.int 17)) aNil)) tYesB c_p_law_refusals_3 [x0, x1, x2, x3, x4, x5, x6, x7, x8, some (.sh (.int (i : Int))), x10, x11, x12, x13, x14, none] = .ok (.own (((List.range 17).map (aMv i)).map fun m => .sh (mvP m))) := by
  refine fLc_at (ps := rngP 0 17) (by simp (disch := walk_at "d")) (by simp [szl]) ?_
  rw [rngP_eq, List.map_map]
  refine lcGo_map (f := fun (k : Nat) => PV.int (0 + (k : Int))) _ fun k hk => ?_
  have hk : k < 17 := by simpa using hk
  have d := dig_str hk
  have a := add_S (l := [97]) (r := dig k) (by unfold dig; split <;> simp)
  rw [← s_a] at a
  unfold c_p_law_refusals_3
  simp (disch := walk_at "d") [d, a, aMv, mvP]
def twice (rows : List (List Mv)) (cell : Int) (i : Nat) : List Mv := (rowAt rows i).take 16 ++ [mvAt (rowAt rows i) (cell / 11 % ((rowAt rows i).length : Int)).toNat]
theorem twice_bad (g : Gd marks rows safe) {i : Nat} {cell : Int} (hi : i < marks.length) (hm : el marks i < 3) : (okChr (twice rows cell i) ∧ (twice rows cell i).length ≤ 1000) ∧ fitR marks.length (twice rows cell i) = false := by
  have rl := g.rl i hi hm
  have bl : (cell / 11 % ((rowAt rows i).length : Int)).toNat < (rowAt rows i).length := by
    have := Int.emod_lt_of_pos (cell / 11) (show (0 : Int) < ((rowAt rows i).length : Int) by omega)
    have := Int.emod_nonneg (cell / 11) (show ((rowAt rows i).length : Int) ≠ 0 by omega)
    omega
  have ch := g.chr hi
  unfold twice
  generalize (cell / 11 % ((rowAt rows i).length : Int)).toNat = j at *
  have hx : mvAt (rowAt rows i) j ∈ rowAt rows i := by
    unfold mvAt
    rw [getD_of bl]
    exact List.getElem_mem bl
  refine ⟨⟨fun m h => ?_, by simp; omega⟩, ?_⟩
  · rcases List.mem_append.mp h with h | h
    · exact ch.1 m (List.mem_of_mem_take h)
    · rw [List.mem_singleton] at h
      rw [h]
      exact ch.1 _ hx
  · unfold fitR
    by_cases c : (rowAt rows i).length = 16
    · rw [decide_eq_true (p := 16 < _) (by simp; omega)]
      simp
    · rw [List.take_of_length_le (by omega), fitM_seen _ _ _ (.inr ⟨_, hx, rfl⟩), Bool.and_false]
theorem fitP_mover {marks : List Int} {i : Nat} {r : List Mv} {size : Int} {b : Bool} (h : el marks i = 1 ∨ el marks i = 2) : fitP (el marks i) r size b = fitR size r := by
  unfold fitP
  rw [if_pos h]
theorem worse_bad (g : Gd marks rows safe) {first : Nat} {way cell : Int} (hi : first < marks.length) (hm : el marks first < 3) (hw : 0 ≤ way ∧ way < 10) {W : List (Bool × List Mv)} (hW : W = (moversN marks).foldl (stepW rows cell way marks.length first) (rows.map fun r => (false, r))) : F_p_law_bad [.lst (marks.map .int), .lst (W.map fun b => .lst (b.2.map mvP)), .lst (safe.map .int), .int first] = .ok (.sh (.bl true)) := by
  obtain ⟨w1, w2⟩ := stepW_fold (rows := rows) (cell := cell) (way := way) (size := marks.length) (first := first) (n := marks.length) (moversN marks) (rows.map fun r => (false, r)) (by rw [List.length_map]; exact g.nr) fun i h => (moversN_mem.mp h).1
  rw [← hW] at w1 w2
  have w0 : ∀ j, wAt (rows.map fun r => (false, r)) j = rowAt rows j := by
    intro j
    unfold wAt rowAt
    rw [List.getD_eq_getElem?_getD, List.getD_eq_getElem?_getD, List.getElem?_map]
    cases rows[j]? <;> rfl
  have wr : ∀ j, rowAt (W.map (·.2)) j = wAt W j := by
    intro j
    unfold wAt rowAt
    rw [List.getD_eq_getElem?_getD, List.getD_eq_getElem?_getD, List.getElem?_map]
    cases W[j]? <;> rfl
  have bk : ∀ j < marks.length, el marks j < 3 → okChr (brkRow rows cell way marks.length j) ∧ (brkRow rows cell way marks.length j).length ≤ 1000 ∧ ((brkRow rows cell way marks.length j).length ≤ 16 ∧ ∃ m ∈ brkRow rows cell way marks.length j, okB marks.length m = false) := by
    intro j hj hm
    have rl := g.rl j hj hm
    have bl : bAt cell (rowAt rows j) < (rowAt rows j).length := by
      unfold bAt
      have := Int.emod_lt_of_pos (cell / 7) (show (0 : Int) < ((rowAt rows j).length : Int) by omega)
      have := Int.emod_nonneg (cell / 7) (show ((rowAt rows j).length : Int) ≠ 0 by omega)
      omega
    have hx : mvAt (rowAt rows j) (bAt cell (rowAt rows j)) ∈ rowAt rows j := by
      unfold mvAt
      rw [getD_of bl]
      exact List.getElem_mem bl
    have ow := isW_chr (okB_W (g.ok j hj hm _ hx))
    unfold brkRow
    refine ⟨okChr_set (g.chr hj).1 (brk_chr ⟨ow.1, by omega⟩), by rw [List.length_set]; omega, by rw [List.length_set]; omega, _, List.mem_set bl _, brk_bad hw (by omega)⟩
  have key := bad_rows g (rows2 := W.map (·.2)) (p := first) hi (by rw [List.length_map, w1, g.nr]) (fun j hj => by
    have hj : j < marks.length := by rw [← g.nr]; exact hj
    rw [wr, w2, w0]
    split
    · rename_i c
      have := bk j hj (moversN_mem.mp c.1).2
      exact ⟨this.1, this.2.1⟩
    · have := g.chr hj
      exact ⟨this.1, by omega⟩) (fun j hj => by
    rw [wr, w2, w0, if_neg (by omega)]) (by
    have mr := g.mr first hi
    rw [wr, w2, w0, if_pos ⟨moversN_mem.mpr ⟨hi, hm⟩, Nat.le_refl _⟩, fitP_mover (by omega)]
    unfold fitR
    rw [fitM_bad _ _ (bk first hi hm).2.2.2, Bool.and_false])
  unfold lMoves at key
  rw [List.map_map] at key
  exact key
end
end K00

end
section
/-! refusals -/
namespace K00
open PySem L2 L3
local macro_rules | `(tactic| walk_at "d") => `(tactic| first | assumption | omega | (simp only [szl, repP_length, List.length_map, List.length_append, List.length_cons, List.length_nil, List.length_range, List.length_replicate, rngP_length, List.length_set]; omega) | exact Eq.refl _ | (simp; done) | decide)
section
variable {marks safe : List Int} {rows : List (List Mv)}
theorem ends_loop (g : Gd marks rows safe) {cell : Int} {x3 x5 x6 x7 x9 x10 x11 x12 x13 x14 x15 : Option OV} : forGo (.nm 8) [8] b_p_law_refusals_1 ((endsN marks).map fun (i : Nat) => PV.int i) [some (.sh (.lst (marks.map .int))), some (.sh (lMoves rows)), some (.sh (.lst (safe.map .int))), x3, some (.sh (.int cell)), x5, x6, x7, none, x9, x10, x11, x12, x13, x14, x15] = .nx [some (.sh (.lst (marks.map .int))), some (.sh (lMoves rows)), some (.sh (.lst (safe.map .int))), x3, some (.sh (.int cell)), x5, x6, x7, none, x9, x10, x11, x12, x13, x14, x15] := by
  refine forGo_same (f := fun (i : Nat) => PV.int i) _ fun i hi => ?_
  have := endsN_mem.mp hi
  exact ends_turn g this.1 (by omega)
theorem worse_loop (g : Gd marks rows safe) {first : Nat} {way cell : Int} {x0 x2 x6 x7 x13 x14 x15 : Option OV} (hw : 0 ≤ way ∧ way < 10) : forGo (.nm 8) [8, 11, 12] b_p_law_refusals_2 ((moversN marks).map fun (i : Nat) => PV.int i) (qEnv x0 rows x2 way cell marks.length x6 x7 first (rows.map fun r => (false, r)) x13 x14 x15) = .nx (qEnv x0 rows x2 way cell marks.length x6 x7 first ((moversN marks).foldl (stepW rows cell way marks.length first) (rows.map fun r => (false, r))) x13 x14 x15) := by
  refine (forGo_fold (f := fun (i : Nat) => PV.int i) (fun W => qEnv x0 rows x2 way cell marks.length x6 x7 first W x13 x14 x15) (stepW rows cell way marks.length first) (fun W => W.length = marks.length) _ _ (by rw [List.length_map]; exact g.nr) fun i hi W hW => ?_).1
  have := moversN_mem.mp hi
  refine ⟨?_, worse_turn g this.1 this.2 hw hW⟩
  unfold stepW
  split
  · rw [List.length_set]; exact hW
  · exact hW
theorem wrong_loop (g : Gd marks rows safe) {i : Nat} {cell : Int} {x3 x4 x5 x6 x7 x8 x10 x11 x12 x13 : Option OV} (hi : i < marks.length) (hm : el marks i < 3) : forGo (.nm 14) [14, 15] b_p_law_refusals_3 [.lst [], .lst ((twice rows cell i).map mvP), .lst (((List.range 17).map (aMv i)).map mvP)] [some (.sh (.lst (marks.map .int))), some (.sh (lMoves rows)), some (.sh (.lst (safe.map .int))), x3, x4, x5, x6, x7, x8, some (.sh (.int i)), x10, x11, x12, x13, none, none] = .nx [some (.sh (.lst (marks.map .int))), some (.sh (lMoves rows)), some (.sh (.lst (safe.map .int))), x3, x4, x5, x6, x7, x8, some (.sh (.int i)), x10, x11, x12, x13, none, none] := by
  have mr := g.mr i hi
  have hmm : el marks i = 1 ∨ el marks i = 2 := by omega
  have tw := twice_bad g (cell := cell) hi hm
  have t1 := fun x3 x4 x5 x6 x7 x8 x10 x11 x12 x13 => wrong_turn g (r := []) (x3 := x3) (x4 := x4) (x5 := x5) (x6 := x6) (x7 := x7) (x8 := x8) (x10 := x10) (x11 := x11) (x12 := x12) (x13 := x13) hi ⟨fun m h => (by cases h), by simp⟩ (by rw [fitP_mover hmm]; rfl)
  have t2 := fun x3 x4 x5 x6 x7 x8 x10 x11 x12 x13 => wrong_turn g (r := twice rows cell i) (x3 := x3) (x4 := x4) (x5 := x5) (x6 := x6) (x7 := x7) (x8 := x8) (x10 := x10) (x11 := x11) (x12 := x12) (x13 := x13) hi tw.1 (by rw [fitP_mover hmm]; exact tw.2)
  have t3 := fun x3 x4 x5 x6 x7 x8 x10 x11 x12 x13 => wrong_turn g (r := (List.range 17).map (aMv i)) (x3 := x3) (x4 := x4) (x5 := x5) (x6 := x6) (x7 := x7) (x8 := x8) (x10 := x10) (x11 := x11) (x12 := x12) (x13 := x13) hi ⟨aMv_chr, by simp⟩ (by
    rw [fitP_mover hmm]
    unfold fitR
    rw [decide_eq_true (p := 16 < _) (by simp)]
    simp)
  rw [List.map_nil] at t1
  rw [(t1 _ _ _ _ _ _ _ _ _ _).go, (t2 _ _ _ _ _ _ _ _ _ _).go, (t3 _ _ _ _ _ _ _ _ _ _).go]
  rfl
theorem refusals_ok (g : Gd marks rows safe) {way cell : Int} (hw : 0 ≤ way ∧ way < 10) (hc : 0 ≤ cell) : F_p_law_refusals [.lst (marks.map .int), lMoves rows, .lst (safe.map .int), .int way, .int cell] = .ok (.sh (.bl true)) := by
  have n2 := g.n2
  have l1 := fun x1 x2 x3 x4 x6 x7 x9 x10 x11 x12 x13 x14 x15 => movers_lc (marks := marks) (x1 := x1) (x2 := x2) (x3 := x3) (x4 := x4) (x6 := x6) (x7 := x7) (x9 := x9) (x10 := x10) (x11 := x11) (x12 := x12) (x13 := x13) (x14 := x14) (x15 := x15) n2
  have l2 := fun x1 x2 x3 x4 x6 x7 x9 x10 x11 x12 x13 x14 x15 => ends_lc (marks := marks) (x1 := x1) (x2 := x2) (x3 := x3) (x4 := x4) (x6 := x6) (x7 := x7) (x9 := x9) (x10 := x10) (x11 := x11) (x12 := x12) (x13 := x13) (x14 := x14) (x15 := x15) n2
  have b1 := bad_size g
  have b2 := bad_empty
  have b3 := bad_safe g (s := [(marks.length : Int)]) (by unfold gFit; simp)
  have b4 := bad_safe g (s := [-1]) (by unfold gFit; simp)
  simp only [List.map_cons, List.map_nil] at b3 b4
  have lp1 := fun x3 x5 x6 x7 x9 x10 x11 x12 x13 x14 x15 => ends_loop g (cell := cell) (x3 := x3) (x5 := x5) (x6 := x6) (x7 := x7) (x9 := x9) (x10 := x10) (x11 := x11) (x12 := x12) (x13 := x13) (x14 := x14) (x15 := x15)
  by_cases hz : (moversN marks).length = 0
  · have hz' : moversN marks = [] := List.length_eq_zero_iff.mp hz
    unfold lMoves at *
    rw [F_p_law_refusals_at]
    unfold s_p_law_refusals
    rw [hz'] at l1
    simp (disch := walk_at "d") [l1, l2, b1, b2, b3, b4, lp1]
  · obtain ⟨k, ek, hk⟩ : ∃ k : Nat, cell % ((moversN marks).length : Int) = (k : Int) ∧ k < (moversN marks).length := ⟨(cell % ((moversN marks).length : Int)).toNat, by have := Int.emod_nonneg cell (show ((moversN marks).length : Int) ≠ 0 by omega); omega, by have := Int.emod_lt_of_pos cell (show (0 : Int) < ((moversN marks).length : Int) by omega); omega⟩
    obtain ⟨first, ef⟩ : ∃ first, (moversN marks)[k] = first := ⟨_, rfl⟩
    have fm := moversN_mem.mp (ef ▸ List.getElem_mem hk)
    have af : atI ((moversN marks).map fun (i : Nat) => PV.int i) (k : Int) = some (.int first) := by
      rw [atI_map, atI_natP, List.getElem?_eq_getElem hk, ef]
      rfl
    have b5 := bad_safe g (s := [(first : Int), first]) (by unfold gFit; unfold gFit; simp)
    simp only [List.map_cons, List.map_nil] at b5
    have lp2 := fun x0 x2 x6 x7 x13 x14 x15 => worse_loop g (first := first) (cell := cell) (x0 := x0) (x2 := x2) (x6 := x6) (x7 := x7) (x13 := x13) (x14 := x14) (x15 := x15) hw
    have b6 := worse_bad g (cell := cell) fm.1 fm.2 hw rfl
    generalize (moversN marks).foldl (stepW rows cell way marks.length first) (rows.map fun r => (false, r)) = W at *
    have lp3 := fun x3 x4 x5 x6 x7 x8 x10 x11 x12 x13 => wrong_loop g (cell := cell) (x3 := x3) (x4 := x4) (x5 := x5) (x6 := x6) (x7 := x7) (x8 := x8) (x10 := x10) (x11 := x11) (x12 := x12) (x13 := x13) fm.1 fm.2
    have ra := lrow_at (rows := rows) (i := first) (by rw [g.nr]; exact fm.1)
    have r17 := fun x0 x1 x2 x3 x4 x5 x6 x7 x8 x10 x11 x12 x13 x14 => rows17 (i := first) (x0 := x0) (x1 := x1) (x2 := x2) (x3 := x3) (x4 := x4) (x5 := x5) (x6 := x6) (x7 := x7) (x8 := x8) (x10 := x10) (x11 := x11) (x12 := x12) (x13 := x13) (x14 := x14)
    have rl := g.rl first fm.1 fm.2
    unfold qEnv at lp2
    have w0 : (rows.map fun r => (false, r)).map encW = rows.map (OV.sh ∘ fun r => PV.lst (r.map mvP)) := by rw [List.map_map]; rfl
    rw [w0] at lp2
    have ea : atI (rowAt rows first) (cell / 11 % ((rowAt rows first).length : Int)) = some (mvAt (rowAt rows first) (cell / 11 % ((rowAt rows first).length : Int)).toNat) := atI_getI (Int.emod_nonneg _ (by omega)) (Int.emod_lt_of_pos _ (by omega))
    have tw : pyAdd (.lst (((rowAt rows first).map mvP).take 16)) (.lst [mvP (mvAt (rowAt rows first) (cell / 11 % ((rowAt rows first).length : Int)).toNat)]) = .ok (.lst ((twice rows cell first).map mvP)) := by
      rw [add_lst (by simp only [szl, List.length_take, List.length_map, List.length_cons, List.length_nil]; omega)]
      unfold twice
      rw [List.map_append, List.map_take]
      rfl
    have b7 : ∀ a b : Nat, (moversN marks)[0]? = some a → (moversN marks)[1]? = some b → F_p_law_bad [.lst (marks.map .int), .lst (rows.map fun r => .lst (r.map mvP)), .lst [.int b, .int a], .int (-1)] = .ok (.sh (.bl true)) := by
      intro a b h0 h1
      obtain ⟨q0, e0⟩ := List.getElem?_eq_some_iff.mp h0
      obtain ⟨q1, e1⟩ := List.getElem?_eq_some_iff.mp h1
      have lt := List.pairwise_iff_getElem.mp (moversN_inc (marks := marks)) 0 1 q0 q1 (by omega)
      rw [e0, e1] at lt
      exact bad_safe g (s := [(b : Int), a]) (by unfold gFit; unfold gFit; rw [decide_eq_true (p := (a : Int) ≤ b) (by omega)]; simp)
    unfold lMoves at *
    rw [F_p_law_refusals_at]
    unfold s_p_law_refusals
    have e17 : ((List.range 17).map (aMv first)).map mvP = (List.range 17).map (fun x => mvP (aMv first x)) := by rw [List.map_map]; rfl
    simp only [e17] at lp3
    have cb : (capR false (.ok (.sh (.bl true))) : R OV) = .ok (.sh (.bl true)) := capR_flat (by simp)
    by_cases h2 : (moversN marks).length < 2
    · have h2' : ((moversN marks).length : Int) < 2 := by omega
      simp (disch := walk_at "d") [l1, l2, b1, b2, b3, b4, lp1, hz, ek, af, b5, lp2, b6, lp3, ra, r17, encW_pv, ea, tw, cb, h2']
    · have h2' : ¬ ((moversN marks).length : Int) < 2 := by omega
      have i0 : atI (moversN marks) 0 = some (moversN marks)[0] := by
        have := atI_natP (l := moversN marks) (k := 0)
        rw [List.getElem?_eq_getElem (by omega)] at this
        exact this
      have i1 : atI (moversN marks) 1 = some (moversN marks)[1] := by
        have := atI_natP (l := moversN marks) (k := 1)
        rw [List.getElem?_eq_getElem (by omega)] at this
        exact this
      have b8 := b7 _ _ (List.getElem?_eq_getElem (show 0 < (moversN marks).length by omega)) (List.getElem?_eq_getElem (show 1 < (moversN marks).length by omega))
      simp (disch := walk_at "d") [l1, l2, b1, b2, b3, b4, lp1, hz, ek, af, b5, lp2, b6, lp3, ra, r17, encW_pv, ea, tw, cb, h2', i0, i1, b8]
end
end K00

end
section
/-! a thousand positions -/
namespace K00
open PySem L2 L3
local macro_rules | `(tactic| walk_at "d") => `(tactic| first | assumption | omega | (simp only [szl, repP_length, List.length_map, List.length_append, List.length_cons, List.length_nil, List.length_range, List.length_replicate, rngP_length, List.length_set]; omega) | exact Eq.refl _ | (simp; done) | decide)
theorem minL_ge {n : Int} : ∀ {l : List Int}, l ≠ [] → (n ≤ minL l ↔ ∀ x ∈ l, n ≤ x)
  | [], h => absurd rfl h
  | [a], _ => by simp [minL]
  | a :: b :: l, _ => by
    have := minL_ge (n := n) (l := b :: l) (by simp)
    rw [minL, List.forall_mem_cons, ← this]
    · omega
    · intro h; cases h
theorem bMin_ok {l : List Int} (h : l ≠ []) : bMin [.lst (l.map .int)] = .ok (.int (minL l)) := by
  have e := toInts_map (f := fun x : Int => x) (l := l)
  rw [List.map_id' l] at e
  cases l with
  | nil => exact absurd rfl h
  | cons a l =>
    have e : toInts ((a :: l).map .int) = some (a :: l) := e
    simp only [bMin, e]
section
variable {marks safe : List Int} {rows : List (List Mv)}
theorem min_five (g : Gd marks rows safe) : (minL marks = 5) ↔ marks.map tM = marks := by
  have n1 := g.n1
  have ne : marks ≠ [] := fun z => by rw [z] at n1; simp at n1
  constructor
  · intro h
    have h2 := (minL_ge (n := 5) ne).mp (by omega)
    have : marks.map tM = marks.map id := List.map_congr_left fun m hm => by
      have := h2 m hm
      have := g.mem m hm
      have e : m = 5 := by omega
      rw [e]; rfl
    rw [this, List.map_id]
  · intro h
    have all : ∀ i < marks.length, el marks i = 5 := by
      intro i hi
      have e := el_map (f := tM) hi
      rw [h] at e
      have := tM_val (g.mr i hi)
      omega
    have a1 : 5 ≤ minL marks := (minL_ge (n := 5) ne).mpr fun x hx => by
      obtain ⟨i, hi, e⟩ := List.getElem_of_mem hx
      have := all i hi
      rw [el_of hi] at this
      omega
    have a2 : ¬ 6 ≤ minL marks := fun z => by
      have := (minL_ge (n := 6) ne).mp z (el marks 0) (el_mem (by omega))
      have := all 0 (by omega)
      omega
    omega
end
theorem rep_at {n i : Nat} {v : Int} (h : i < n) : el (List.replicate n v) i = v := by
  unfold el
  simp [List.getD_eq_getElem?_getD, h]
theorem repr_at {n i : Nat} : rowAt (List.replicate n []) i = [] := by
  unfold rowAt
  rw [List.getD_eq_getElem?_getD]
  by_cases h : i < n
  · simp [h]
  · simp [h]
theorem rep_map {n : Nat} : repP (.int 5) n = (List.replicate n 5).map PV.int := by simp [repP]
theorem many_ok : F_Game_init [.lst (repP (.int 5) 1000), .lst ((List.range 1000).map fun _ => PV.lst []), .tup []] = .ok (gmO (List.replicate 1000 5) (List.replicate 1000 []) []) := by
  rw [rep_map]
  generalize e : 1000 = n
  have hn : 1 ≤ n ∧ n ≤ 1000 := by omega
  clear e
  have er : ((List.range n).map fun _ => PV.lst []) = (List.replicate n ([] : List Mv)).map fun r => PV.lst (r.map mvP) := List.ext_getElem (by simp) fun i h1 h2 => by simp
  rw [er]
  refine init_ok (safe := []) (.inl rfl) (rws_of fun i hi => ?_) (.inr rfl) (by simp) (by simp; omega) (by simp; omega) rfl fun i hi => ?_
  · rw [repr_at]
    exact ⟨fun m h => (by cases h), by simp⟩
  · have hi : i < n := by simpa using hi
    unfold fitI fitP
    rw [rep_at hi, repr_at, gOf_at rfl]
    simp
theorem many_bad : F_p_law_bad [.lst (repP (.int 5) 1001), .lst ((List.range 1001).map fun _ => PV.lst []), .tup [], .int (-1)] = .ok (.sh (.bl true)) := by
  rw [rep_map]
  generalize e : 1001 = n
  have hn : 1000 < n := by omega
  clear e
  exact bad_of (init_size (marks := List.replicate n 5) (rl := (List.range n).map fun _ => PV.lst []) (.inl rfl) (.inl rfl) (.inr (.inl (by simp; omega))))
theorem empty_lc8 {x0 x1 x2 x3 x4 x5 x6 x7 x8 x9 x10 x11 x12 x13 x14 x15 x16 : Option OV} : fLc (.nm 17) [17] (iRg rng1R (aCons (eCst (.int 1000)) aNil)) tYesB c_law_8 [x0, x1, x2, x3, x4, x5, x6, x7, x8, x9, x10, x11, x12, x13, x14, x15, x16, none] = .ok (.own ((List.range 1000).map fun _ => .sh (.lst []))) := by
  refine fLc_at (ps := rngP 0 1000) (by simp (disch := walk_at "d")) (by simp [szl]) ?_
  generalize e : 1000 = n
  clear e
  rw [rngP_eq]
  refine lcGo_map (f := fun (k : Nat) => PV.int (0 + (k : Int))) (g := fun _ => .sh (.lst [])) _ fun k hk => ?_
  unfold c_law_8
  simp (disch := walk_at "d")
theorem empty_lc10 {x0 x1 x2 x3 x4 x5 x6 x7 x8 x9 x10 x11 x12 x13 x14 x15 x16 : Option OV} : fLc (.nm 17) [17] (iRg rng1R (aCons (eCst (.int 1001)) aNil)) tYesB c_law_10 [x0, x1, x2, x3, x4, x5, x6, x7, x8, x9, x10, x11, x12, x13, x14, x15, x16, none] = .ok (.own ((List.range 1001).map fun _ => .sh (.lst []))) := by
  refine fLc_at (ps := rngP 0 1001) (by simp (disch := walk_at "d")) (by simp [szl]) ?_
  generalize e : 1001 = n
  clear e
  rw [rngP_eq]
  refine lcGo_map (f := fun (k : Nat) => PV.int (0 + (k : Int))) (g := fun _ => .sh (.lst [])) _ fun k hk => ?_
  unfold c_law_10
  simp (disch := walk_at "d")
end K00

end
section
/-! the law: parts -/
namespace K00
open PySem L2 L3
local macro_rules | `(tactic| walk_at "d") => `(tactic| first | assumption | omega | (simp only [szl, repP_length, List.length_map, List.length_append, List.length_cons, List.length_nil, List.length_range, List.length_replicate, rngP_length, List.length_set]; omega) | exact Eq.refl _ | (simp; done) | decide)
section
variable {marks safe : List Int} {rows : List (List Mv)}
theorem lrows_lc {x0 x1 x3 x4 x5 x6 x7 x8 x9 x10 x11 x12 x13 x15 x16 x17 : Option OV} (h : rows.length ≤ 1000) : fLc (.nm 14) [14] (iSeq (eVar 2)) tYesB c_law_2 [x0, x1, some (.sh (lMoves rows)), x3, x4, x5, x6, x7, x8, x9, x10, x11, x12, x13, none, x15, x16, x17] = .ok (.own (rows.map fun r => .own (r.map fun m => .sh (mvP m)))) := by
  refine fLc_at (ps := rows.map fun r => .lst (r.map mvP)) (by simp [lMoves]) (by simp [szl]; omega) ?_
  refine lcGo_map (f := fun r : List Mv => PV.lst (r.map mvP)) _ fun r hr => ?_
  unfold c_law_2
  simp
theorem lrows_lc1 {x0 x1 x3 x4 x5 x6 x7 x8 x9 x10 x11 x12 x13 x15 x16 x17 : Option OV} (h : rows.length ≤ 1000) : fLc (.nm 14) [14] (iSeq (eVar 2)) tYesB c_law_1 [x0, x1, some (.sh (lMoves rows)), x3, x4, x5, x6, x7, x8, x9, x10, x11, x12, x13, none, x15, x16, x17] = .ok (.own (rows.map fun r => .own (r.map fun m => .sh (mvP m)))) := lrows_lc h
theorem ltups_lc {x0 x1 x3 x4 x5 x6 x7 x8 x9 x10 x11 x12 x13 x15 x16 x17 : Option OV} (h : rows.length ≤ 1000) : fLc (.nm 14) [14] (iSeq (eVar 2)) tYesB c_law_3 [x0, x1, some (.sh (lMoves rows)), x3, x4, x5, x6, x7, x8, x9, x10, x11, x12, x13, none, x15, x16, x17] = .ok (.own (rows.map fun r => .sh (rowT r))) := by
  refine fLc_at (ps := rows.map fun r => .lst (r.map mvP)) (by simp [lMoves]) (by simp [szl]; omega) ?_
  refine lcGo_map (f := fun r : List Mv => PV.lst (r.map mvP)) _ fun r hr => ?_
  unfold c_law_3
  simp [rowT]
theorem tmarks_lc (g : Gd marks rows safe) {x0 x2 x3 x4 x5 x6 x7 x8 x9 x10 x11 x12 x13 x14 x16 x17 : Option OV} : fLc (.nm 15) [15] (iSeq (eVar 1)) tYesB c_law_5 [x0, some (.sh (.lst (marks.map .int))), x2, x3, x4, x5, x6, x7, x8, x9, x10, x11, x12, x13, x14, none, x16, x17] = .ok (.own ((marks.map tM).map fun m => .sh (.int m))) := by
  have n2 := g.n2
  refine fLc_at (ps := marks.map .int) (by simp) (by simp [szl]; omega) ?_
  rw [List.map_map]
  refine lcGo_map (f := PV.int) _ fun m hm => ?_
  have := tM_at (g.mem m hm)
  unfold c_law_5
  simp (disch := walk_at "d") [this]
theorem lmovers_lc (h : marks.length ≤ 1000) {x0 x2 x3 x5 x6 x7 x8 x9 x10 x11 x12 x13 x14 x15 x17 : Option OV} : fLc (.nm 16) [16] (iRg rng1R (aCons (eVar 4) aNil)) t_law_1 c_law_6 [x0, some (.sh (.lst (marks.map .int))), x2, x3, some (.sh (.int marks.length)), x5, x6, x7, x8, x9, x10, x11, x12, x13, x14, x15, none, x17] = .ok (.own ((moversN marks).map fun (i : Nat) => .sh (.int i))) := by
  refine fLc_at (ps := rngP 0 marks.length) (by simp (disch := walk_at "d")) (by simp [szl]; omega) ?_
  rw [rngP_eq]
  refine lcGo_filter (f := fun (k : Nat) => PV.int (0 + (k : Int))) _ (fun j hj => ?_) fun j hj hc => ?_
  · have hj : j < marks.length := by simpa using hj
    have ma := el_at hj
    unfold t_law_1
    simp (disch := walk_at "d") [ma]
  · unfold c_law_6
    simp
theorem place_all (g : Gd marks rows safe) {big : Int} {x0 x4 x5 x7 x10 x11 x12 x13 x14 x15 x16 x17 : Option OV} (b0 : 9 ≤ big) (b1 : big ≤ 10 ^ 30) : forGo (.nm 9) [9] b_law_1 (rngP 0 marks.length) [x0, some (.sh (.lst (marks.map .int))), some (.sh (lMoves rows)), some (.sh (.lst (safe.map .int))), x4, x5, some (.sh (gmP marks rows safe)), x7, some (.sh (.int big)), none, x10, x11, x12, x13, x14, x15, x16, x17] = .nx [x0, some (.sh (.lst (marks.map .int))), some (.sh (lMoves rows)), some (.sh (.lst (safe.map .int))), x4, x5, some (.sh (gmP marks rows safe)), x7, some (.sh (.int big)), none, x10, x11, x12, x13, x14, x15, x16, x17] := by
  rw [rngP_eq]
  refine forGo_same (f := fun (k : Nat) => PV.int (0 + (k : Int))) _ fun i hi => ?_
  have hi : i < marks.length := by simpa using hi
  have p := place_ok g hi b0 b1
  refine .of ?_
  unfold b_law_1
  simp (disch := walk_at "d") [p]
theorem ch_all (g : Gd marks rows safe) {n : List Int} {x0 x5 x8 x10 x11 x12 x13 x14 x15 x17 : Option OV} (h0 : ∃ v, atI n 1 = some v ∧ 0 ≤ v) : forGo (.nm 9) [9, 16] b_law_2 ((moversN marks).map fun (i : Nat) => PV.int i) [x0, some (.sh (.lst (marks.map .int))), some (.sh (lMoves rows)), some (.sh (.lst (safe.map .int))), some (.sh (.int marks.length)), x5, some (.sh (gmP marks rows safe)), some (.sh (.lst (n.map .int))), x8, none, x10, x11, x12, x13, x14, x15, none, x17] = .nx [x0, some (.sh (.lst (marks.map .int))), some (.sh (lMoves rows)), some (.sh (.lst (safe.map .int))), some (.sh (.int marks.length)), x5, some (.sh (gmP marks rows safe)), some (.sh (.lst (n.map .int))), x8, none, x10, x11, x12, x13, x14, x15, none, x17] := by
  refine forGo_same (f := fun (i : Nat) => PV.int i) _ fun i hi => ?_
  have hm := moversN_mem.mp hi
  obtain ⟨v, e, hv⟩ := h0
  have n2 := g.n2
  have hl := hm.1
  have ra := lrow_at (rows := rows) (i := i) (by rw [g.nr]; exact hm.1)
  have c := changed_ok g (c := v + 37 * (i : Int)) hm.1 hm.2 (by omega)
  have er := errors_ok g hm.1
  refine .of ?_
  unfold lMoves at *
  unfold b_law_2
  simp (disch := walk_at "d") [ra, c, er, e]
theorem ne_handed (g : Gd marks rows safe) {p : PV} (hp : p = .lst [.lst (marks.map .int), lMoves rows, .lst (safe.map .int)]) : pyNe p p = .ok (.bl false) := by
  have c : cln 4 p = true := by
    have h1 : cln 3 (.lst (marks.map .int)) = true := by simp [cln]
    have h3 : cln 3 (.lst (safe.map .int)) = true := by simp [cln]
    have h2 : cln 3 (lMoves rows) = true := by
      simp only [lMoves, cln, List.all_map, List.all_eq_true]
      intro r hr
      show cln 2 (.lst (r.map mvP)) = true
      simp only [cln, List.all_map, List.all_eq_true]
      exact fun m hm => cln_mv ((g.chrs r hr) m hm).1
    rw [hp]
    simp only [cln, List.all_cons, List.all_nil, Bool.and_true, Bool.and_eq_true]
    exact ⟨h1, h2, h3⟩
  rw [ne_cln 4 (by omega) c c]
  simp
end
end K00

end
section
/-! the law -/
namespace K00
open PySem L2 L3
local macro_rules | `(tactic| walk_at "d") => `(tactic| first | assumption | omega | (simp only [szl, repP_length, List.length_map, List.length_append, List.length_cons, List.length_nil, List.length_range, List.length_replicate, rngP_length, List.length_set]; omega) | exact Eq.refl _ | (simp; done) | decide)
/-! places within places -/
section
variable {l : List OV} {j : Nat} {n x : OV} {s : Stp} {π : List Stp}
def setL (l : List OV) (j : Nat) (π : List Stp) (n : OV) : Option OV → OV
  | some o => .own (l.set j (setP π o n))
  | none => .own l
@[simp] theorem setL_some : setL l j π n (some x) = .own (l.set j (setP π x n)) := nr rfl
@[simp] theorem setP_ixx : setP (.ix j :: s :: π) (.own l) n = setL l j (s :: π) n l[j]? := by
  rw [setP_ix]
  cases l[j]? <;> rfl
end
theorem gFit_len {size : Int} : ∀ (l : List Int) (last : Int), last < size → gFit size last l = true → (l.length : Int) + last + 1 ≤ size
  | [], last, h, _ => by simp; omega
  | x :: l, last, h, e => by
    unfold gFit at e
    rw [Bool.and_eq_true, Bool.not_eq_true', Bool.or_eq_false_iff, decide_eq_false_iff_not, decide_eq_false_iff_not] at e
    have := gFit_len l x (by omega) e.2
    rw [List.length_cons]
    omega
theorem law_ok (ns : List Int) : F_law [.scr (ns.map .int)] = .ok (.sh (.bl true)) := by
  have g := b_good (ns := ns)
  have bo := build_ok (ns := ns)
  have sz := bSize_rng (ns := ns)
  have ml := bMarks_len (ns := ns)
  generalize bMarks ns = marks at *
  generalize bRows ns = rows at *
  generalize bSafe ns = safe at *
  have n1 := g.n1
  have n2 := g.n2
  have nr := g.nr
  have lc1 := fun x0 x1 x3 x4 x5 x6 x7 x8 x9 x10 x11 x12 x13 x15 x16 x17 => lrows_lc1 (rows := rows) (x0 := x0) (x1 := x1) (x3 := x3) (x4 := x4) (x5 := x5) (x6 := x6) (x7 := x7) (x8 := x8) (x9 := x9) (x10 := x10) (x11 := x11) (x12 := x12) (x13 := x13) (x15 := x15) (x16 := x16) (x17 := x17) (by omega)
  have lc2 := fun x0 x1 x3 x4 x5 x6 x7 x8 x9 x10 x11 x12 x13 x15 x16 x17 => lrows_lc (rows := rows) (x0 := x0) (x1 := x1) (x3 := x3) (x4 := x4) (x5 := x5) (x6 := x6) (x7 := x7) (x8 := x8) (x9 := x9) (x10 := x10) (x11 := x11) (x12 := x12) (x13 := x13) (x15 := x15) (x16 := x16) (x17 := x17) (by omega)
  have lc3 := fun x0 x1 x3 x4 x5 x6 x7 x8 x9 x10 x11 x12 x13 x15 x16 x17 => ltups_lc (rows := rows) (x0 := x0) (x1 := x1) (x3 := x3) (x4 := x4) (x5 := x5) (x6 := x6) (x7 := x7) (x8 := x8) (x9 := x9) (x10 := x10) (x11 := x11) (x12 := x12) (x13 := x13) (x15 := x15) (x16 := x16) (x17 := x17) (by omega)
  have lc5 := fun x0 x2 x3 x4 x5 x6 x7 x8 x9 x10 x11 x12 x13 x14 x16 x17 => tmarks_lc g (x0 := x0) (x2 := x2) (x3 := x3) (x4 := x4) (x5 := x5) (x6 := x6) (x7 := x7) (x8 := x8) (x9 := x9) (x10 := x10) (x11 := x11) (x12 := x12) (x13 := x13) (x14 := x14) (x16 := x16) (x17 := x17)
  have lc6 := fun x0 x2 x3 x5 x6 x7 x8 x9 x10 x11 x12 x13 x14 x15 x17 => lmovers_lc (marks := marks) n2 (x0 := x0) (x2 := x2) (x3 := x3) (x5 := x5) (x6 := x6) (x7 := x7) (x8 := x8) (x9 := x9) (x10 := x10) (x11 := x11) (x12 := x12) (x13 := x13) (x14 := x14) (x15 := x15) (x17 := x17)
  have mk := g.made (pm := .lst (marks.map .int)) (pr := lMoves rows) (ps := .lst (safe.map .int)) (.inl rfl) (rws_lst g) (.inl rfl)
  have nh := ne_handed g rfl
  have r0 : rows[0]'(by omega) = rowAt rows 0 := by unfold rowAt; rw [getD_of (by omega)]
  have rl0 := (g.chr (i := 0) (by omega)).2
  have fl := gFit_len safe (-1) (by omega) g.sf
  have fl2 : safe.length ≤ 1000 := by omega
  have c11 := cellL (ns := ns) 11 (K := 11) rfl
  have c12 := cellL (ns := ns) 12 (K := 12) rfl
  have nn := nums_ok' (c := cell ns 11) (s := 11) (N := 4) (n := 4) (m := 5000) rfl (by omega) (by omega) (by omega)
  have nl : (nums (cell ns 11) 11 4 5000).length = 4 := nums_len (by omega)
  have nm := nums_mem (c := cell ns 11) (s := 11) (n := 4) (m := 5000) (by omega)
  generalize nums (cell ns 11) 11 4 5000 = n at *
  have a0 : atI n 0 = some (el n 0) := el_at (l := n) (i := 0) (by omega)
  have a1 : atI n 1 = some (el n 1) := el_at (l := n) (i := 1) (by omega)
  have a2 : atI n 2 = some (el n 2) := el_at (l := n) (i := 2) (by omega)
  have a3 : atI n 3 = some (el n 3) := el_at (l := n) (i := 3) (by omega)
  have v1 := nm _ (el_mem (l := n) (i := 1) (by omega))
  have ca := abs_ab (c := cell ns 12)
  have ca0 := ab_nn (c := cell ns 12)
  generalize ab (cell ns 12) = ac at *
  obtain ⟨big, eb, b0, b1⟩ : ∃ big : Int, 1000000000000000000000000000000 - ac % 100000000000000000000 * (el n 0 % 2) = big ∧ 9 ≤ big ∧ big ≤ 10 ^ 30 := by
    refine ⟨_, rfl, ?_⟩
    have h1 : 0 ≤ ac % 100000000000000000000 ∧ ac % 100000000000000000000 < 100000000000000000000 := ⟨by omega, by omega⟩
    rcases (show el n 0 % 2 = 0 ∨ el n 0 % 2 = 1 by omega) with h | h
    · rw [h, Int.mul_zero]; omega
    · rw [h, Int.mul_one]; omega
  have pl := fun x0 x4 x5 x7 x10 x11 x12 x13 x14 x15 x16 x17 => place_all g (x0 := x0) (x4 := x4) (x5 := x5) (x7 := x7) (x10 := x10) (x11 := x11) (x12 := x12) (x13 := x13) (x14 := x14) (x15 := x15) (x16 := x16) (x17 := x17) b0 b1
  have tu := turned_ok g
  have tt := turned_ok g.turn
  have tmm : (marks.map tM).map tM = marks := by
    rw [List.map_map]
    have : marks.map (tM ∘ tM) = marks.map id := List.map_congr_left fun m hm => tM_tM (g.mem m hm)
    rw [this, List.map_id]
  rw [tmm] at tt
  have lh := law_hop_ok g
  have hp := hopeless_ok g
  obtain ⟨hf1, hf2⟩ := hopL_fit g
  have ws := with_safe_ok g hf1 hf2
  have hs := hopeless_ok (g.safed hf1 hf2)
  have ch := fun x0 x5 x8 x10 x11 x12 x13 x14 x15 x17 => ch_all g (n := n) (x0 := x0) (x5 := x5) (x8 := x8) (x10 := x10) (x11 := x11) (x12 := x12) (x13 := x13) (x14 := x14) (x15 := x15) (x17 := x17) ⟨_, a1, v1.1⟩
  have ba := base_ok g
  have rf := refusals_ok g (way := el n 3 % 10) (cell := el n 1) (by omega) v1.1
  have neI := fun l : List Int => ne_cln 1 (by omega) (cln_ints (l := l)) (cln_ints (l := l))
  have neR := ne_cln 3 (by omega) (cln_rows g.chrs) (cln_rows g.chrs)
  have neL := fun l : List Int => ne_cln 1 (p := .lst (l.map .int)) (q := .lst (l.map .int)) (by omega) (by simp [cln]) (by simp [cln])
  have e1 := eqo_ok (m1 := marks) (m2 := marks) (s1 := safe) (s2 := safe) g.chrs g.chrs
  have e2 := eqo_ok (m1 := marks.map tM) (m2 := marks) (s1 := safe) (s2 := safe) g.chrs g.chrs
  have mn := bMin_ok (l := marks) fun z => by rw [z] at n1; simp at n1
  have mf := min_five g
  have dm : decide (marks.map tM = marks) = decide (minL marks = 5) := decide_eq_decide.mpr mf.symm
  rw [dm] at e2
  have is := is_int (x := (marks.length : Int)) (y := marks.length)
  have my := many_ok
  have mb := many_bad
  have el8 := fun x0 x1 x2 x3 x4 x5 x6 x7 x8 x9 x10 x11 x12 x13 x14 x15 x16 => empty_lc8 (x0 := x0) (x1 := x1) (x2 := x2) (x3 := x3) (x4 := x4) (x5 := x5) (x6 := x6) (x7 := x7) (x8 := x8) (x9 := x9) (x10 := x10) (x11 := x11) (x12 := x12) (x13 := x13) (x14 := x14) (x15 := x15) (x16 := x16)
  have el10 := fun x0 x1 x2 x3 x4 x5 x6 x7 x8 x9 x10 x11 x12 x13 x14 x15 x16 => empty_lc10 (x0 := x0) (x1 := x1) (x2 := x2) (x3 := x3) (x4 := x4) (x5 := x5) (x6 := x6) (x7 := x7) (x8 := x8) (x9 := x9) (x10 := x10) (x11 := x11) (x12 := x12) (x13 := x13) (x14 := x14) (x15 := x15) (x16 := x16)
  have ml0 : pyMul (.lst [.int 5]) (.int 1000) = .ok (.lst (repP (.int 5) 1000)) := mul_one (by omega) (by omega)
  have ml1 : pyMul (.lst [.int 5]) (.int 1001) = .ok (.lst (repP (.int 5) 1001)) := mul_one (by omega) (by omega)
  clear mf dm tmm
  generalize marks.map tM = tm at *
  generalize repP (.int 5) 1000 = q0 at *
  generalize repP (.int 5) 1001 = q1 at *
  generalize (List.range 1000) = q2 at *
  generalize (List.range 1001) = q3 at *
  unfold lMoves gmP at *
  rw [F_law_at]
  unfold s_law
  simp (disch := walk_at "d") [bo, lc1, lc2, lc3, lc5, lc6, mk, nh, cap_gm, pvf_gm, r0, c11, c12, nn, a0, a1, a2, a3, ca, eb, pl, tu, tt, lh, hp, ws, hs, ch, ba, rf, neI, neR, neL, e1, e2, mn, is, my, mb, el8, el10, ml0, ml1]
end K00

end

set_option maxHeartbeats 0 in
theorem PySem.Challenge.cw_flagfalls_k00_games_holds : PySem.Challenge.rw_flagfalls_k00_games.Holds := by
  exact K00.holds_of fun ns _ _ => K00.law_ok ns
