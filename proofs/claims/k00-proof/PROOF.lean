import PyProof.Rows.All
import Wide.All
import OpenK.AllK
import Wide.FinOn
import KE.KExcSuper
import HandS.ForExc
import KE.KExcIs
import HandS.ExcValue
import HandS.ExcIs
import HandS.ForMost
import HandS.IsInst
import HandS.More
import PyProof.EnumMake
import PyProof.Rows.EnumRows
import HandS.DictComp
import PySem.Challenge.RW_guessedandkept_k00_errors_are_apart
set_option Elab.async false
set_option linter.all false
set_option maxRecDepth 100000
set_option maxHeartbeats 8000000
/-! An own exception over ValueError whose __init__(self, at) says super().__init__(at) and self.at = at: made, as the library's own machine makes it. -/
namespace PySem
namespace ExcAt
open PySem.W PySem.Calls PyProof.Rows PySem.HandSPX
/-! ### the text of __init__ -/
def iArgs (p1 p2 : Pos) : Arguments := { posonlyargs := [], args := [{ arg := "self", annotation := none, pos := p1 }, { arg := "at", annotation := none, pos := p2 }], vararg := none, kwonlyargs := [], kw_defaults := [], kwarg := none, defaults := [] }
def iBody : List Stmt :=
  [.Expr (.Call (.Attribute (.Call (.Name "super" ⟨5, 8, 5, 13⟩) [] [] ⟨5, 8, 5, 15⟩) "__init__" ⟨5, 8, 5, 24⟩) [.Name "at" ⟨5, 25, 5, 27⟩] [] ⟨5, 8, 5, 28⟩) ⟨5, 8, 5, 28⟩, .Assign [.Attribute (.Name "self" ⟨6, 8, 6, 12⟩) "at" ⟨6, 8, 6, 15⟩] (.Name "at" ⟨6, 18, 6, 20⟩) ⟨6, 8, 6, 20⟩]
def iScope : Scope := { kind := .function, names := [(PySem.Str.ofString "self", .local), (PySem.Str.ofString "at", .local), (PySem.Str.ofString "__class__", .free), (PySem.Str.ofString "super", .globalImplicit)], isGenerator := false, isCoroutine := false, more := [] }
/-- what the written part says of the class at C, whose __init__ at fI stands in the class at D -/
structure Txt (P : Program) (K : Frag) (mg : Str → Option Value) (C D fI : Addr) : Prop where
  cls : ∃ nm q N bs bm sn sub ab col dd k0 k1 k2 k3 k5, K.lookup C = some (excClassObj nm q C N bs bm true sn sub ab col dd k0 k1 k2 k3 k5 "ValueError.__new__") ∧ refsVE bm = true ∧
    alongIn K "__init__" (((Value.ref C :: bm).dropWhile (· != .ref D)).drop 1) = some (some (.builtin "ValueError.__init__"))
  sa : findIn K (.ref C) "__setattr__" = some (some (.builtin "object.__setattr__"))
  ga : findIn K (.ref C) "__getattribute__" = some (some (.builtin "BaseException.__getattribute__"))
  gg : findIn K (.ref C) "__getattr__" = some none
  noN : findIn K (.ref C) "at" = some none
  iC : findIn K (.ref C) "__init__" = some (some (.ref fI))
  tI : typeIn K (.ref fI) = some (.type "function")
  kC : keepIn K (.ref C) = true
  exC : subIn K (.ref C) (.type "BaseException") = some true
  veC : subIn K (.ref C) (.type "ValueError") = some true
  tyC : typeIn K (.ref C) = some (.type "type")
  hdC : hasDictIn K C = true
  cD : (clsIn K D).isSome = true
  sD : mroIn K C (.ref D) = some true
  tp : nsIn K cStatics "thirdparty.any" = some none
  su : nsIn K mainGlobals "super" = some none
  fn : ∃ (oc : Value) (od : Option Addr) (q : Str) (doc pm ct : Value) (an : Option Addr) (cc cda : Addr) (osl : Array (Option Value)) (p1 p2 : Pos),
    K.lookup fI = some ⟨oc, od, .func (ksFn "__init__" q (iArgs p1 p2) iBody iScope .none .none doc pm an (.ref cda) ct cc), osl⟩ ∧ codeIn K (.ref cda) q = true ∧
    (∃ ccl cdd vs file tf ccs, K.lookup cda = some ⟨ccl, cdd, .fields vs, ccs⟩ ∧ vs[2]? = some (.str file tf) ∧ ((P.main.file : Str) == file) = true) ∧
    ∃ cl cld csl, K.lookup cc = some ⟨cl, cld, .cell (some (.ref D)), csl⟩
/-- what __init__ leaves of a fresh exception at x -/
structure InitEnd (h h' : Heap) (x C dx t1 : Addr) (v : Value) : Prop where
  keep : ∀ b o, b ≠ x → h.get? b = some o → h'.get? b = some o
  obj : h'.get? x = some { cls := .ref C, dict := some dx, data := .fields #[.ref t1, .none, .none, .none, .bool false, .none] }
  dbig : h.objs.size ≤ dx
  dne : dx ≠ x
  ns : h'.Ns1 dx (fun y => if y = "at" then some v else none)
section
variable {prog : Program} {w : World} {A : Around} {E : Value → Shared → Prop} {R : Result → Shared → Prop} {s : Shared} {K : Frag} {mg mb : Str → Option Value} {C D fI : Addr}
/-- ValueError.__init__ through its wrapper at u -/
theorem call_wrapper {u x t0 : Addr} {rest : List Value} {Q : Value → Shared → Prop} {h : Heap} {g : Array GenState} {d : Drawn} {t : Nat} {os : OsState}
    {nm q : Str} {N : Addr} {bs bm : List Value} {hdct : Bool} {sn : List Str} {sub : List Value} {ab : Bool} {col : Option Bool} {dd : Option Addr} {k0 k1 k2 k3 k5 : Option Value}
    (hC : h.get? C = some (excClassObj nm q C N bs bm hdct sn sub ab col dd k0 k1 k2 k3 k5 "ValueError.__new__")) (he : h.get? x = some (excObj C t0 none .none)) (hu : h.get? u = some (kxs_mw "ValueError.__init__" x)) (hl : rest.length ≤ sizeLine)
    (hq : ∀ h' t1, (∀ b o, b ≠ x → h.get? b = some o → h'.get? b = some o) → h'.get? x = some (excObj C t1 none .none) → h.objs.size ≤ h'.objs.size → Q .none ⟨h', g, d, t, os⟩) :
    wpAny (model prog w) A (call (.ref u) rest) Q E ⟨h, g, d, t, os⟩ := by
  apply wpAny_call
  apply codeAny_of_tree
  show wpAny _ A.in1 (callAny (.ref u) ⟨rest, []⟩) _ _ _
  unfold callAny
  apply wpAny_bind; apply wpAny_load hu
  have w1 : (Value.type "method-wrapper" == Value.type "method" || Value.type "method-wrapper" == Value.type "builtin_function_or_method" || Value.type "method-wrapper" == Value.type "method-wrapper") = true := by decide
  simp only [kxs_mw, w1, if_true]
  refine KFB.if_so (by decide) (wpAny_bind (check_bound_init F.excBase_ValueError.toExcCallFacts hC he rfl (wpAny_bind (wpAny_pure (wpAny_pure ?_)))))
  refine ⟨plainId_quiet F.excBase_ValueError.init.plain _, codeAny_builtin F.excBase_ValueError.initEntry ?_⟩
  refine exc_init_tree (cls := .ref C) (t0 := t0) (dv := none) (c2 := .none) (c3 := .none) (b4 := .bool false) he hl fun h' k e1 e2 => hq h' h.objs.size k e1 ?_
  exact Nat.le_of_lt (Heap.lt_size e2)
theorem iCell : ∀ x ∈ iScope.names, x.2 ≠ .cell := by decide
/-- __init__ run -/
theorem init_at (T : Txt prog K mg C D fI) {x t0 : Addr} {v : Value} (X : K.In s.heap) (hlim : s.heap.NoLimit) (hG : s.heap.Ns mainGlobals mg) (hB : s.heap.Ns builtinsNs mb) (hsb : mb "super" = some (.type "super"))
    (hx : s.heap.get? x = some (excObj C t0 none .none)) (hnx : K.lookup x = none) (hroom : A.depth < recursionLimit) (htop : (prog.main.scope.names.lookup ("super" : Str)).isSome = false)
    (hq : ∀ h' tk dx t1, InitEnd s.heap h' x C dx t1 v → R (.ok (.ret .none)) { s with heap := h', toks := tk }) :
    codeAny (model prog w) A (.call (.ref fI) ⟨[.ref x, v], []⟩) R s := by
  obtain ⟨oc, od, q, doc, pm, ct, an, cc, cda, osl, p1, p2, ho, hcd, ⟨ccl, cdd, vs, file, tf, ccs, hcda, hvs, hfile⟩, cl, cld, csl, hcc⟩ := T.fn
  obtain ⟨nm, qn, N, bs, bm, sn, sub, ab, col, dd, k0, k1, k2, k3, k5, hC, hbm, hal⟩ := T.cls
  have hcl : clsIn K C = some { name := nm, bases := bs, mro := .ref C :: bm, ns := N, qualname := qn, hasDict := true, slotNames := sn, subclasses := sub, abstract := ab, collection := col, hasDel := false } := by unfold clsIn; rw [hC] <;> rfl
  obtain ⟨cdD, hD⟩ := Option.isSome_iff_exists.mp T.cD
  obtain ⟨oD, hD1, hD2⟩ : ∃ oD, K.lookup D = some oD ∧ oD.data = .cls cdD := by
    unfold clsIn at hD
    split at hD
    · rename_i z; cases hD; exact ⟨_, z, rfl⟩
    · cases hD
  have hxC : x ≠ C := fun z => by rw [z, hC] at hnx; cases hnx
  refine ks_codeAny_call_defAt (body := iBody) (binds := [("self", .ref x), ("at", v)]) hroom (X _ _ ho) rfl hlim (codeRec_of X hcd) rfl (BindsTo.of_eq (by first | rfl | with_unfolding_all rfl)) iCell (locs rfl) (fun h1 hns k1 => ?_) rfl rfl rfl
  have X1 : K.In h1 := X.keeps k1
  have hx1 := k1 _ _ hx
  show wpAt (model prog w) (A.deeper (ksEnv q iScope s.heap.objs.size fI (.ref cda) cc)) (.func iBody (ksEnv q iScope s.heap.objs.size fI (.ref cda) cc)) (execs iBody (ksEnv q iScope s.heap.objs.size fI (.ref cda) cc)) _ _ _
  refine ks_wpAt_execs_cons ?_
  refine ks_wpAt_Expr_any ?_
  refine ks_wpAt_MethodCall ?_
  refine ks_wpAt_super_base (by rfl) (by rfl) (by decide) rfl (X1 _ _ ho) rfl rfl rfl (X1 _ _ hcda) rfl hvs hfile htop ?_
  refine ks_loadName_global rfl rfl (loadGlobal_builtin (hG.keeps k1) (mg_none_of X hG T.su) (hB.keeps k1) hsb ⟨rfl, ?_⟩)
  refine wpAny_loadName_free rfl rfl rfl ⟨_, X1 _ _ hcc, rfl⟩ ?_
  refine wpAny_loadName_local rfl rfl hns (v := .ref x) rfl ?_
  refine ks_wpAny_isType_cls (X1 _ _ hD1) hD2 ⟨rfl, ?_⟩
  refine ks_wpAny_call_super (X1 _ _ hD1) hD2 hx1 rfl (fun c z => by cases z) (looks_mroIn X1 T.sD) (fun h2 eso k2 => ?_)
  have X2 : K.In h2 := X1.keeps k2
  have hx2 := k2 _ _ hx1
  have I2 : InstAt h2 x (excObj C t0 none .none) C none := ⟨hx2, rfl, rfl, trivial⟩
  refine kxs_getMethod (l₀ := Value.ref C :: bm) kxs_ValueError eso (looks_opaque X2 T.tp) (fun A' Q' E' s' kk qq => wpAny_bind ((looks_clsIn X2 hcl) A' _ E' s' kk (wpAny_pure qq))) rfl X2 hal (I2.type.andThen (looks_subIn X2 T.veC)) hxC (by decide) ?_
  have lt1 : s.heap.objs.size < h1.objs.size := hns.lt
  have lt2 : h1.objs.size < h2.objs.size := Heap.lt_size eso
  have k3 : ∀ b o, h2.get? b = some o → (h2.push (kxs_mw "ValueError.__init__" x)).get? b = some o := fun b o e => Heap.get?_push_of_some _ e
  have eu : (h2.push (kxs_mw "ValueError.__init__" x)).get? h2.objs.size = some (kxs_mw "ValueError.__init__" x) := Heap.get?_push_at rfl rfl
  have NN : News s.heap x (h2.push (kxs_mw "ValueError.__init__" x)) [(h2.objs.size, kxs_mw "ValueError.__init__" x)] := fun p hp => by
    obtain rfl := List.mem_singleton.mp hp
    refine ⟨eu, fun z => ?_, ?_⟩
    · have := Heap.lt_size hx2
      exact absurd (show h2.objs.size = x from z) (Nat.ne_of_gt this)
    · show s.heap.get? h2.objs.size = none
      cases z : s.heap.get? h2.objs.size with
      | none => rfl
      | some o => exact absurd (Nat.lt_trans (Nat.lt_trans lt1 lt2) (Heap.lt_size z)) (Nat.lt_irrefl _)
  refine kxs_callWith1 (i := "ValueError.__init__") (x := x) NN List.mem_cons_self ?_
  refine Calls.spliced_cons (wpAny_Name (wpAny_loadName_local rfl rfl (hns.keeps fun b o e => k3 b o (k2 b o e)) (v := v) rfl ?_) (by decide))
  refine Calls.spliced_nil ⟨eu, ?_⟩
  refine call_wrapper (x := x) (t0 := t0) (k3 _ _ (X2 _ _ hC)) (k3 _ _ hx2) eu (by show 1 ≤ sizeLine; rw [sizeLine_eq]; exact (by decide : 1 ≤ 16777216)) (fun h4 t1 k4 hx4 sz4 => ?_)
  have kk : ∀ b o, b ≠ x → s.heap.get? b = some o → h4.get? b = some o := fun b o hb e => k4 b o hb (k3 b o (k2 b o (k1 b o e)))
  have X4 : K.In h4 := fun a o e => kk a o (fun z => by rw [z, hnx] at e; cases e) (X a o e)
  have hLx : s.heap.objs.size ≠ x := Nat.ne_of_gt (Heap.lt_size hx)
  have hns4 : h4.Ns s.heap.objs.size (fun y => [(("self" : Str), Value.ref x), ("at", v)].reverse.lookup y) := by
    obtain ⟨oL, es, ep, hL, r⟩ := hns
    exact ⟨oL, es, ep, k4 _ _ hLx (k3 _ _ (k2 _ _ hL)), r⟩
  show wpAt _ _ _ (execs _ _) _ _ _
  refine ks_wpAt_execs_cons (wpAt_of_wpAny (plainObj_wpAny_Assign_Attribute ?_))
  refine wpAny_Name (wpAny_loadName_local rfl rfl hns4 (v := v) rfl ?_) (by decide)
  refine wpAny_Name (wpAny_loadName_local rfl rfl hns4 (v := .ref x) rfl ?_) (by decide)
  refine set_plain X4 (ox := excObj C t1 none .none) (od := none) ⟨hx4, rfl, rfl, trivial⟩ T.sa ?_
  refine exc_osa X4 hx4 hcl (show refsVE (.ref C :: bm) = true from hbm) rfl T.noN (fun h5 tk5 dx k5 dn dne hx5 hn5 => ?_)
  have z3 : (h2.push (kxs_mw "ValueError.__init__" x)).objs.size = h2.objs.size + 1 := by simp
  have sz : s.heap.objs.size ≤ dx := Nat.le_trans (Nat.le_of_lt (Nat.lt_trans lt1 lt2)) (Nat.le_trans (Nat.le_succ _) (Nat.le_trans (Nat.le_of_eq z3.symm) (Nat.le_trans sz4 dn)))
  exact wpAt_of_wpAny (wpAny_execs_nil (hq h5 tk5 dx t1 ⟨fun b o hb e => k5 b o hb (kk b o hb e), hx5, sz, dne, hn5⟩))
end
end ExcAt
end PySem
namespace PySem
namespace ExcAt
open PySem.W PySem.Calls PyProof.Rows PySem.HandSPX
/-- a made exception -/
structure OwnMade (h h' : Heap) (e C d : Addr) (v : Value) : Prop where
  keep : ∀ b o, h.get? b = some o → h'.get? b = some o
  new : h.objs.size ≤ e
  obj : ∃ t, h'.get? e = some { cls := .ref C, dict := some d, data := .fields #[.ref t, .none, .none, .none, .bool false, .none] }
  dbig : h.objs.size ≤ d
  dne : d ≠ e
  ns : h'.Ns1 d (fun y => if y = "at" then some v else none)
theorem one_size (v : Value) : [v].length ≤ sizeLine := by
  rw [sizeLine_eq]
  exact (by decide : 1 ≤ 16777216)
section
variable {prog : Program} {w : World} {A : Around} {E : Value → Shared → Prop} {R : Result → Shared → Prop} {s : Shared} {K : Frag} {mg mb : Str → Option Value} {C D fI : Addr}
theorem at_made (T : Txt prog K mg C D fI) {v : Value} (X : K.In s.heap) (hlim : s.heap.NoLimit) (hG : s.heap.Ns mainGlobals mg) (hB : s.heap.Ns builtinsNs mb) (hsb : mb "super" = some (.type "super"))
    (hroom : A.depth + 1 < recursionLimit) (htop : (prog.main.scope.names.lookup ("super" : Str)).isSome = false)
    (hq : ∀ h' tk e d, OwnMade s.heap h' e C d v → R (.ok (.ret (.ref e))) { s with heap := h', toks := tk }) :
    codeAny (model prog w) A (.call (.ref C) ⟨[v], []⟩) R s := by
  obtain ⟨nm, q, N, bs, bm, sn, sub, ab, col, dd, k0, k1, k2, k3, k5, hC, hbm, hal⟩ := T.cls
  obtain ⟨hp, g, dr, tk, os⟩ := s
  have k : ∀ b o, hp.get? b = some o → ((hp.push (kdv_tup [v])).push (excO C hp.objs.size)).get? b = some o := fun b o e => Heap.get?_push_of_some _ (Heap.get?_push_of_some _ e)
  have hget : ((hp.push (kdv_tup [v])).push (excO C hp.objs.size)).get? (hp.objs.size + 1) = some (excO C hp.objs.size) := by heap_get
  have hnx : K.lookup (hp.objs.size + 1) = none := by
    cases e : K.lookup (hp.objs.size + 1) with
    | none => rfl
    | some o =>
      have z : hp.get? (hp.objs.size + 1) = some o := X _ _ e
      exact absurd (Nat.lt_of_succ_lt (Heap.lt_size z)) (Nat.lt_irrefl _)
  refine call_own F.excBase_ValueError (fun X => refsVE_contains X bm hbm) (X _ _ hC) (looks_findIn X T.iC) (fun self => bind_fn X self T.tI) (one_size v) ?_
  refine init_at (s := ⟨(hp.push (kdv_tup [v])).push (excO C hp.objs.size), g, dr, tk, os⟩) T (X.keeps k) (hlim.keeps k) (hG.keeps k) (hB.keeps k) hsb hget hnx hroom htop fun h' tk' dx t1 ⟨k', hx, dn, dne, hns⟩ => ?_
  have old : ∀ b o, hp.get? b = some o → h'.get? b = some o := fun b o e => k' b o (Nat.ne_of_lt (Nat.lt_succ_of_lt (Heap.lt_size e))) (k b o e)
  have z : hp.objs.size + 1 + 1 ≤ dx := by
    have q := dn
    simp only [Heap.size_push] at q
    exact q
  exact ⟨rfl, hq h' tk' (hp.objs.size + 1) dx ⟨old, Nat.le_succ _, ⟨t1, hx⟩, Nat.le_trans (Nat.le_trans (Nat.le_succ _) (Nat.le_succ _)) z, dne, hns⟩⟩
end
end ExcAt
end PySem
namespace L2
open PySem PySem.Spec PyProof.Rows
theorem relO_at {v : V} {v' : Value} (r : RelV v v') (f : Str) : RelO (List.lookup f [(("at" : Str), v)]) (if f = "at" then some v' else none) := by
  by_cases hw : f = "at"
  · subst hw
    have q : List.lookup ("at" : Str) [(("at" : Str), v)] = some v := by simp [List.lookup]
    rw [if_pos rfl, q]
    exact r
  · have qw : (f == ("at" : Str)) = false := by simpa using hw
    have q2 : List.lookup f [(("at" : Str), v)] = none := by simp [List.lookup, qw]
    rw [if_neg hw, q2]
    trivial
/-- an exception object of the class at C with its dict at d, not raised yet, at a -/
def ExD (C d a : Addr) : HO := .ext fun h => ∃ (oe : Obj) (vs : Array Value), h.get? a = some oe ∧ Zc (.ref C) (some d) oe ∧ oe.data = .fields vs
theorem exD_ok {P : Program} {w : World} {H : Hp} {h : Heap} {a C d : Addr} {oe : Obj} {vs : Array Value} (e : h.get? a = some oe) (z : Zc (.ref C) (some d) oe) (f : oe.data = .fields vs) : ObjOk P w H h a (ExD C d a) :=
  ⟨⟨oe, vs, e, z, f⟩, ⟨_, e⟩, fun _ _ ⟨o', v', q, r⟩ k => ⟨o', v', k _ q, r⟩⟩
theorem exD_inst {P : Program} {w : World} {H : Hp} {h : Heap} {a C d : Addr} {fs : List (Str × V)} (k : HOk P w H h) (ha : H a = some (ExD C d a)) (hd : H d = some (.xd fs)) :
    ∃ (oe od : Obj) (mA : Str → Option Value), PySem.W.InstAt h a oe C (some od) ∧ (∀ f, RelO (fs.lookup f) (mA f)) ∧ ∀ n, PySem.W.lookIn n od = some (mA n) := by
  obtain ⟨⟨oe, vs, hx, ⟨z1, z2⟩, z3⟩, _⟩ : ObjOk P w H h a (ExD C d a) := k a _ ha
  obtain ⟨mA, hns, hr⟩ : ObjOk P w H h d (.xd fs) := k d _ hd
  obtain ⟨od, ho, hl⟩ := lookIn_ns hns
  exact ⟨oe, od, mA, ⟨hx, z1, by unfold PySem.W.notCls; rw [z3] <;> rfl, by rw [z2]; exact ho⟩, hr, hl⟩
/-- the facts of a module that calls such classes -/
structure BltSuper (X : Cx) : Prop where
  top : (X.prog.main.scope.names.lookup ("super" : Str)).isSome = false
section
variable {X : Cx} {C D fI : Addr} {x : Str}
theorem mod_super {K : PySem.W.Frag} {mg : Str → Option Value} {base : Heap} (M : Mod K mg base) : ∃ mb, base.Ns builtinsNs mb ∧ mb "super" = some (.type "super") := by
  obtain ⟨mb, h1, h2⟩ := M.blt
  exact ⟨mb, h1, (h2 _ (by decide)).trans (by decide +kernel)⟩
/-- X(e) as a value -/
def tNewAt (C : Addr) (ta : TA) : TE := fun σ H Q => ta σ H fun vs H1 => ∃ v, vs = [v] ∧ ∀ a d, H1 a = none → H1 d = none → d ≠ a → Q (.ref a) (upd (upd H1 d (.xd [(("at" : Str), v)])) a (ExD C d a))
theorem pe_newAt {e : Expr} {ta : TA} {p pos : Pos} {k : Nat} (T : PySem.ExcAt.Txt X.prog X.K X.mg C D fI) (B : BltSuper X) (gC : X.mg x = some (.ref C)) (hr : Room k X.A) (ha : PA X [e] ta) (hg : Gl X x)
    (hs : starEach (e :: []) X.env = (false, eval e X.env) :: starEach [] X.env := by rfl) (hpl : (backTo pos (starEach [] X.env)).any (·.1) = false := by rfl) (hdb : (x == ("__debug__" : Str)) = false := by decide) :
    PE X (.Call (.Name x p) [e] [] pos) (tNewAt C ta) := by
  refine ⟨fun pins s σ H Q I h => ?_⟩
  refine wpAny_Call_Name_kw (ld_glob I hg gC ?_ hdb)
  refine PySem.W.callWith_K (h₀ := X.base) I.ok.mod.kin T.kC (thn (ha.run pos pins s σ H _ I h) fun us s1 hh => ?_) hs hpl
  obtain ⟨vs, H1, I1, r1, v, ev, q1⟩ := hh
  subst ev
  refine ⟨I1.kIn, ?_⟩
  cases r1 with
  | cons rv rn =>
    rename_i v' us'
    cases rn
    show wpAny _ _ (call (.ref C) [v']) _ _ _
    obtain ⟨mb, hB, hsb⟩ := mod_super I1.mod
    have hG := I1.mod.glob.keeps I1.bk
    have hB' := hB.keeps I1.bk
    have hlim := I1.nolimit
    obtain ⟨hp, g, dr, tk, os⟩ := s1
    refine wpAny_call (PySem.ExcAt.at_made T I1.kIn hlim hG hB' hsb (by have := hr.dp; omega) B.top fun h' tk' a d M => ?_)
    obtain ⟨t, hoe⟩ := M.obj
    have hns := M.ns
    obtain ⟨G', g1, g2⟩ := restrict h' fun b => decide (b ≠ a)
    have gk : ∀ b, b ≠ a → G'.get? b = h'.get? b := fun b hb => g1 b (decide_eq_true hb)
    have ge : G'.get? a = none := g2 a (by simp)
    have old : ∀ b o, hp.get? b = some o → G'.get? b = some o := fun b o q => (gk b (Nat.ne_of_lt (Nat.lt_of_lt_of_le (Heap.lt_size q) M.new))).trans (M.keep b o q)
    have ob : ObjOk X.prog X.w (upd H1 d (.xd [(("at" : Str), v)])) G' d (.xd [(("at" : Str), v)]) :=
      ⟨_, hns.at (fun o q => (gk d M.dne).trans q), fun f => relO_at rv f⟩
    have J : Inv X pins σ (upd H1 d (.xd [(("at" : Str), v)])) ⟨G', g, dr, tk', os⟩ := I1.laid (t' := tk') old M.dbig ob
    have na : H1 a = none := I1.hok.fresh M.new
    have na' : upd H1 d (.xd [(("at" : Str), v)]) a = none := by
      rw [upd_ne (Ne.symm M.dne)]
      exact na
    have up : ∀ b u, G'.get? b = some u → h'.get? b = some u := fun b u q => by
      by_cases hb : b = a
      · rw [hb, ge] at q; cases q
      · rw [← gk b hb]; exact q
    have J2 := J.laidN (t' := tk') (h' := h') (a := a) (o := ExD C d a) up ge na' (exD_ok hoe ⟨rfl, rfl⟩ rfl)
    exact ⟨.ref a, _, J2, rfl, q1 a d na (I1.hok.fresh M.dbig) M.dne⟩
/-- isinstance(e, c) of such an object -/
def rIsAt (K : PySem.W.Frag) : List V → Hp → VK → Prop := fun xs H Q => ∃ (a C d : Addr) (c : V) (cv : Value) (b : Bool), xs = [.ref a, c] ∧ H a = some (ExD C d a) ∧ (∃ fs, H d = some (.xd fs)) ∧ ExcC K C ∧ (∀ u, RelV c u → u = cv) ∧ PySem.W.kitOne K (.ref C) cv = some b ∧ Q (.bl b) H
theorem call_isAt : CallR X (.builtin "isinstance") (rIsAt X.K) := by
  intro pins s σ H xs us Q I r h
  obtain ⟨a, C, d, c, cv, b, rfl, ha, ⟨fs, hd⟩, E, hcv, e, q⟩ := h
  cases r with
  | cons rx rr =>
    cases rr with
    | cons rt rr =>
      cases rr
      cases rx
      have ec := hcv _ rt
      subst ec
      obtain ⟨oe, od, mA, J, _, _⟩ := exD_inst I.hok ha hd
      have hcl : (PySem.W.clsIn X.K C).isSome = true := by
        obtain ⟨cd, hc, _⟩ := PySem.W.any_some E.hd
        rw [hc] <;> rfl
      exact PySem.W.kia_one (PySem.W.kitx_exc hcl E.hg E.hk E.hs E.ha E.hn E.ht E.hm) I.kIn J e (fun z => nomatch z) fun tk => ⟨.bl b, H, I.kept (t' := tk) fun _ _ z => z, rfl, q⟩
/-- e.at of such an object -/
def tAtV (K : PySem.W.Frag) (te : TE) : TE := fun σ H Q => te σ H fun x H1 => ∃ (a C d : Addr) (v : V), x = .ref a ∧ H1 a = some (ExD C d a) ∧ H1 d = some (.xd [(("at" : Str), v)]) ∧ ExcC K C ∧ PySem.W.findIn K (.ref C) "at" = some none ∧ Q v H1
theorem pe_atV {e : Expr} {te : TE} {pos : Pos} (he : PE X e te) (hb : attributeBase e "at" X.env (eval e X.env) = eval e X.env := by rfl) : PE X (.Attribute e "at" pos) (tAtV X.K te) := by
  refine ⟨fun pins s σ H Q I h => ?_⟩
  refine attr_of hb (thn (he.run pins s σ H _ I h) fun u s1 hh => ?_)
  obtain ⟨x, H1, I1, rx, a, C, d, v, ex, ha, hd, E, hno, q⟩ := hh
  subst ex
  obtain rfl : u = Value.ref a := rx
  obtain ⟨oe, od, mA, J, hr, hl⟩ := exD_inst I1.hok ha hd
  have l : List.lookup ("at" : Str) [(("at" : Str), v)] = some v := by simp [List.lookup]
  obtain ⟨u, hu, ru⟩ := RelO.some_of (v := v) (o := mA "at") (by rw [← l]; exact hr "at")
  exact HandSPX.exc_get I1.kIn J E.hg E.hk E.hs (PySem.W.findObj_own E.hd hno rfl (by rw [hl, hu])) (handed_of ru) ⟨v, H1, I1.tok _, ru, q⟩
end
end L2
namespace L2
open PySem PySem.Spec PyProof.Rows
section
variable {X : Cx} {C D fI : Addr} {x : Str}
/-- X(e), to be raised -/
def tMkAt (C : Addr) (ta : TA) : St → Hp → XK → Prop := fun σ H Q => ta σ H fun vs H1 => ∃ v, vs = [v] ∧ ∀ d, H1 d = none → Q (.ref C) (some d) (upd H1 d (.xd [(("at" : Str), v)]))
theorem pmk_at {e : Expr} {ta : TA} {p pos : Pos} {k : Nat} (T : PySem.ExcAt.Txt X.prog X.K X.mg C D fI) (B : BltSuper X) (gC : X.mg x = some (.ref C)) (hr : Room k X.A) (ha : PA X [e] ta) (hg : Gl X x)
    (hs : starEach (e :: []) X.env = (false, eval e X.env) :: starEach [] X.env := by rfl) (hpl : (backTo pos (starEach [] X.env)).any (·.1) = false := by rfl) (hdb : (x == ("__debug__" : Str)) = false := by decide) :
    PMk X (.Call (.Name x p) [e] [] pos) (tMkAt C ta) := by
  intro pins s σ H Q I h
  refine wpAny_Call_Name_kw (ld_glob I hg gC ?_ hdb)
  refine PySem.W.callWith_K (h₀ := X.base) I.ok.mod.kin T.kC (thn (ha.run pos pins s σ H _ I h) fun us s1 hh => ?_) hs hpl
  obtain ⟨vs, H1, I1, r1, v, ev, q1⟩ := hh
  subst ev
  refine ⟨I1.kIn, ?_⟩
  cases r1 with
  | cons rv rn =>
    rename_i v' us'
    cases rn
    show wpAny _ _ (call (.ref C) [v']) _ _ _
    obtain ⟨mb, hB, hsb⟩ := mod_super I1.mod
    have hG := I1.mod.glob.keeps I1.bk
    have hB' := hB.keeps I1.bk
    have hlim := I1.nolimit
    obtain ⟨hp, g, dr, tk, os⟩ := s1
    refine wpAny_call (PySem.ExcAt.at_made T I1.kIn hlim hG hB' hsb (by have := hr.dp; omega) B.top fun h' tk' a d M => ?_)
    show MkP X pins σ Q (.ref a) ⟨h', g, dr, tk', os⟩
    obtain ⟨t, hoe⟩ := M.obj
    have hns := M.ns
    obtain ⟨G', g1, g2⟩ := restrict h' fun b => decide (b ≠ a)
    have gk : ∀ b, b ≠ a → G'.get? b = h'.get? b := fun b hb => g1 b (decide_eq_true hb)
    have ge : G'.get? a = none := g2 a (by simp)
    have old : ∀ b o, hp.get? b = some o → G'.get? b = some o := fun b o q => (gk b (Nat.ne_of_lt (Nat.lt_of_lt_of_le (Heap.lt_size q) M.new))).trans (M.keep b o q)
    have ob : ObjOk X.prog X.w (upd H1 d (.xd [(("at" : Str), v)])) G' d (.xd [(("at" : Str), v)]) :=
      ⟨_, hns.at (fun o q => (gk d M.dne).trans q), fun f => relO_at rv f⟩
    have J : Inv X pins σ (upd H1 d (.xd [(("at" : Str), v)])) ⟨G', g, dr, tk', os⟩ := I1.laid (t' := tk') old M.dbig ob
    have na : H1 a = none := I1.hok.fresh M.new
    have na' : upd H1 d (.xd [(("at" : Str), v)]) a = none := by
      rw [upd_ne (Ne.symm M.dne)]
      exact na
    have up : ∀ b u, G'.get? b = some u → h'.get? b = some u := fun b u q => by
      by_cases hb : b = a
      · rw [hb, ge] at q; cases q
      · rw [← gk b hb]; exact q
    exact ⟨a, _, _, ⟨G', g, dr, tk', os⟩, _, .ref C, some d, rfl, J, up, ge, hoe, ⟨rfl, rfl⟩, rfl, rfl, na', rfl, I1.bare, raises_own T.exC T.tyC, q1 d (I1.hok.fresh M.dbig)⟩
/-- raise X(e) -/
theorem ps_raiseAt {e : Expr} {ta : TA} {W : WX} {p pos pos2 : Pos} {k : Nat} (hc : X.calm = true) (T : PySem.ExcAt.Txt X.prog X.K X.mg C D fI) (B : BltSuper X) (gC : X.mg x = some (.ref C)) (hr : Room k X.A) (tk : Takes X W) (ha : PA X [e] ta) (hg : Gl X x)
    (hs : starEach (e :: []) X.env = (false, eval e X.env) :: starEach [] X.env := by rfl) (hpl : (backTo pos (starEach [] X.env)).any (·.1) = false := by rfl) (hdb : (x == ("__debug__" : Str)) = false := by decide) :
    PS X (.Raise (some (.Call (.Name x p) [e] [] pos)) none pos2) (fun _ σ H => tMkAt C ta σ H fun cls d H' => W cls d σ H') := ps_raise hc tk (pmk_at T B gC hr ha hg hs hpl hdb)
end
/-! ### an exception that the suite hands back -/
section
variable {X : Cx} {pins : List (Addr × Obj)} {σ : St} {H : Hp} {s : Shared}
/-- what is pinned at a is tracked instead -/
theorem Inv.track {a : Addr} {oe : Obj} {o : HO} (I : Inv X ((a, oe) :: pins) σ H s) (n0 : X.s_0.heap.get? a = none) (np : ∀ p ∈ X.pn ++ pins, p.1 ≠ a) (k : ObjOk X.prog X.w (upd H a o) s.heap a o) : Inv X pins σ (upd H a o) s := by
  obtain ⟨ea, na, nL, nF, nc⟩ := I.pin (a, oe) (List.mem_append_right _ List.mem_cons_self)
  have e0 : ∀ b u, X.s_0.heap.get? b = some u → b ≠ a := fun b u e z => by rw [z, n0] at e; cases e
  have eH : ∀ b u, H b = some u → b ≠ a := fun b u e z => by rw [z, na] at e; cases e
  refine ⟨I.ok, I.os, I.bare, ⟨I.base.keep, I.base.slot, fun b u e n hx => ?_, I.base.there, fun b xs e => ?_, fun b u v e => ?_, fun b ps e => ?_⟩, I.loc, I.cell, ?_, fun y c e => ?_, fun p hp => ?_, fun b u e => ?_, I.len⟩
  · rw [upd_ne (e0 b u e)]; exact I.base.free b u e n hx
  · have q := I.base.tups b xs e; rw [upd_ne (eH b _ q)]; exact q
  · have q := I.base.frzs b u v e; rw [upd_ne (eH b _ q)]; exact q
  · obtain ⟨m, q⟩ := I.base.tbls b ps e; exact ⟨m, by rw [upd_ne (eH b _ q)]; exact q⟩
  · rw [upd_ne (Ne.symm nL)]; exact I.free
  · have hc : c ≠ a := fun z => by
      obtain ⟨v, u, eu, du⟩ := I.cell y c e
      rw [z] at eu
      have q : some oe = some u := ea.symm.trans eu
      cases q
      exact nc v du
    rw [upd_ne hc]; exact I.freeC y c e
  · have hp' : p ∈ X.pn ++ (a, oe) :: pins := by
      rcases List.mem_append.mp hp with z | z
      · exact List.mem_append_left _ z
      · exact List.mem_append_right _ (List.mem_cons_of_mem _ z)
    obtain ⟨q1, q2, q3⟩ := I.pin p hp'
    exact ⟨q1, by rw [upd_ne (np p hp)]; exact q2, q3⟩
  · by_cases hb : b = a
    · subst hb; rw [upd_same] at e; cases e; exact k
    · rw [upd_ne hb] at e
      exact (I.hok b u e).stay (fun c v _ q => q) (fun c q => by rw [upd_ne (eH c _ q)]; exact q) fun c xs q => by rw [upd_ne (eH c _ q)]; exact q
end
/-- the wish of «except c as n: suite» where the suite hands back the exception: it is tracked behind -/
def wKeep (K : PySem.W.Frag) (c : Value) (i : Nat) (Wout : WX) (D : Ends) : WX := fun cls d σ H =>
  ∃ b, PySem.W.exmOne K cls c = some b ∧ (b = true → ∃ C dd, cls = .ref C ∧ d = some dd ∧ ∀ a, H a = none → D.rt (.ref a) (upd H a (ExD C dd a))) ∧ (b = false → Wout cls d σ H)
section
variable {X : Cx} {x n : Str} {c : Value} {i : Nat} {body : List Stmt} {np pos pos' q1 q2 : Pos} {tb : WX → TS} {Wout : WX}
/-- try: body except x as n: return n -/
theorem ps_try_keep (hx : X.ex = []) (hs : X.stack = X.env :: X.outer) (hf : X.env.frame = some X.env.locals) (hN : X.N.Nodup) (hi : X.N[i]? = some n) (hln : X.env.kindOf n = some .local) (hv : Vis X.env.scope n) (hnd : (n == ("__debug__" : Str)) = false) (hncd : (n == ("__classdict__" : Str)) = false) (hc : Names X x c) (tk : Takes X Wout)
    (hb : ∀ (W : WX) (pn : List (Addr × Obj)) (xe : Value → Shared → Prop), Takes (X.tr pn xe) W → PassesOwn (model X.prog X.w) X.A X.env xe → PSs (X.tr pn xe) body (tb W)) :
    PS X (.Try body [.ExceptHandler (some (.Name x np)) (some n) [.Return (some (.Name n q1)) q2] pos'] [] [] pos) (fun D σ H => tb (wKeep X.K c i Wout D) D σ H) := by
  refine ⟨fun pins s σ H D I h => ?_⟩
  have ok := I.ok
  have hfr : X.A.frames = some (X.env :: X.outer) := by rw [ok.frames, hs]
  refine wpAny_Try_except (wpAny_mono ((hb (wKeep X.K c i Wout D) (X.pn ++ pins) (fun e s₁ => wpAny (model X.prog X.w) X.A (noteFrame e X.env) (fun _ s₂ => wpAny (model X.prog X.w) X.A (setFlight e none) (fun _ s₃ => wpAny (model X.prog X.w) X.A
    (handleBy e X.env [.ExceptHandler (some (.Name x np)) (some n) [.Return (some (.Name n q1)) q2] pos']) (SP X pins D) X.xe s₃) X.xe s₂) X.xe s₁) (fun u s' xx => ?_) PassesOwn.looking).run [] s σ H D (I.toTry _) h) (fun f s1 hsp => ?_) (fun e s1 he => he))
  · obtain ⟨a, B, sI, pins', σ', H', cls, d, rfl, J', nb, up, sky, na, os, ag, b, hb1, hyes, hno⟩ := xx
    have J : Inv X pins σ' H' sI := J'.ofTry ok
    have sky' : Sky B (X.env :: X.outer) a (Zc cls d) X.env.locals s'.heap := hs ▸ sky
    show wpAny (model X.prog X.w) X.A (noteFrame (.ref a) X.env) _ _ _
    refine Sky.land Zc.steady hfr hf sky' fun h3 fl3 up3 => ?_
    have J3 : Inv X pins σ' H' { s' with heap := h3 } := J.landed nb fl3.1 (up.trans up3) os ag
    obtain ⟨oe3, vs3, he3, hz3, hd3⟩ := fl3.there
    have nfr : a ∉ frs (X.env :: X.outer) := fun hm => by
      obtain ⟨_, o', e', hnf⟩ := fl3.2.2.1.mem hm
      have q : some oe3 = some o' := he3.symm.trans e'
      cases q
      exact hnf _ hd3
    have nL : a ≠ X.env.locals := fun z => nfr (List.mem_filterMap.mpr ⟨X.env, List.mem_cons_self, hf.trans (by rw [z])⟩)
    have nF : a ∉ X.fs := fun hm => (List.mem_filterMap.mp hm).elim fun e q => nfr (List.mem_filterMap.mpr ⟨e, List.mem_cons_of_mem _ q.1, q.2⟩)
    have S3 := J3.suite he3 hd3 na nL nF
    refine wpAny_handleBy_cons (codeAny_handlers_test ?_) (fun q => nomatch q)
    have LT : PySem.W.Looks (model X.prog X.w) h3 (typeOf (.ref a)) cls := fun A Q E s k q => wpAny_typeOf_ref (k _ _ he3) (hz3.1.symm ▸ q)
    have LM := PySem.W.exm_one (M := model X.prog X.w) J3.kIn LT hb1
    have test : ∀ {Q : Value → Shared → Prop} {E : Value → Shared → Prop}, Q c { s' with heap := h3 } → wpAny (model X.prog X.w) (X.A.mark (some (.ref a))) (eval (.Name x np) X.env) Q E { s' with heap := h3 } := fun {Q E} q => hc.2.2.elim
      (fun hm => ld_glob (X := X.suite a ((a, oe3) :: (X.pn ++ pins))) S3 hc.1 hm q hc.2.1) fun hm => ld_blt (X := X.suite a ((a, oe3) :: (X.pn ++ pins))) S3 hc.1 hm.1 hm.2.1 q hm.2.2 hc.2.1
    refine test (LM.here ?_)
    cases b with
    | true =>
      obtain ⟨C, dd, rfl, rfl, hD⟩ := hyes rfl
      refine codeAny_handlers_suite_as (HandSPX.lands_againZ fl3 fun h4 fl4 up4 => ?_)
      have J4 : Inv X pins σ' H' { s' with heap := h4 } := J.landed nb fl4.1 ((up.trans up3).trans up4) os ag
      obtain ⟨oe4, vs4, he4, hz4, hd4⟩ := fl4.there
      have S4 := J4.suite he4 hd4 na nL nF
      -- a stood nowhere at the entry
      have aB : B.get? a = none := fl4.2.1
      have nst : ∀ b, b ∉ frs (X.env :: X.outer) → sI.heap.get? b ≠ none → b ≠ a := fun b hb hne z => by
        cases q : sI.heap.get? b with
        | none => exact hne q
        | some o =>
          have := nb b o q (by rw [hs]; exact hb)
          rw [z, aB] at this; cases this
      have n0 : X.s_0.heap.get? a = none := by
        cases q : X.s_0.heap.get? a with
        | none => rfl
        | some o =>
          have aex : a ∉ X.ex := by rw [hx]; exact fun z => nomatch z
          obtain ⟨o', q'⟩ := J.base.there a o q aex
          exact absurd rfl (nst a nfr (by rw [q']; exact fun z => nomatch z))
      have np : ∀ p ∈ X.pn ++ pins, p.1 ≠ a := fun p hp => by
        obtain ⟨q1, q2, q3, q4, q5⟩ := J.pin p hp
        refine nst p.1 (fun hm => ?_) (by rw [q1]; exact fun z => nomatch z)
        obtain ⟨e, he, q⟩ := List.mem_filterMap.mp hm
        rcases List.mem_cons.mp he with rfl | he
        · rw [hf] at q; exact q3 (Option.some.inj q).symm
        · exact q4 (List.mem_filterMap.mpr ⟨e, he, q⟩)
      refine store_ok (X := X.suite a ((a, oe4) :: (X.pn ++ pins))) (v := .ref a) S4 hN hi (.inl hln) rfl (fun s5 S5 => ?_) (.inr hln)
      have hl : i < σ'.length := by
        have := (List.getElem?_eq_some_iff.mp hi).1
        rw [J.len]; exact this
      have body : PSs (X.suite a ((a, oe4) :: (X.pn ++ pins))) [.Return (some (.Name n q1)) q2] (tRet (tVar i)) := pss_one (ps_ret (pe_var hi hv hnd hncd))
      refine wpAny_mono (body.run [] s5 _ H' { nx := fun _ _ => False, rt := fun v H6 => v = .ref a ∧ H6 = H' } S5 ⟨_, by rw [List.getElem?_set_self hl], rfl, rfl⟩) (fun f s6 hsp => ?_) (fun _ _ z => False.elim z)
      cases f with
      | next => obtain ⟨_, _, _, z⟩ := hsp; exact False.elim z
      | brk => obtain ⟨_, _, _, z⟩ := hsp; exact False.elim z
      | cont => obtain ⟨_, _, _, z⟩ := hsp; exact False.elim z
      | ret u =>
        obtain ⟨v6, σ6, H6, S6, r6, rfl, rfl⟩ := hsp
        obtain ⟨p1, p2, p3, p4, p5⟩ := S6.pin (a, oe4) (List.mem_append_left _ List.mem_cons_self)
        have J6 : Inv X pins σ6 H6 s6 := S6.unsuite ok
        have J7 : Inv X ((a, oe4) :: pins) σ6 H6 s6 := J6.pins_of fun p hp => by
          rcases List.mem_cons.mp hp with rfl | hp
          · exact ⟨p1, p2, p3, p4, p5⟩
          · exact J6.pin p (List.mem_append_right _ hp)
        refine gone_ok J7 hN hi hln fun s8 J8 => ?_
        obtain ⟨e8, _⟩ := J8.pin (a, oe4) (List.mem_append_right _ List.mem_cons_self)
        exact ⟨.ref a, _, _, J8.track n0 np (exD_ok e8 hz4 hd4), r6, hD a na⟩
    | false =>
      show wpAny _ X.A (handleBy (.ref a) X.env []) _ _ _
      refine wpAny_handleBy_nil ?_
      obtain ⟨_, _, _, oe, vs, T, oT, ts', he, hz, hd, h1, hr⟩ := id fl3
      unfold PySem.passOn
      refine wpAny_bind (wpAny_field he hd h1 ?_)
      rw [if_neg (show ¬ ((Value.ref T == Value.none) = true) by simp)]
      have fin : wpAny (model X.prog X.w) X.A (setFlight (.ref a) X.env.frame) (fun _ s4 => wpAny (model X.prog X.w) X.A (throw (.ref a) : Sem Flow) (SP X pins D) X.xe s4) X.xe { s' with heap := h3 } := by
        rw [hf]; refine HandSPX.setFlight_upZ fl3 fun h4 hh4 up4 => wpAny_throw (tk _ _ ⟨a, B, sI, pins, σ', H', cls, d, rfl, J, nb, (up.trans up3).trans up4, .inr (.inr (by rw [hs]; exact hh4)), na, os, ag, hno rfl⟩)
      first | exact wpAny_bind (wpAny_pure (wpAny_bind fin)) | exact wpAny_bind fin
  · cases f with
    | next => obtain ⟨σ1, H1, I1, z⟩ := hsp; exact wpAny_execs_nil ⟨σ1, H1, I1.ofTry ok, z⟩
    | brk => obtain ⟨σ1, H1, I1, z⟩ := hsp; exact ⟨σ1, H1, I1.ofTry ok, z⟩
    | cont => obtain ⟨σ1, H1, I1, z⟩ := hsp; exact ⟨σ1, H1, I1.ofTry ok, z⟩
    | ret u => obtain ⟨v, σ1, H1, I1, r, z⟩ := hsp; exact ⟨v, σ1, H1, I1.ofTry ok, r, z⟩
end
end L2
namespace My
open PySem PySem.Spec PyProof.Rows L2
def topS (i : Nat) : Stmt := PySem.Challenge.pw_guessedandkept_k00_errors_are_apart.main.body.getD i (.Pass ⟨0, 0, 0, 0⟩)
abbrev sDraws : Stmt := topS 40
abbrev sMix : Stmt := topS 41
theorem scDraws : FnScope ["script", "draws", "k", "rest", "turn", "stirred"] ["script"] (defScope sDraws) := ⟨rfl, rfl, rfl, by decide +kernel, rfl, by decide +kernel, by decide +kernel⟩
theorem scMix : FnScope ["draws", "k", "many", "cell"] ["draws", "k", "many"] (defScope sMix) := ⟨rfl, rfl, rfl, by decide +kernel, rfl, by decide +kernel, by decide +kernel⟩
/-- names of the built-ins that the module leaves alone -/
structure Free (mg : Str → Option Value) : Prop where
  range : mg "range" = none
  min : mg "min" = none
  len : mg "len" = none
  abs : mg "abs" = none
  int : mg "int" = none
/-- what is drawn: numbers below 65536 -/
structure DrawsOk (n : Nat) (ds : List Int) : Prop where
  len : ds.length ≤ n
  all : ∀ d ∈ ds, 0 ≤ d ∧ d < 65536
theorem DrawsOk.nil : DrawsOk 0 [] := ⟨Nat.le_refl _, fun _ h => (nomatch h)⟩
theorem DrawsOk.mono {m n : Nat} {ds : List Int} (h : DrawsOk m ds) (k : m ≤ n) : DrawsOk n ds := ⟨Nat.le_trans h.len k, h.all⟩
theorem DrawsOk.push {n : Nat} {ds : List Int} {d : Int} (h : DrawsOk n ds) (h0 : 0 ≤ d) (h1 : d < 65536) : DrawsOk (n + 1) (ds ++ [d]) :=
  ⟨by have := h.len; simp; omega, fun x hx => by
    rcases List.mem_append.mp hx with z | z
    · exact h.all x z
    · obtain rfl := List.mem_singleton.mp z; exact ⟨h0, h1⟩⟩
def spDraws (K : PySem.W.Frag) : Sp := fun vs H Q _ => ∃ (a : Addr) (ns : List Int), vs = [.ref a] ∧ SqL K H a (ns.map V.int) ∧ ns.length ≤ sizeLine ∧
  ∀ H' p ds, Same H H' → H p = none → H' p = some (.lst (ds.map V.int)) → DrawsOk 3780 ds → Q (.ref p) H'
def spMix (K : PySem.W.Frag) : Sp := fun vs H Q _ => ∃ (a : Addr) (ds : List Int) (k many : Int), vs = [.ref a, .int k, .int many] ∧ SqL K H a (ds.map V.int) ∧ DrawsOk 3780 ds ∧ 0 ≤ k ∧ k < 10000000 ∧ 0 < many ∧
  ∀ r : Int, 0 ≤ r → r < many → Q (.int r) H
theorem same_new {H : Hp} {p : Addr} {o : HO} (h : H p = none) : Same H (upd H p o) := fun b x e => by
  rw [upd_ne (ne_of_none e h)]; exact e
theorem same_put {H H' : Hp} {p : Addr} {o : HO} (h : Same H H') (n : H p = none) : Same H (upd H' p o) := fun b x e => by
  rw [upd_ne (ne_of_none e n)]; exact h _ _ e
section
variable {P : Program} {w : World} {K : PySem.W.Frag} {mg : Str → Option Value} {base : Heap}
def stir (r k : Int) : Int := ((r * 48271 + (0 + k + 1) * 69621) % 2147483647 * 16807 + 11 * (0 + k) + 5) % 2147483629
theorem pow18 : ((10 : Int) ^ (18 : Int).toNat) = 1000000000000000000 := by decide
theorem getInt {ns : List Int} {i : Nat} (h : i < ns.length) : (ns.map V.int)[i]? = some (V.int ns[i]) := by
  rw [List.getElem?_map, List.getElem?_eq_getElem h]; rfl
theorem ok_draws {f : Addr} {fd : FuncData} (F : Fun K "_law_draws" "_law_draws" sDraws f fd) (T : Free mg) : FnOk P w K mg base CX0 1 f fd ["script"] (spDraws K) := by
  refine F.ok scDraws (fun vs H Q E h => ?_) (fun cdv A outer s H vs Q E hr h => ?_)
  · obtain ⟨a, ns, rfl, _⟩ := h; rfl
  · refine ⟨_, pss_cons (ps_set (i := 1) scDraws.nd rfl (.inl rfl) (pe_lst pa_nil))
      (pss_cons (ps_for PassesOwn.never rfl (pi_range1 rfl T.range (pa_cons (pe_callB (call_min2 rfl) (by rfl) T.min (by decide +kernel) (pa_cons pe_int (pa_cons (pe_callB call_len_seq (by rfl) T.len PySem.boot_len (pa_cons (pv 0) pa_nil)) pa_nil))) pa_nil))
        (pg_name (i := 2) scDraws.nd rfl (.inl rfl))
        (pss_cons (ps_set (i := 3) scDraws.nd rfl (.inl rfl) (pe_callB call_abs (by rfl) T.abs (by decide +kernel) (pa_cons (pe_ix ix_list (pv 0) (pv 2) (fun _ _ => rfl)) pa_nil)))
        (pss_one (ps_if (pt_cmpR op_ge (pv 3) (pe_op op_pow pe_int pe_int) (nomark _))
          (pss_one (ps_for PassesOwn.never rfl (pi_range1 rfl T.range (pa_cons pe_int pa_nil)) (pg_name (i := 4) scDraws.nd rfl (.inl rfl))
            (pss_one (ps_if (pt_cmpR op_gt (pv 3) pe_int (nomark _))
              (pss_cons (ps_expr (pe_bm PySem.F.plainAttrs_list PySem.F.slot_list_append PySem.F.type_list_append mt_append (pv 1) (pa_cons (pe_op op_mod (pe_callTy call_int1 (by rfl) T.int (by decide +kernel) (pa_cons (pv 3) pa_nil)) pe_int) pa_nil)))
              (pss_one (ps_set (i := 3) scDraws.nd rfl (.inl rfl) (pe_op op_fdiv (pv 3) pe_int)))) pss_nil))))
          (pss_cons (ps_set (i := 5) scDraws.nd rfl (.inl rfl) (pe_op op_mod (pe_callTy call_int1 (by rfl) T.int (by decide +kernel) (pa_cons (pe_op op_add (pe_op op_mul (pv 3) pe_int) (pe_op op_mul (pe_op op_add (pv 2) pe_int) pe_int)) pa_nil)) pe_int))
          (pss_cons (ps_set (i := 5) scDraws.nd rfl (.inl rfl) (pe_op op_mod (pe_callTy call_int1 (by rfl) T.int (by decide +kernel) (pa_cons (pe_op op_add (pe_op op_add (pe_op op_mul (pv 5) pe_int) (pe_op op_mul pe_int (pv 2))) pe_int) pa_nil)) pe_int))
          (pss_cons (ps_expr (pe_bm PySem.F.plainAttrs_list PySem.F.slot_list_append PySem.F.type_list_append mt_append (pv 1) (pa_cons (pe_op op_mod (pe_callTy call_int1 (by rfl) T.int (by decide +kernel) (pa_cons (pv 5) pa_nil)) pe_int) pa_nil)))
          (pss_one (ps_expr (pe_bm PySem.F.plainAttrs_list PySem.F.slot_list_append PySem.F.type_list_append mt_append (pv 1) (pa_cons (pe_op op_mod (pe_callTy call_int1 (by rfl) T.int (by decide +kernel) (pa_cons (pe_op op_fdiv (pv 5) pe_int) pa_nil)) pe_int) pa_nil)))))))))))
      (pss_one (ps_ret (pv 1)))), ?_⟩
    obtain ⟨a, ns, rfl, hS, hz, kQ⟩ := h
    refine ⟨by show 0 ≤ sizeLine; omega, fun p hp => ?_⟩
    have hS1 : SqL K (upd H p (.lst [])) a (ns.map V.int) := Same.seq (fun b o e => by rw [upd_ne (ne_of_none e hp)]; exact e) hS
    have h0i : DrawsOk (60 * 0) [] := DrawsOk.nil
    refine ⟨.ref a, rfl, a, ns.map V.int, rfl, .inl hS1, 63, _, rfl, _, rfl, ?b1, ?b2, for_range (fun i σ H3 => ∃ y2 y3 y4 y5 ds, σ = [some (.ref a), some (.ref p), y2, y3, y4, y5] ∧ Same H H3 ∧ H3 p = some (.lst (ds.map V.int)) ∧ DrawsOk (60 * i) ds)
      ⟨none, none, none, none, [], rfl, same_new hp, upd_same, h0i⟩ ?hs ?hd⟩
    case b1 => split <;> omega
    case b2 => split <;> omega
    case hd =>
      rintro σ H3 ⟨y2, y3, y4, y5, ds, rfl, sm, ep, hd⟩
      refine ⟨.ref p, rfl, kQ H3 p ds sm hp ep (hd.mono ?_)⟩
      rw [List.length_map]
      split <;> omega
    case hs =>
      rintro i σ H3 hi ⟨y2, y3, y4, y5, ds, rfl, sm, ep, hd⟩
      have hA : SqL K H3 a (ns.map V.int) := sm.seq hS
      have hil : i < ns.length := by
        rw [List.length_map] at hi
        split at hi <;> omega
      have hi63 : i < 63 := by
        rw [List.length_map] at hi
        split at hi <;> omega
      have r0 : 0 ≤ (if ns[i] < 0 then -ns[i] else ns[i]) := by split <;> omega
      -- rest = abs(script[k])
      refine ⟨.ref a, rfl, _, rfl, a, ns.map V.int, 0 + (i : Int), V.int ns[i], rfl, rfl, hA, (by rw [Int.zero_add]; exact atI_nat (getInt hil)), ns[i], rfl, ?_⟩
      generalize (if ns[i] < 0 then -ns[i] else ns[i]) = r at r0
      refine ⟨_, rfl, 10, 18, rfl, rfl, ⟨by omega, by omega, by decide⟩, _, _, rfl, rfl, _, rfl, ite2 (fun c => ?_) (fun c => ?_)⟩
      · -- sixty turns
        refine ⟨60, rfl, by omega, by omega, for_range (fun j σ H4 => ∃ r y4 ds, σ = [some (.ref a), some (.ref p), some (.int (0 + (i : Int))), some (.int r), y4, y5] ∧ 0 ≤ r ∧ Same H H4 ∧ H4 p = some (.lst (ds.map V.int)) ∧ DrawsOk (60 * i + j) ds)
          ⟨r, y4, ds, rfl, r0, sm, ep, hd⟩ ?_ ?_⟩
        · rintro j σ H4 hj ⟨r, y4, ds, rfl, r0, sm, ep, hd⟩
          refine ⟨_, rfl, _, _, rfl, rfl, _, rfl, ite2 (fun c => ?_) (fun c => ?_)⟩
          · refine ⟨.ref p, rfl, .inl ⟨rfl, _, SqL.of ep⟩, _, rfl, .inl ⟨_, rfl, _, _, rfl, rfl, (by show (0 : Int) < 65536; decide), p, _, _, rfl, rfl, ep, ?_, ?_⟩⟩
            · rw [List.length_map]
              have := hd.len
              unfold sizeLine
              omega
            · refine ⟨_, rfl, _, _, rfl, rfl, ⟨by decide, by decide⟩, _, some (.int (0 + (j : Int))), ds ++ [r % 65536], rfl, ?_, ?_, ?_, ?_⟩
              · exact Int.ediv_nonneg r0 (by decide)
              · exact same_put sm hp
              · rw [upd_same, List.map_append]; rfl
              · exact hd.push (Int.emod_nonneg _ (by decide)) (Int.emod_lt_of_pos _ (by decide))
          · exact ⟨r, _, ds, rfl, r0, sm, ep, hd.mono (by omega)⟩
        · rintro σ H4 ⟨r, y4, ds, rfl, r0, sm, ep, hd⟩
          exact ⟨_, _, _, _, ds, rfl, sm, ep, hd.mono (by omega)⟩
      · -- two numbers mixed of it
        refine ⟨_, rfl, _, _, rfl, rfl, .inr ⟨by decide, by decide⟩, _, rfl, _, _, rfl, rfl, _, _, rfl, rfl, .inr ⟨by decide, by decide⟩, _, _, rfl, rfl, .inl ⟨_, rfl, _, _, rfl, rfl, (by show (0 : Int) < 2147483647; decide), ?_⟩⟩
        refine ⟨_, rfl, _, _, rfl, rfl, .inr ⟨by decide, by decide⟩, _, rfl, _, _, rfl, rfl, .inl ⟨by decide, by decide⟩, _, _, rfl, rfl, _, _, rfl, rfl, .inl ⟨_, rfl, _, _, rfl, rfl, (by show (0 : Int) < 2147483629; decide), ?_⟩⟩
        refine ⟨.ref p, rfl, .inl ⟨rfl, _, SqL.of ep⟩, _, rfl, .inl ⟨_, rfl, _, _, rfl, rfl, (by show (0 : Int) < 65536; decide), p, _, _, rfl, rfl, ep, ?_, ?_⟩⟩
        · rw [List.length_map]
          have := hd.len
          unfold sizeLine
          omega
        refine ⟨.ref p, rfl, .inl ⟨rfl, _, SqL.of upd_same⟩, _, rfl, _, _, rfl, rfl, ⟨by decide, by decide⟩, .inl ⟨_, rfl, _, _, rfl, rfl, (by show (0 : Int) < 32768; decide), p, _, _, rfl, rfl, upd_same, ?_, ?_⟩⟩
        · rw [List.length_append, List.length_map, List.length_singleton]
          have := hd.len
          unfold sizeLine
          omega
        refine ⟨_, _, _, _, ds ++ [stir r i % 65536] ++ [stir r i / 65536 % 32768], rfl, ?_, ?_, ?_⟩
        · exact same_put (same_put sm hp) hp
        · rw [upd_same, List.map_append, List.map_append]; rfl
        · exact ((hd.push (Int.emod_nonneg _ (by decide)) (Int.emod_lt_of_pos _ (by decide))).push (Int.emod_nonneg _ (by decide)) (by have := Int.emod_lt_of_pos (stir r i / 65536) (show (0 : Int) < 32768 by decide); omega)).mono (by omega)
theorem ok_mix {f : Addr} {fd : FuncData} (F : Fun K "_law_mix" "_law_mix" sMix f fd) (T : Free mg) : FnOk P w K mg base CX0 1 f fd ["draws", "k", "many"] (spMix K) := by
  refine F.ok scMix (fun vs H Q E h => ?_) (fun cdv A outer s H vs Q E hr h => ?_)
  · obtain ⟨a, ds, k, many, rfl, _⟩ := h; rfl
  · refine ⟨_, pss_cons (ps_set (i := 3) scMix.nd rfl (.inl rfl) pe_int)
      (pss_cons (ps_if (pt_cmpR op_gt (pe_callB call_len_seq (by rfl) T.len PySem.boot_len (pa_cons (pv 0) pa_nil)) pe_int (nomark _))
        (pss_one (ps_set (i := 3) scMix.nd rfl (.inl rfl) (pe_ix ix_list (pv 0) (pe_op op_mod (pe_callTy call_int1 (by rfl) T.int (by decide +kernel) (pa_cons (pv 1) pa_nil)) (pe_callB call_len_seq (by rfl) T.len PySem.boot_len (pa_cons (pv 0) pa_nil))) (fun _ _ => rfl))))
        pss_nil)
      (pss_cons (ps_if (pt_cmpR op_lt (pv 1) (pe_callB call_len_seq (by rfl) T.len PySem.boot_len (pa_cons (pv 0) pa_nil)) (nomark _))
        (pss_one (ps_ret (pe_op op_mod (pe_callTy call_int1 (by rfl) T.int (by decide +kernel) (pa_cons (pv 3) pa_nil)) (pv 2)))) pss_nil)
      (pss_one (ps_ret (pe_op op_mod (pe_callTy call_int1 (by rfl) T.int (by decide +kernel) (pa_cons (pe_op op_fdiv (pe_callTy call_int1 (by rfl) T.int (by decide +kernel) (pa_cons (pe_op op_add (pe_op op_mul (pv 3) pe_int) (pe_op op_mul (pv 1) pe_int)) pa_nil)) pe_int) pa_nil)) (pv 2)))))), ?_⟩
    obtain ⟨a, ds, k, many, rfl, hS, hd, k0, k1, m0, kQ⟩ := h
    have out : ∀ z : Int, Q (.int (z % many)) H := fun z => kQ _ (Int.emod_nonneg _ (by omega)) (Int.emod_lt_of_pos _ m0)
    refine ⟨.ref a, rfl, a, _, rfl, .inl hS, _, _, rfl, rfl, _, rfl, ite2 (fun c => ?_) (fun c => ?_)⟩
    · have hl : 0 < ds.length := by
        have c' := of_decide_eq_true c
        rw [List.length_map] at c'
        omega
      obtain ⟨j, hj, ej⟩ : ∃ j : Nat, j < ds.length ∧ k % ((ds.map V.int).length : Int) = (j : Int) := by
        rw [List.length_map]
        have h1 := Int.emod_nonneg k (show ((ds.length : Nat) : Int) ≠ 0 by omega)
        have h2 := Int.emod_lt_of_pos k (show 0 < ((ds.length : Nat) : Int) by omega)
        exact ⟨(k % (ds.length : Int)).toNat, by omega, by omega⟩
      have ea : atI (ds.map V.int) (k % ((ds.map V.int).length : Int)) = some (V.int ds[j]) := by
        rw [ej]; exact atI_nat (getInt hj)
      refine ⟨.ref a, rfl, _, rfl, .inl ⟨k, rfl, .ref a, rfl, a, ds.map V.int, rfl, .inl hS, k, ((ds.map V.int).length : Int), rfl, rfl, (by rw [List.length_map]; omega), a, ds.map V.int, _, V.int ds[j], rfl, rfl, hS, ea, ?_⟩⟩
      refine ⟨_, rfl, .ref a, rfl, a, _, rfl, .inl hS, _, _, rfl, rfl, _, rfl, ite2 (fun c => ?_) (fun c => ?_)⟩
      · exact ⟨_, rfl, .inl ⟨_, rfl, _, rfl, _, _, rfl, rfl, m0, out _⟩⟩
      · exact ⟨_, rfl, _, _, rfl, rfl, .inr ⟨by decide, by decide⟩, _, rfl, _, _, rfl, rfl, .inr ⟨by decide, by decide⟩, _, _, rfl, rfl, .inl ⟨_, rfl, _, _, rfl, rfl, ⟨by decide, by decide⟩, .inl ⟨_, rfl, _, rfl, _, _, rfl, rfl, m0, out _⟩⟩⟩
    · refine ⟨_, rfl, .ref a, rfl, a, _, rfl, .inl hS, _, _, rfl, rfl, _, rfl, ite2 (fun c => ?_) (fun c => ?_)⟩
      · exact ⟨_, rfl, .inl ⟨_, rfl, _, rfl, _, _, rfl, rfl, m0, out _⟩⟩
      · exact ⟨_, rfl, _, _, rfl, rfl, .inr ⟨by decide, by decide⟩, _, rfl, _, _, rfl, rfl, .inr ⟨by decide, by decide⟩, _, _, rfl, rfl, .inl ⟨_, rfl, _, _, rfl, rfl, ⟨by decide, by decide⟩, .inl ⟨_, rfl, _, rfl, _, _, rfl, rfl, m0, out _⟩⟩⟩
end
end My
namespace My
open PySem PySem.Spec PyProof.Rows L2
abbrev sKinds : Stmt := topS 42
abbrev sMade : Stmt := topS 43
theorem scKinds : FnScope ["e"] ["e"] (defScope sKinds) := ⟨rfl, rfl, rfl, by decide +kernel, rfl, by decide +kernel, by decide +kernel⟩
theorem scMade : FnScope ["n"] ["n"] (defScope sMade) := ⟨rfl, rfl, rfl, by decide +kernel, rfl, by decide +kernel, by decide +kernel⟩
/-- the names of the thirteen kinds, in the order of `_law_kinds` -/
def nm : Nat → Str
  | 0 => "OutOfRange" | 1 => "WrongSize" | 2 => "BadText" | 3 => "BadToken" | 4 => "BadName" | 5 => "BadTree" | 6 => "BadCode"
  | 7 => "BadGraph" | 8 => "BadPass" | 9 => "BadPlaces" | 10 => "NoPass" | 11 => "BadPlan" | _ => "BadLog"
/-- what the written part says of the fourteen classes: `D` the base class, `C i` the kinds -/
structure Excs (P : Program) (K : PySem.W.Frag) (mg : Str → Option Value) (C : Nat → Addr) (D fI : Addr) : Prop where
  tx : ∀ i, i < 13 → PySem.ExcAt.Txt P K mg (C i) D fI
  ex : ∀ i, i < 13 → ExcC K (C i)
  g : ∀ i, i < 13 → mg (nm i) = some (.ref (C i))
  txD : PySem.ExcAt.Txt P K mg D D fI
  exD : ExcC K D
  gD : mg "LanguageError" = some (.ref D)
  kk : ∀ i j, i < 13 → j < 13 → PySem.W.kitOne K (.ref (C i)) (.ref (C j)) = some (decide (j = i))
  kD : ∀ i, i < 13 → PySem.W.kitOne K (.ref (C i)) (.ref D) = some true
  kV : ∀ i, i < 13 → PySem.W.kitOne K (.ref (C i)) (.type "ValueError") = some true
  dk : ∀ j, j < 13 → PySem.W.kitOne K (.ref D) (.ref (C j)) = some false
  dV : PySem.W.kitOne K (.ref D) (.type "ValueError") = some true
  noN : ∀ i, i < 13 → PySem.W.findIn K (.ref (C i)) "at" = some none
  noND : PySem.W.findIn K (.ref D) "at" = some none
  te : PySem.W.exmOne K (.ref (C 0)) (.ref D) = some true
  isi : mg "isinstance" = none
  ve : mg "ValueError" = none
  sup : (P.main.scope.names.lookup ("super" : Str)).isSome = false
/-- at a an error of the class at C, made with v -/
def HasE (H : Hp) (C a : Addr) (v : Int) : Prop := ∃ d, H a = some (ExD C d a) ∧ H d = some (.xd [(("at" : Str), .int v)])
theorem HasE.same {H H' : Hp} {C a : Addr} {v : Int} (s : Same H H') (h : HasE H C a v) : HasE H' C a v := by
  obtain ⟨d, h1, h2⟩ := h
  exact ⟨d, s _ _ h1, s _ _ h2⟩
/-- the arguments X0(n + k0), X1(n + k1), .. -/
def chain : List (Addr × Int) → TA
  | [] => tNil
  | (c, k) :: l => tCons (tNewAt c (tCons (tOp (rI0 fun i j => V.int (i + j)) (tVar 0) (tC (V.int k))) tNil)) (chain l)
theorem chain_ok {σ : L2.St} {n : Int} (e : σ[0]? = some (some (.int n))) : ∀ (l : List (Addr × Int)) (H : Hp) (Q : List V → Hp → Prop),
    (∀ (as : List Addr) H', Same H H' → as.length = l.length → (∀ (i : Nat) (a c : Addr) (k : Int), as[i]? = some a → l[i]? = some (c, k) → HasE H' c a (n + k)) → Q (as.map V.ref) H') → chain l σ H Q
  | [], H, Q, h => h [] H (fun _ _ z => z) rfl (fun i a c k z _ => by simp at z)
  | (c, k) :: l, H, Q, h => by
    refine ⟨_, e, n, k, rfl, rfl, V.int (n + k), rfl, fun a d na nd nda => ?_⟩
    refine chain_ok e l _ _ fun as H' sm hl hall => ?_
    have s1 : Same H (upd (upd H d (.xd [(("at" : Str), .int (n + k))])) a (ExD c d a)) := fun b o q => by
      rw [upd_ne (ne_of_none q na), upd_ne (ne_of_none q nd)]; exact q
    refine h (a :: as) H' (s1.trans sm) (by rw [List.length_cons, List.length_cons, hl]) fun i a' c' k' z1 z2 => ?_
    cases i with
    | zero =>
      cases z1
      cases z2
      exact ⟨d, sm _ _ upd_same, sm _ _ (by rw [upd_ne nda]; exact upd_same)⟩
    | succ i => exact hall i a' c' k' z1 z2
def spMade (C : Nat → Addr) : Sp := fun vs H Q _ => ∃ n : Int, vs = [.int n] ∧ ∀ H' p (as : List Addr), Same H H' → H p = none → as.length = 13 → H' p = some (.lst (as.map V.ref)) →
  (∀ i a, as[i]? = some a → HasE H' (C i) a (n + i)) → Q (.ref p) H'
/-- the answers of `_law_kinds` -/
def kinds (b : Nat → Bool) : List V := (List.range 13).map fun j => V.bl (b j)
def spKinds (K : PySem.W.Frag) (C : Nat → Addr) : Sp := fun vs H Q _ => ∃ (a E d : Addr) (b : Nat → Bool), vs = [.ref a] ∧ H a = some (ExD E d a) ∧ (∃ fs, H d = some (.xd fs)) ∧ ExcC K E ∧
  (∀ j, j < 13 → PySem.W.kitOne K (.ref E) (.ref (C j)) = some (b j)) ∧ ∀ p, H p = none → Q (.ref p) (upd H p (.lst (kinds b)))
section
variable {P : Program} {w : World} {K : PySem.W.Frag} {mg : Str → Option Value} {base : Heap} {C : Nat → Addr} {D fI : Addr}
theorem ok_made {f : Addr} {fd : FuncData} (F : Fun K "_law_made" "_law_made" sMade f fd) (T : Excs P K mg C D fI) : FnOk P w K mg base CX0 2 f fd ["n"] (spMade C) := by
  refine F.ok scMade (fun vs H Q E h => ?_) (fun cdv A outer s H vs Q E hr h => ?_)
  · obtain ⟨n, rfl, _⟩ := h; rfl
  · refine ⟨_, pss_one (ps_ret (pe_lst
      (pa_cons (pe_newAt (T.tx 0 (by decide)) ⟨T.sup⟩ (T.g 0 (by decide)) hr (pa_cons (pe_op op_add (pv 0) pe_int) pa_nil) (by rfl))
      (pa_cons (pe_newAt (T.tx 1 (by decide)) ⟨T.sup⟩ (T.g 1 (by decide)) hr (pa_cons (pe_op op_add (pv 0) pe_int) pa_nil) (by rfl))
      (pa_cons (pe_newAt (T.tx 2 (by decide)) ⟨T.sup⟩ (T.g 2 (by decide)) hr (pa_cons (pe_op op_add (pv 0) pe_int) pa_nil) (by rfl))
      (pa_cons (pe_newAt (T.tx 3 (by decide)) ⟨T.sup⟩ (T.g 3 (by decide)) hr (pa_cons (pe_op op_add (pv 0) pe_int) pa_nil) (by rfl))
      (pa_cons (pe_newAt (T.tx 4 (by decide)) ⟨T.sup⟩ (T.g 4 (by decide)) hr (pa_cons (pe_op op_add (pv 0) pe_int) pa_nil) (by rfl))
      (pa_cons (pe_newAt (T.tx 5 (by decide)) ⟨T.sup⟩ (T.g 5 (by decide)) hr (pa_cons (pe_op op_add (pv 0) pe_int) pa_nil) (by rfl))
      (pa_cons (pe_newAt (T.tx 6 (by decide)) ⟨T.sup⟩ (T.g 6 (by decide)) hr (pa_cons (pe_op op_add (pv 0) pe_int) pa_nil) (by rfl))
      (pa_cons (pe_newAt (T.tx 7 (by decide)) ⟨T.sup⟩ (T.g 7 (by decide)) hr (pa_cons (pe_op op_add (pv 0) pe_int) pa_nil) (by rfl))
      (pa_cons (pe_newAt (T.tx 8 (by decide)) ⟨T.sup⟩ (T.g 8 (by decide)) hr (pa_cons (pe_op op_add (pv 0) pe_int) pa_nil) (by rfl))
      (pa_cons (pe_newAt (T.tx 9 (by decide)) ⟨T.sup⟩ (T.g 9 (by decide)) hr (pa_cons (pe_op op_add (pv 0) pe_int) pa_nil) (by rfl))
      (pa_cons (pe_newAt (T.tx 10 (by decide)) ⟨T.sup⟩ (T.g 10 (by decide)) hr (pa_cons (pe_op op_add (pv 0) pe_int) pa_nil) (by rfl))
      (pa_cons (pe_newAt (T.tx 11 (by decide)) ⟨T.sup⟩ (T.g 11 (by decide)) hr (pa_cons (pe_op op_add (pv 0) pe_int) pa_nil) (by rfl))
      (pa_cons (pe_newAt (T.tx 12 (by decide)) ⟨T.sup⟩ (T.g 12 (by decide)) hr (pa_cons (pe_op op_add (pv 0) pe_int) pa_nil) (by rfl)) pa_nil))))))))))))))), ?_⟩
    obtain ⟨n, rfl, kQ⟩ := h
    refine chain_ok (n := n) rfl [(C 0, 0), (C 1, 1), (C 2, 2), (C 3, 3), (C 4, 4), (C 5, 5), (C 6, 6), (C 7, 7), (C 8, 8), (C 9, 9), (C 10, 10), (C 11, 11), (C 12, 12)] H _ fun as H' sm hl hall => ?_
    have hl' : as.length = 13 := hl
    refine ⟨?_, fun p hp => ?_⟩
    · rw [List.length_map, hl']; decide
    · refine kQ _ p as (sm.trans (same_new hp)) (sm.free hp) hl' upd_same fun i a z => (hall i a (C i) i z ?_).same (same_new hp)
      have hi : i < 13 := by rw [← hl']; exact (List.getElem?_eq_some_iff.mp z).1
      match i, hi with
      | 0, _ | 1, _ | 2, _ | 3, _ | 4, _ | 5, _ | 6, _ | 7, _ | 8, _ | 9, _ | 10, _ | 11, _ | 12, _ => rfl
      | i + 13, h => exact absurd h (by omega)
/-- the arguments isinstance(e, X0), isinstance(e, X1), .. -/
def isChain (K : PySem.W.Frag) : List Addr → TA
  | [] => tNil
  | c :: l => tCons (tCB (rIsAt K) (tCons (tVar 0) (tCons (tC (V.ref c)) tNil))) (isChain K l)
theorem isChain_ok {σ : L2.St} {a E d : Addr} {H : Hp} (e : σ[0]? = some (some (.ref a))) (h1 : H a = some (ExD E d a)) (h2 : ∃ fs, H d = some (.xd fs)) (h3 : ExcC K E) : ∀ (l : List (Addr × Bool)) (Q : List V → Hp → Prop),
    (∀ c b, (c, b) ∈ l → PySem.W.kitOne K (.ref E) (.ref c) = some b) → Q (l.map fun x => V.bl x.2) H → isChain K (l.map (·.1)) σ H Q
  | [], Q, _, q => q
  | (c, b) :: l, Q, hk, q => by
    refine ⟨_, e, a, E, d, .ref c, .ref c, b, rfl, h1, h2, h3, fun u r => r, hk c b List.mem_cons_self, ?_⟩
    exact isChain_ok e h1 h2 h3 l _ (fun c' b' m => hk c' b' (List.mem_cons_of_mem _ m)) q
theorem ok_kinds {f : Addr} {fd : FuncData} (F : Fun K "_law_kinds" "_law_kinds" sKinds f fd) (T : Excs P K mg C D fI) : FnOk P w K mg base CX0 1 f fd ["e"] (spKinds K C) := by
  refine F.ok scKinds (fun vs H Q E h => ?_) (fun cdv A outer s H vs Q E hr h => ?_)
  · obtain ⟨a, E', d, b, rfl, _⟩ := h; rfl
  · refine ⟨_, pss_one (ps_ret (pe_lst
      (pa_cons (pe_callB call_isAt (by rfl) T.isi (by decide +kernel) (pa_cons (pv 0) (pa_cons (pe_glob (v := .ref (C 0)) (by rfl) (T.g 0 (by decide)) rfl) pa_nil)))
      (pa_cons (pe_callB call_isAt (by rfl) T.isi (by decide +kernel) (pa_cons (pv 0) (pa_cons (pe_glob (v := .ref (C 1)) (by rfl) (T.g 1 (by decide)) rfl) pa_nil)))
      (pa_cons (pe_callB call_isAt (by rfl) T.isi (by decide +kernel) (pa_cons (pv 0) (pa_cons (pe_glob (v := .ref (C 2)) (by rfl) (T.g 2 (by decide)) rfl) pa_nil)))
      (pa_cons (pe_callB call_isAt (by rfl) T.isi (by decide +kernel) (pa_cons (pv 0) (pa_cons (pe_glob (v := .ref (C 3)) (by rfl) (T.g 3 (by decide)) rfl) pa_nil)))
      (pa_cons (pe_callB call_isAt (by rfl) T.isi (by decide +kernel) (pa_cons (pv 0) (pa_cons (pe_glob (v := .ref (C 4)) (by rfl) (T.g 4 (by decide)) rfl) pa_nil)))
      (pa_cons (pe_callB call_isAt (by rfl) T.isi (by decide +kernel) (pa_cons (pv 0) (pa_cons (pe_glob (v := .ref (C 5)) (by rfl) (T.g 5 (by decide)) rfl) pa_nil)))
      (pa_cons (pe_callB call_isAt (by rfl) T.isi (by decide +kernel) (pa_cons (pv 0) (pa_cons (pe_glob (v := .ref (C 6)) (by rfl) (T.g 6 (by decide)) rfl) pa_nil)))
      (pa_cons (pe_callB call_isAt (by rfl) T.isi (by decide +kernel) (pa_cons (pv 0) (pa_cons (pe_glob (v := .ref (C 7)) (by rfl) (T.g 7 (by decide)) rfl) pa_nil)))
      (pa_cons (pe_callB call_isAt (by rfl) T.isi (by decide +kernel) (pa_cons (pv 0) (pa_cons (pe_glob (v := .ref (C 8)) (by rfl) (T.g 8 (by decide)) rfl) pa_nil)))
      (pa_cons (pe_callB call_isAt (by rfl) T.isi (by decide +kernel) (pa_cons (pv 0) (pa_cons (pe_glob (v := .ref (C 9)) (by rfl) (T.g 9 (by decide)) rfl) pa_nil)))
      (pa_cons (pe_callB call_isAt (by rfl) T.isi (by decide +kernel) (pa_cons (pv 0) (pa_cons (pe_glob (v := .ref (C 10)) (by rfl) (T.g 10 (by decide)) rfl) pa_nil)))
      (pa_cons (pe_callB call_isAt (by rfl) T.isi (by decide +kernel) (pa_cons (pv 0) (pa_cons (pe_glob (v := .ref (C 11)) (by rfl) (T.g 11 (by decide)) rfl) pa_nil)))
      (pa_cons (pe_callB call_isAt (by rfl) T.isi (by decide +kernel) (pa_cons (pv 0) (pa_cons (pe_glob (v := .ref (C 12)) (by rfl) (T.g 12 (by decide)) rfl) pa_nil))) pa_nil))))))))))))))), ?_⟩
    obtain ⟨a, E', d, b, rfl, h1, h2, h3, hk, kQ⟩ := h
    refine isChain_ok (a := a) (E := E') (d := d) rfl h1 h2 h3 ((List.range 13).map fun j => (C j, b j)) _ (fun c b' m => ?_) ?_
    · obtain ⟨j, hj, e⟩ := List.mem_map.mp m
      cases e
      exact hk j (List.mem_range.mp hj)
    · exact ⟨by show 13 ≤ sizeLine; decide, fun p hp => kQ p hp⟩
end
end My
/-! d.get(k, x) of a dict that the module's top has written, its keys texts. -/
namespace L2
open PySem PySem.Spec PyProof.Rows
def tKGet (K : PySem.W.Frag) (d : Addr) (td ty tx : TE) : TE := fun σ H Q => td σ H fun x H1 => x = .ref d ∧ ty σ H1 fun y H2 => tx σ H2 fun z H3 => ∃ (k : Str) (r : Option Value), y = .str k ∧ PySem.W.nsIn K d k = some r ∧
  (r = none → Q z H3) ∧ (∀ u, r = some u → ∃ v, RelV v u ∧ Q v H3)
section
variable {X : Cx} {d : Addr} {es : Array DictEntry} {n : Nat} {o e f : Expr} {apos cpos : Pos} {td ty tx : TE}
theorem pe_get_kd (D : KDict X.K X.w d es n) (ho : PE X o td) (he : PE X e ty) (hf : PE X f tx) (m : M2 X o "get" apos e f cpos) : PE X (.Call (.Attribute o "get" apos) [e, f] [] cpos) (tKGet X.K d td ty tx) := by
  refine ⟨fun pins s σ H Q I h => ?_⟩
  refine wpAny_Call_method m.base m.few m.line PySem.F.plainAttrs_dict PySem.F.slot_dict_get PySem.F.type_dict_get (thn (ho.run pins s σ H _ I h) fun u s1 hh => ?_)
  obtain ⟨x, H1, I1, rx, ex, q1⟩ := hh
  subst ex
  obtain rfl : u = Value.ref d := rx
  have hm1 := PySem.W.mapOf_K (prog := X.prog) (w := X.w) I1.kIn D.at_ D.lit
  refine ⟨hm1.typeIs, fun b q => ?_, ?_⟩
  · cases q
    exact ⟨_, I1.kIn _ _ D.at_, rfl⟩
  rw [m.trees]
  refine Calls.callWith_builtin rfl (Calls.evalArgs_plain (Calls.spliced_cons (thn (he.run pins s1 σ H1 _ I1 q1) fun iv s2 hh => ?_)))
  obtain ⟨y, H2, I2, ry, q2⟩ := hh
  refine Calls.spliced_cons (thn (hf.run pins s2 σ H2 _ I2 q2) fun fv s3 hh => Calls.spliced_nil ?_)
  obtain ⟨z, H3, I3, rz, k, r, ey, hk, q3, q4⟩ := hh
  subst ey
  obtain ⟨t, rfl⟩ := ry
  have hm := PySem.W.mapOf_K (prog := X.prog) (w := X.w) I3.kIn D.at_ D.lit
  refine call_meetsIn PySem.F.slot_dict_get hm.typeIs PySem.F.entry_dict_get (PySem.F.args_dict_get_3 _ _ _) (meets_dict_get_default (PySem.strKind X.prog X.w) d (PySem.strKind_is X.prog X.w k t) D.low fv) ⟨_, hm, ?_⟩
  rw [PySem.W.find_K D.at_ hk]
  cases r with
  | none => exact ⟨z, H3, I3.tok _, rz, q3 rfl⟩
  | some u =>
    obtain ⟨v, rv, q⟩ := q4 u rfl
    exact ⟨v, H3, I3.tok _, rv, q⟩
end
end L2
/-! enumerate of a text: (0, first sign), (1, second sign), .. -/
namespace L2
open PySem PySem.Spec PyProof.Rows
/-- the signs of a text, each in a new pair with its place -/
def Itns (z : Str) : It :=
  ⟨fun i _ => i < z.cps.size, fun i G v G' => ∃ T c, v = .ref T ∧ G T = none ∧ G' = upd G T (.tup [.int (i : Nat), .str ⟨#[c]⟩]) ∧ z.cps[i]? = some c, fun i _ => z.cps.size ≤ i⟩
section
variable {P : Program} {w : World} {K : PySem.W.Frag} {elts : List Expr} {kk : Nat} {tpos : Pos}
theorem draws_sign {X : Cx} (hd : X.A.handled = none) (j : Addr) (z : Str) (t : Tok) {ty : String} (hty : ty = "str_ascii_iterator" ∨ ty = "str_iterator") :
    Draws X.prog X.w X.A.in1 j [j] z.cps.size (fun i v => ∃ c u, z.cps[i]? = some c ∧ v = .str ⟨#[c]⟩ u) (fun i g => g.IsStrIter j ty z t i) := by
  rcases hty with q | q
  · rw [q]; exact Draws.strAscii (A := X.A.in1) hd j z t
  · rw [q]; exact Draws.strWide (A := X.A.in1) hd j z t
theorem turn_enumS (z : Str) (t : Tok) (ty : String) (hty : ty = "str_ascii_iterator" ∨ ty = "str_iterator") (n j : Addr) :
    Turn P w K (.Tuple elts kk tpos) (Itns z) [n, j] n (fun i g => (∃ old, IsEnum g n j ((i : Nat) : Int) old) ∧ g.IsStrIter j ty z t i ∧ n ≠ j ∧ i ≤ z.cps.size) where
  mem := by simp
  obj := fun i g st b hb => by
    obtain ⟨⟨old, hn⟩, ⟨o, ho, _, hdat⟩, _⟩ := st
    have e1 : b = n ∨ b = j := by simpa using hb
    rcases e1 with q | q
    · subst q; exact ⟨_, hn, fun v q => nomatch q⟩
    · subst q; exact ⟨o, ho, fun v q => by rw [hdat] at q; cases q⟩
  keep := fun i g g' st k => let ⟨⟨old, hn⟩, ⟨o, ho, rest⟩, hne, le⟩ := st; ⟨⟨old, k n (by simp) _ hn⟩, ⟨o, k j (by simp) o ho, rest⟩, hne, le⟩
  item := by
    intro X hP hw hK hc i pins s σ H E I hf st hg
    subst hP hw hK
    obtain ⟨⟨old, hn⟩, hj, hne, _⟩ := st
    have ln : n < s.heap.objs.size := Heap.lt_size hn
    have lj : j < s.heap.objs.size := by
      obtain ⟨_, q, _⟩ := hj
      exact Heap.lt_size q
    refine wpAny_pyNext_enum_itemD (draws_sign (I.ok.hd hc) j z t hty) hn hj hg hne (by simpa using hne) fun y g1 tk1 hy ho hj1 hT hsz hk => ?_
    obtain ⟨c, u, hcz, rfl⟩ := hy
    refine ⟨_, rfl, wpAny_letOwnedTupleGo_enum (s := { s with heap := g1, toks := tk1 + 1 }) ho fun g2 hn2 sb => ?_⟩
    have hT2 : g2.get? s.heap.objs.size = some { cls := .type "tuple", data := .seq #[.int i tk1, .str ⟨#[c]⟩ u] } := (sb.2 _ (Nat.ne_of_gt ln)).trans hT
    have ok : ObjOk X.prog X.w (upd H s.heap.objs.size (.tup [.int (i : Nat), .str ⟨#[c]⟩])) g2 s.heap.objs.size (.tup [.int (i : Nat), .str ⟨#[c]⟩]) :=
      ⟨by show 2 ≤ sizeLine; decide, [.int i tk1, .str ⟨#[c]⟩ u], .cons ⟨_, rfl⟩ (.cons ⟨_, rfl⟩ .nil), ⟨_, hT2, rfl, _, rfl⟩⟩
    have J : Inv X pins σ (upd H s.heap.objs.size (.tup [.int (i : Nat), .str ⟨#[c]⟩])) { s with heap := g2, toks := tk1 + 1 } :=
      I.turnedNew (ch := [n, j]) (fun b o hb q => (sb.2 b (fun y => hb (by simp [y]))).trans (hk b o (fun y => hb (by simp [y])) (fun y => hb (by simp [y])) q)) hf (Nat.le_refl _) ok
    refine ⟨.ref s.heap.objs.size, _, J, rfl, ⟨_, c, rfl, I.hok.fresh (Nat.le_refl _), rfl, hcz⟩, ⟨⟨.str ⟨#[c]⟩ u, ?_⟩, ?_, hne, hg⟩, fun b hb => ?_⟩
    · rw [show ((i + 1 : Nat) : Int) = (i : Int) + 1 by omega]
      exact hn2
    · obtain ⟨o, e1, rest⟩ := hj1
      exact ⟨o, (sb.2 j (Ne.symm hne)).trans e1, rest⟩
    · have lb : b < s.heap.objs.size := by
        have e1 : b = n ∨ b = j := by simpa using hb
        rcases e1 with q | q
        · rw [q]; exact ln
        · rw [q]; exact lj
      rw [upd_ne (Nat.ne_of_lt lb)]
      exact (hf b hb).1
  done := by
    intro X hP hw hK hc i pins s σ H E I hf st hg
    subst hP hw hK
    obtain ⟨⟨old, hn⟩, hj, hne, le⟩ := st
    obtain rfl : i = z.cps.size := Nat.le_antisymm le hg
    obtain ⟨f0, f1, f2, f3, f4, f5⟩ := hf j (by simp)
    exact wpAny_pyNext_enum_endD (draws_sign (I.ok.hd hc) j z t hty) hn hj fun g eb => ⟨rfl, I.turned (t' := s.toks) (fun b o hb q => eb b o hb q) f0 f1 f3 f4 f5⟩
  self := fun A i s Q E st h => let ⟨⟨_, hn⟩, _⟩ := st; wpAny_pyIter_enum hn h
end
def iEnumS (ta : TA) : TI := fun σ H R => ta σ H fun vs H1 => ∃ z, vs = [.str z] ∧ R (Itns z) H1
theorem pi_enumS {X : Cx} {e : Expr} {ta : TA} {p pos tpos : Pos} {elts : List Expr} {kk : Nat} (hg : Gl X "enumerate") (hm : X.mg "enumerate" = none) (ha : PA X [e] ta) (hs : starEach [e] X.env = [(false, eval e X.env)] := by rfl) :
    PI X (.Tuple elts kk tpos) (.Call (.Name "enumerate" p) [e] [] pos) (iEnumS ta) := by
  refine ⟨fun pins s σ H R I h => ?_⟩
  refine Call_ (ld_blt I hg hm boot_enumerate (PyProof.Rows.callWith_type1 (thn (ha.run pos pins s σ H _ I h) fun us s1 hh => ?_) hs rfl))
  obtain ⟨vs, H1, I1, r1, z, ex, q⟩ := hh
  subst ex
  cases r1 with
  | cons r rr =>
    cases rr
    obtain ⟨t, rfl⟩ := r
    refine call_enumerate_str fun g hn hj hsz hk => wpAny_pyIter_enum hn ?_
    have I2 : Inv X pins σ H1 { s1 with heap := g } := I1.kept (t' := s1.toks) hk
    have hty : strIterType z = "str_ascii_iterator" ∨ strIterType z = "str_iterator" := by
      unfold strIterType
      split
      · exact .inl rfl
      · exact .inr rfl
    refine ⟨s1.heap.objs.size + 1, [s1.heap.objs.size + 1, s1.heap.objs.size], _, _, H1, rfl, I2, turn_enumS z t _ hty (s1.heap.objs.size + 1) s1.heap.objs.size, ⟨⟨.none, hn⟩, hj, Nat.succ_ne_self _, Nat.zero_le _⟩, fun b hb => ?_, q⟩
    have le : s1.heap.objs.size ≤ b := by
      have e1 : b = s1.heap.objs.size + 1 ∨ b = s1.heap.objs.size := by simpa using hb
      rcases e1 with y | y
      · rw [y]; exact Nat.le_add_right _ _
      · rw [y]; exact Nat.le_refl _
    exact I1.fpOk le (I1.hok.fresh le)
/-- the reading of a comprehension over enumerate of a text -/
theorem lc_enumS {z : Str} {g : TG} {tt : TT} {te : TE} {vs : List Nat} {σ : L2.St} {H1 : Hp} {D : Addr} {Qd : Hp → Prop} (Pv : Nat → Hp → Prop) (h0 : Pv 0 (upd H1 D (.lst [])))
    (step : ∀ i c T G, z.cps[i]? = some c → Pv i G → G T = none → g (.ref T) (wipe σ vs) (upd G T (.tup [.int (i : Nat), .str ⟨#[c]⟩])) fun σ2 G2 => wipe σ2 vs = wipe σ vs ∧ tt σ2 G2 fun b G3 =>
      if b = true then te σ2 G3 fun y G4 => ∃ acc, G4 D = some (.lst acc) ∧ acc.length < sizeLine ∧ Pv (i + 1) (upd G4 D (.lst (acc ++ [y]))) else Pv (i + 1) G3) (fin : ∀ G, Pv z.cps.size G → Qd G) :
    ∃ W : Nat → Nat → Hp → Prop, (∃ m, W 0 m (upd H1 D (.lst []))) ∧ ∀ i m G, W i m G →
      ((Itns z).stop i G ∧ Qd G) ∨ ((Itns z).go i G ∧ ∃ Nx : Hp → Prop, (∀ G', Nx G' → ∃ m', m' < m ∧ W (i + 1) m' G') ∧ ∀ x G', (Itns z).yld i G x G' → g x (wipe σ vs) G' fun σ2 G2 => wipe σ2 vs = wipe σ vs ∧ tt σ2 G2 fun b G3 =>
        if b = true then te σ2 G3 fun y G4 => ∃ acc, G4 D = some (.lst acc) ∧ acc.length < sizeLine ∧ Nx (upd G4 D (.lst (acc ++ [y]))) else Nx G3) := by
  refine ⟨fun i m G => m = z.cps.size - i ∧ i ≤ z.cps.size ∧ Pv i G, ⟨z.cps.size, by simp, Nat.zero_le _, h0⟩, ?_⟩
  rintro i m G ⟨rfl, hi, p⟩
  by_cases lt : i < z.cps.size
  · refine .inr ⟨lt, Pv (i + 1), fun G' q => ⟨z.cps.size - (i + 1), by omega, rfl, lt, q⟩, fun x G' y => ?_⟩
    obtain ⟨T, c, rfl, nT, rfl, hc⟩ := y
    exact step i c T G hc p nT
  · obtain rfl : i = z.cps.size := by omega
    exact .inl ⟨Nat.le_refl _, fin G p⟩
end L2
namespace My
open PySem PySem.Spec PyProof.Rows L2
abbrev sLaw : Stmt := topS 45
theorem scLaw : FnScope ["script", "draws", "number", "made", "k", "base", "many", "told", "t"] ["script"] (defScope sLaw) := ⟨rfl, rfl, rfl, by decide +kernel, rfl, by decide +kernel, by decide +kernel⟩
theorem hu64 {A : Around} {k : Nat} (hr : Room k A) : A.units + 64 < cLine := Nat.lt_of_le_of_lt (Nat.le_refl _) hr.units
def spRaised (C : Nat → Addr) : Sp := fun vs H Q _ => ∃ m : Int, vs = [.int m] ∧ (m = -1 ∨ m = 1 ∨ m = 99 ∨ m = -30) ∧ ∀ H' a, Same H H' → HasE H' (C 0) a m → Q (.ref a) H'
def spLaw (K : PySem.W.Frag) : Sp := fun vs H Q _ => ∃ (a : Addr) (ns : List Int), vs = [.ref a] ∧ SqL K H a (ns.map V.int) ∧ ns.length ≤ 63 ∧ ∀ H', Q (.bl true) H'
/-- a list of bools -/
def bls (l : List Bool) : List V := l.map V.bl
theorem dp_bls {K : PySem.W.Frag} {H : Hp} : ∀ l : List Bool, DpAll K H (bls l) (l.map PyData.bool)
  | [] => .nil
  | b :: l => .cons (.bl b) (dp_bls l)
theorem kinds_bls (b : Nat → Bool) : kinds b = bls ((List.range 13).map b) := by
  unfold kinds bls
  rw [List.map_map]; rfl
theorem shaped13 (b : Nat → Bool) : SeqAt.shaped (.list (((List.range 13).map b).map PyData.bool)) = true := by rfl
theorem eqv13 (b : Nat → Bool) : PyData.eqv (.list (((List.range 13).map b).map PyData.bool)) (.list (((List.range 13).map b).map PyData.bool)) = true :=
  PySem.SeqAt.eqv_refl _ (by rfl)
theorem decC (t k : Nat) : decide (V.int (0 + (t : Int)) = V.int (0 + (k : Int))) = decide (t = k) := by
  by_cases h : t = k
  · subst h; simp
  · rw [decide_eq_false h]
    refine decide_eq_false fun z => h ?_
    have := V.int.inj z
    omega
section
variable {P : Program} {w : World} {K : PySem.W.Frag} {mg : Str → Option Value} {base : Heap} {C : Nat → Addr} {D fI : Addr}
theorem ok_law {f fD fX fK fM fR : Addr} {fd dD dX dK dM dR : FuncData} (F : Fun K "law" "law" sLaw f fd) (B : Free mg) (T : Excs P K mg C D fI)
    (FD : Fun K "_law_draws" "_law_draws" sDraws fD dD) (gD : mg "_law_draws" = some (.ref fD)) (bD : Binds K dD ["script"] [])
    (FX : Fun K "_law_mix" "_law_mix" sMix fX dX) (gX : mg "_law_mix" = some (.ref fX)) (bX : Binds K dX ["draws", "k", "many"] [])
    (FK : Fun K "_law_kinds" "_law_kinds" sKinds fK dK) (gK : mg "_law_kinds" = some (.ref fK)) (bK : Binds K dK ["e"] [])
    (FM : Fun K "_law_made" "_law_made" sMade fM dM) (gM : mg "_law_made" = some (.ref fM)) (bM : Binds K dM ["n"] [])
    {k : Nat} (GR : FnOk P w K mg base CX0 k fR dR ["many"] (spRaised C)) (hk : 2 ≤ k) (kR : PySem.W.keepIn K (.ref fR) = true) (gR : mg "_law_raised" = some (.ref fR)) (bR : Binds K dR ["many"] [])
    (gb : mg "bool" = none) : FnOk P w K mg base CX0 (k + 1) f fd ["script"] (spLaw K) := by
  have GD : FnOk P w K mg base CX0 1 fD dD ["script"] (spDraws K) := ok_draws FD B
  have GX : FnOk P w K mg base CX0 1 fX dX ["draws", "k", "many"] (spMix K) := ok_mix FX B
  have GK : FnOk P w K mg base CX0 1 fK dK ["e"] (spKinds K C) := ok_kinds FK T
  have GM : FnOk P w K mg base CX0 2 fM dM ["n"] (spMade C) := ok_made FM T
  refine F.ok scLaw (fun vs H Q E h => ?_) (fun cdv A outer s H vs Q E hr h => ?_)
  · obtain ⟨a, ns, rfl, _⟩ := h; rfl
  · have hr1 : Room 1 _ := hr.mono (show 1 ≤ k by omega)
    have hr2 : Room 2 _ := hr.mono hk
    refine ⟨_, pss_cons (ps_set (i := 1) scLaw.nd rfl (.inl rfl) (pe_call GD hr1 (by rfl) gD FD.kp bD .nil pass0 (pa_cons (pv 0) pa_nil)))
      (pss_cons (ps_set (i := 2) scLaw.nd rfl (.inl rfl) (pe_op op_sub (pe_call GX hr1 (by rfl) gX FX.kp bX .nil pass0 (pa_cons (pv 1) (pa_cons pe_int (pa_cons pe_int pa_nil)))) pe_int))
      (pss_cons (ps_set (i := 3) scLaw.nd rfl (.inl rfl) (pe_call GM hr2 (by rfl) gM FM.kp bM .nil pass0 (pa_cons (pv 2) pa_nil)))
      (pss_cons (ps_for PassesOwn.never rfl (pi_range1 rfl B.range (pa_cons (pe_callB call_len_seq (by rfl) B.len PySem.boot_len (pa_cons (pv 3) pa_nil)) pa_nil)) (pg_name (i := 4) scLaw.nd rfl (.inr rfl))
        (pss_cons (ps_if (PW.pt (pw_or (pt_not (pt_val (pe_callB call_isAt (by rfl) T.isi (by decide +kernel) (pa_cons (pe_ix ix_list (pv 3) (pv 4) (fun _ _ => rfl)) (pa_cons (pe_glob (v := .ref D) (by rfl) T.gD rfl) pa_nil)))))
              (pw_or (pt_not (pt_val (pe_callB call_isAt (by rfl) T.isi (by decide +kernel) (pa_cons (pe_ix ix_list (pv 3) (pv 4) (fun _ _ => rfl)) (pa_cons (pe_bltn (v := .ty "ValueError") (by rfl) T.ve (by decide +kernel) rfl) pa_nil)))))
              (pw_or1 (pt_cmpR op_ne (pe_atV (pe_ix ix_list (pv 3) (pv 4) (fun _ _ => rfl))) (pe_op op_add (pv 2) (pv 4)) (nomark _))))))
            (pss_one (ps_ret pe_bl)) pss_nil)
        (pss_cons (ps_if (pt_cmpR (op_neD (hu64 hr)) (pe_call GK hr1 (by rfl) gK FK.kp bK .nil pass0 (pa_cons (pe_ix ix_list (pv 3) (pv 4) (fun _ _ => rfl)) pa_nil))
              (pe_lc (own := [("t", 8)]) (g := gName 8) (tt := tYes) rfl scLaw.nd (pi_range1 rfl B.range (pa_cons (pe_callB call_len_seq (by rfl) B.len PySem.boot_len (pa_cons (pv 3) pa_nil)) pa_nil))
                (blkOk_by (own := [("t", 8)]) (N := ["script", "draws", "number", "made", "k", "base", "many", "told", "t"]) (sc := defScope sLaw) (by decide +kernel)) (fun _ _ _ _ _ => pg_name (i := 8) scLaw.nd rfl (Or.inl rfl)) (fun _ _ _ _ _ => pts_nil)
                (fun _ _ _ _ _ => pe_cmpR op_eq (pv 8) (pv 4) (nomark _))) (nomark _))
            (pss_one (ps_ret pe_bl)) pss_nil)
        (pss_one (ps_if (PW.pt (pw_or (pt_val (pe_callB call_isi (by rfl) T.isi (by decide +kernel) (pa_cons (pe_atV (pe_ix ix_list (pv 3) (pv 4) (fun _ _ => rfl))) (pa_cons (pe_bltn (v := .ty "bool") (by rfl) gb (by decide +kernel) rfl) pa_nil))))
              (pw_or1 (pt_not (pt_val (pe_callB call_isi (by rfl) T.isi (by decide +kernel) (pa_cons (pe_atV (pe_ix ix_list (pv 3) (pv 4) (fun _ _ => rfl))) (pa_cons (pe_bltn (v := .ty "int") (by rfl) B.int (by decide +kernel) rfl) pa_nil))))))))
            (pss_one (ps_ret pe_bl)) pss_nil)))))
      (pss_cons (ps_set (i := 5) scLaw.nd rfl (.inl rfl) (pe_newAt T.txD ⟨T.sup⟩ T.gD hr (pa_cons (pv 2) pa_nil) (by rfl)))
      (pss_cons (ps_if (PW.pt (pw_or (pt_cmpR op_ne (pe_atV (pv 5)) (pv 2) (nomark _)) (pw_or (pt_cmpR op_in_seq pe_bl (pe_call GK hr1 (by rfl) gK FK.kp bK .nil pass0 (pa_cons (pv 5) pa_nil)) (by rfl))
              (pw_or1 (pt_not (pt_val (pe_callB call_isAt (by rfl) T.isi (by decide +kernel) (pa_cons (pv 5) (pa_cons (pe_bltn (v := .ty "ValueError") (by rfl) T.ve (by decide +kernel) rfl) pa_nil)))))))))
            (pss_one (ps_ret pe_bl)) pss_nil)
      (pss_cons (ps_set (i := 6) scLaw.nd rfl (.inl rfl) (pe_ix ix_list (pe_lst (pa_cons (pe_un un_neg pe_int) (pa_cons pe_int (pa_cons pe_int (pa_cons (pe_un un_neg pe_int) pa_nil)))))
            (pe_call GX hr1 (by rfl) gX FX.kp bX .nil pass0 (pa_cons (pv 1) (pa_cons pe_int (pa_cons pe_int pa_nil)))) (fun _ _ => rfl)))
      (pss_cons (ps_set (i := 7) scLaw.nd rfl (.inl rfl) (pe_call GR hr (by rfl) gR kR bR .nil pass0 (pa_cons (pv 6) pa_nil)))
      (pss_one (ps_ret (pe_and (pe_cmpR op_notN (pv 7) pe_non (nomark _)) (pe_and (pe_cmpR op_eq (pe_atV (pv 7)) (pv 6) (nomark _))
        (pe_one (pe_cmpR (op_eqD (hu64 hr)) (pe_call GK hr1 (by rfl) gK FK.kp bK .nil pass0 (pa_cons (pv 7) pa_nil))
              (pe_lc (own := [("t", 8)]) (g := gName 8) (tt := tYes) rfl scLaw.nd (pi_range1 rfl B.range (pa_cons (pe_callB call_len_seq (by rfl) B.len PySem.boot_len (pa_cons (pv 3) pa_nil)) pa_nil))
                (blkOk_by (own := [("t", 8)]) (N := ["script", "draws", "number", "made", "k", "base", "many", "told", "t"]) (sc := defScope sLaw) (by decide +kernel)) (fun _ _ _ _ _ => pg_name (i := 8) scLaw.nd rfl (Or.inl rfl)) (fun _ _ _ _ _ => pts_nil)
                (fun _ _ _ _ _ => pe_cmpR op_eq (pv 8) pe_int (nomark _))) (nomark _)))))))))))))), ?_⟩
    obtain ⟨a, ns, rfl, hS, hlen, kQ⟩ := h
    -- draws, number, made
    refine ⟨.ref a, rfl, a, ns, rfl, hS, by show ns.length ≤ sizeLine; rw [sizeLine_eq]; omega, fun H1 p ds s1 np ep hd => ?_⟩
    refine ⟨.ref p, rfl, p, ds, 0, 60000, rfl, SqL.of ep, hd, by decide, by decide, by decide, fun r r0 r1 => ⟨r, 30000, rfl, rfl, ?_⟩⟩
    refine ⟨_, rfl, r - 30000, rfl, fun H2 q as s2 nq hl eq hall => ?_⟩
    have el : (as.map V.ref).length = 13 := by rw [List.length_map]; exact hl
    have elv : [V.int ((as.map V.ref).length : Int)] = [V.int 13] := by rw [el]; rfl
    have ep2 : H2 p = some (.lst (ds.map V.int)) := s2 _ _ ep
    -- the loop
    refine ⟨.ref q, rfl, q, as.map V.ref, rfl, .inl (SqL.of eq), 13, elv, by decide, by decide, for_range (n := 13) (fun i σ H3 => ∃ y4 y8, σ = [some (.ref a), some (.ref p), some (V.int (r - 30000)), some (.ref q), y4, none, none, none, y8] ∧ Same H2 H3)
      ⟨none, none, rfl, fun _ _ z => z⟩ ?_ ?_⟩
    · rintro i σ H3 hi ⟨y4, y8, rfl, s3⟩
      have hia : i < as.length := by rw [hl]; exact hi
      have eq3 : SqL K H3 q (as.map V.ref) := SqL.of (s3 _ _ eq)
      have at_ : atI (as.map V.ref) (0 + (i : Int)) = some (V.ref as[i]) := by
        rw [Int.zero_add]
        refine atI_nat ?_
        rw [List.getElem?_map, List.getElem?_eq_getElem hia]; rfl
      obtain ⟨d, h1, h2⟩ := (hall i as[i] (List.getElem?_eq_getElem hia)).same s3
      have kkD := T.kD i hi
      have kkV := T.kV i hi
      -- the first if
      refine ⟨.ref q, rfl, .int (0 + (i : Int)), rfl, q, as.map V.ref, _, _, rfl, rfl, eq3, at_, as[i], C i, d, .ref D, .ref D, true, rfl, h1, ⟨_, h2⟩, T.ex i hi, fun u r => r, kkD, true, rfl, iteF ?_⟩
      refine ⟨.ref q, rfl, .int (0 + (i : Int)), rfl, q, as.map V.ref, _, _, rfl, rfl, eq3, at_, as[i], C i, d, .ty "ValueError", .type "ValueError", true, rfl, h1, ⟨_, h2⟩, T.ex i hi, fun u r => r, kkV, true, rfl, iteF ?_⟩
      refine ⟨.ref q, rfl, .int (0 + (i : Int)), rfl, q, as.map V.ref, _, _, rfl, rfl, eq3, at_, as[i], C i, d, .int (r - 30000 + i), rfl, h1, h2, T.ex i hi, (T.noN i hi), (.int (r - 30000)), rfl, .int (0 + (i : Int)), rfl, r - 30000, 0 + (i : Int), rfl, rfl, rfl, false, ?_, iteF ?_⟩
      · rw [Int.zero_add, decide_eq_true rfl]; rfl
      -- the second if
      refine ⟨.ref q, rfl, .int (0 + (i : Int)), rfl, q, as.map V.ref, _, _, rfl, rfl, eq3, at_, as[i], C i, d, (fun j => decide (j = i)), rfl, h1, ⟨_, h2⟩, T.ex i hi, fun j hj => T.kk i j hi hj, fun pk npk => ?_⟩
      have s4 : Same H3 (upd H3 pk (.lst (kinds fun j => decide (j = i)))) := same_new npk
      refine ⟨.ref q, rfl, q, as.map V.ref, rfl, .inl (s4.seq eq3), 13, elv, by decide, by decide, fun L nL => lc_range (n := 13) (fun j H5 => Same (upd H3 pk (.lst (kinds fun j => decide (j = i)))) H5 ∧ H5 L = some (.lst (bls ((List.range j).map fun t => decide (t = i)))))
        ⟨same_new nL, upd_same⟩ ?_ ?_⟩
      · rintro j H5 hj ⟨s5, e5⟩
        refine ⟨rfl, (⟨_, rfl, _, rfl, rfl, _, e5, ?_, same_put s5 nL, ?_⟩ : tOp rEq (tVar 8) (tVar 4) [some (V.ref a), some (V.ref p), some (V.int (r - 30000)), some (V.ref q), some (V.int (0 + (i : Int))), none, none, none, some (V.int (0 + (j : Int)))] H5 _)⟩
        · unfold bls
          rw [List.length_map, List.length_map, List.length_range, sizeLine_eq]; omega
        · rw [upd_same, decC, List.range_succ, List.map_append]
          unfold bls
          rw [List.map_append]; rfl
      rintro H5 ⟨s5, e5⟩
      refine ⟨_, _, .lst (SqL.of (s5 _ _ upd_same)) (kinds_bls _ ▸ dp_bls _), .lst (SqL.of e5) (dp_bls _), shaped13 _, shaped13 _, false, ?_, iteF ?_⟩
      · rw [eqv13]; rfl
      -- the third if
      have s35 : Same H3 H5 := s4.trans s5
      refine ⟨.ref q, rfl, .int (0 + (i : Int)), rfl, q, as.map V.ref, _, _, rfl, rfl, s35.seq eq3, at_, as[i], C i, d, .int (r - 30000 + i), rfl, s35 _ _ h1, s35 _ _ h2, T.ex i hi, T.noN i hi, .int (r - 30000 + i), .ty "bool", .type "int", .type "bool", false, rfl, .ty _, .base (.int _), kit_ty (by decide), false, rfl, iteF ?_⟩
      refine ⟨.ref q, rfl, .int (0 + (i : Int)), rfl, q, as.map V.ref, _, _, rfl, rfl, s35.seq eq3, at_, as[i], C i, d, .int (r - 30000 + i), rfl, s35 _ _ h1, s35 _ _ h2, T.ex i hi, T.noN i hi, .int (r - 30000 + i), .ty "int", .type "int", .type "int", true, rfl, .ty _, .base (.int _), kit_ty (by decide), true, rfl, iteF ?_⟩
      exact ⟨_, _, rfl, s3.trans s35⟩
    · rintro σ H3 ⟨y4, y8, rfl, s3⟩
      -- the base class
      refine ⟨_, rfl, .int (r - 30000), rfl, fun ab db nab ndb nda => ?_⟩
      generalize hB : upd (upd H3 db (.xd [(("at" : Str), V.int (r - 30000))])) ab (ExD D db ab) = H4
      have s4 : Same H3 H4 := fun b o e => by
        rw [← hB, upd_ne (ne_of_none e nab), upd_ne (ne_of_none e ndb)]; exact e
      have h1 : H4 ab = some (ExD D db ab) := by rw [← hB]; exact upd_same
      have h2 : H4 db = some (.xd [(("at" : Str), V.int (r - 30000))]) := by rw [← hB, upd_ne nda]; exact upd_same
      clear hB
      refine ⟨.ref ab, rfl, ab, D, db, .int (r - 30000), rfl, h1, h2, T.exD, T.noND, .int (r - 30000), rfl, rfl, false, ?_, iteF ?_⟩
      · rw [decide_eq_true rfl]; rfl
      refine ⟨.ref ab, rfl, ab, D, db, (fun _ => false), rfl, h1, ⟨_, h2⟩, T.exD, fun j hj => T.dk j hj, fun pk npk => ?_⟩
      have s5 : Same H4 (upd H4 pk (.lst (kinds fun _ => false))) := same_new npk
      refine ⟨pk, kinds (fun _ => false), rfl, .inl (SqL.of upd_same), rfl, rfl, false, rfl, iteF ?_⟩
      refine ⟨.ref ab, rfl, ab, D, db, .ty "ValueError", .type "ValueError", true, rfl, s5 _ _ h1, ⟨_, s5 _ _ h2⟩, T.exD, fun u r => r, T.dV, true, rfl, iteF ?_⟩
      -- many
      refine ⟨1, rfl, 30, rfl, by decide, fun pm npm => ?_⟩
      generalize hH5 : upd (upd H4 pk (.lst (kinds fun _ => false))) pm _ = H5
      have s25 : Same H2 H5 := s3.trans (s4.trans (s5.trans (hH5 ▸ same_new npm)))
      have em : H5 pm = some (.lst [.int (-1), .int 1, .int 99, .int (-30)]) := by rw [← hH5]; exact upd_same
      clear hH5
      refine ⟨.ref p, rfl, p, ds, 1, 4, rfl, SqL.of (s25 _ _ ep2), hd, by decide, by decide, by decide, fun r2 r20 r21 => ?_⟩
      obtain ⟨m, hm, am⟩ : ∃ m : Int, (m = -1 ∨ m = 1 ∨ m = 99 ∨ m = -30) ∧ atI [V.int (-1), V.int 1, V.int 99, V.int (-30)] r2 = some (.int m) := by
        have : r2 = 0 ∨ r2 = 1 ∨ r2 = 2 ∨ r2 = 3 := by omega
        rcases this with rfl | rfl | rfl | rfl
        · exact ⟨-1, .inl rfl, rfl⟩
        · exact ⟨1, .inr (.inl rfl), rfl⟩
        · exact ⟨99, .inr (.inr (.inl rfl)), rfl⟩
        · exact ⟨-30, .inr (.inr (.inr rfl)), rfl⟩
      refine ⟨pm, _, r2, .int m, rfl, rfl, SqL.of em, am, ?_⟩
      -- told
      refine ⟨_, rfl, m, rfl, hm, fun H6 at_ s6 ⟨d, h1, h2⟩ => ?_⟩
      have eq6 : SqL K H6 q (as.map V.ref) := SqL.of (s6 _ _ (s25 _ _ eq))
      refine ⟨.ref at_, rfl, rfl, true, rfl, iteT ?_⟩
      refine ⟨.ref at_, rfl, at_, C 0, d, .int m, rfl, h1, h2, T.ex 0 (by decide), T.noN 0 (by decide), .int m, rfl, rfl, true, ?_, iteT ?_⟩
      · rw [decide_eq_true rfl]
      refine ⟨.ref at_, rfl, at_, C 0, d, (fun j => decide (j = 0)), rfl, h1, ⟨_, h2⟩, T.ex 0 (by decide), fun j hj => T.kk 0 j (by decide) hj, fun pk npk => ?_⟩
      refine ⟨.ref q, rfl, q, as.map V.ref, rfl, .inl ((same_new npk).seq eq6), 13, elv, by decide, by decide, fun L nL => lc_range (n := 13) (fun j H5 => Same (upd H6 pk (.lst (kinds fun j => decide (j = 0)))) H5 ∧ H5 L = some (.lst (bls ((List.range j).map fun t => decide (t = 0)))))
        ⟨same_new nL, upd_same⟩ ?_ ?_⟩
      · rintro j H5 hj ⟨s5, e5⟩
        refine ⟨rfl, (⟨_, rfl, rfl, _, e5, ?_, same_put s5 nL, ?_⟩ : tOp rEq (tVar 8) (tC (V.int 0)) [some (V.ref a), some (V.ref p), some (V.int (r - 30000)), some (V.ref q), y4, some (V.ref ab), some (V.int m), some (V.ref at_), some (V.int (0 + (j : Int)))] H5 _)⟩
        · unfold bls
          rw [List.length_map, List.length_map, List.length_range, sizeLine_eq]; omega
        · have z := decC j 0
          rw [upd_same, show decide (V.int (0 + (j : Int)) = V.int 0) = decide (j = 0) from z, List.range_succ, List.map_append]
          unfold bls
          rw [List.map_append]; rfl
      rintro H5 ⟨s5, e5⟩
      refine ⟨_, _, .lst (SqL.of (s5 _ _ upd_same)) (kinds_bls _ ▸ dp_bls _), .lst (SqL.of e5) (dp_bls _), shaped13 _, shaped13 _, ?_⟩
      rw [eqv13]
      exact kQ _
end
end My
namespace My
open PySem PySem.Spec PyProof.Rows L2
abbrev sTakes : Stmt := topS 25
abbrev sGives : Stmt := topS 26
abbrev sNexts : Stmt := topS 27
abbrev sIsValue : Stmt := topS 28
abbrev sIsCount : Stmt := topS 29
abbrev sIsField : Stmt := topS 30
theorem scTakes : FnScope ["line"] ["line"] (defScope sTakes) := ⟨rfl, rfl, rfl, by decide +kernel, rfl, by decide +kernel, by decide +kernel⟩
theorem scGives : FnScope ["line"] ["line"] (defScope sGives) := ⟨rfl, rfl, rfl, by decide +kernel, rfl, by decide +kernel, by decide +kernel⟩
theorem scNexts : FnScope ["code", "place", "line", "found"] ["code", "place"] (defScope sNexts) := ⟨rfl, rfl, rfl, by decide +kernel, rfl, by decide +kernel, by decide +kernel⟩
theorem scIsValue : FnScope ["told"] ["told"] (defScope sIsValue) := ⟨rfl, rfl, rfl, by decide +kernel, rfl, by decide +kernel, by decide +kernel⟩
theorem scIsCount : FnScope ["told", "most"] ["told", "most"] (defScope sIsCount) := ⟨rfl, rfl, rfl, by decide +kernel, rfl, by decide +kernel, by decide +kernel⟩
theorem scIsField : FnScope ["kind", "told", "functions", "k", "function", "mosts"] ["kind", "told", "functions", "k", "function"] (defScope sIsField) := ⟨rfl, rfl, rfl, by decide +kernel, rfl, by decide +kernel, by decide +kernel⟩
/-- the one program that the law checks: its code at c, in f, in the list fs -/
structure CodeAt (H : Hp) (c l0 l1 t : Addr) : Prop where
  hc : H c = some (.tup [.ref l0, .ref l1])
  h0 : H l0 = some (.tup [.str "const", .ref t])
  h1 : H l1 = some (.tup [.str "return"])
  ht : H t = some (.tup [.str "null"])
theorem CodeAt.same {H H' : Hp} {c l0 l1 t : Addr} (h : CodeAt H c l0 l1 t) (s : Same H H') : CodeAt H' c l0 l1 t := ⟨s _ _ h.hc, s _ _ h.h0, s _ _ h.h1, s _ _ h.ht⟩
theorem tupSame {K : PySem.W.Frag} {H H' : Hp} {a : Addr} {xs : List V} (s : Same H H') (h : SqT K H a xs) : SqT K H' a xs := by
  rcases h with q | q
  · rcases q with q | ⟨o, q⟩
    · exact .inl (.inl (s _ _ q))
    · exact .inl (.inr ⟨o, s _ _ q⟩)
  · exact .inr q
/-- what the top has written for these defs -/
structure Chk (K : PySem.W.Frag) (w : World) (mg : Str → Option Value) : Prop where
  takes : ∃ d es n, mg "TAKES" = some (.ref d) ∧ KDict K w d es n ∧ PySem.W.nsIn K d "const" = some none ∧ ∃ t, PySem.W.nsIn K d "return" = some (some (.int 1 t))
  gives : ∃ d es n, mg "GIVES" = some (.ref d) ∧ KDict K w d es n ∧ PySem.W.nsIn K d "return" = some none ∧ ∃ t, PySem.W.nsIn K d "const" = some (some (.int 1 t))
  fields : ∃ d es n, mg "FIELDS" = some (.ref d) ∧ KDict K w d es n ∧ ∃ t, PySem.W.nsIn K d "const" = some (some (.str "v" t))
  aims : ∃ p, mg "AIMS" = some (.ref p) ∧ ∀ H, SqT K H p [.str "jump", .str "unless", .str "loop", .str "try"]
  ends : ∃ p, mg "ENDS" = some (.ref p) ∧ ∀ H, SqT K H p [.str "jump", .str "loop", .str "return", .str "throw"]
  plain : ∃ p, mg "PLAIN" = some (.ref p) ∧ ∀ H, SqT K H p [.str "pop", .str "not", .str "return", .str "object", .str "item", .str "setitem", .str "len", .str "push", .str "print", .str "throw", .str "end"]
  most : ∃ t, mg "MOST_LINES" = some (.int 400 t)
  isi : mg "isinstance" = none
  tup : mg "tuple" = none
  int : mg "int" = none
  bool : mg "bool" = none
  str : mg "str" = none
  len : mg "len" = none
  all : mg "all" = none
  range : mg "range" = none
  enum : mg "enumerate" = none
  sorted : mg "sorted" = none
def spTakes (K : PySem.W.Frag) : Sp := fun vs H Q _ => ∃ (l : Addr) (s : Str) (rest : List V) (n : Int), vs = [.ref l] ∧ SqT K H l (.str s :: rest) ∧ ((s = "const" ∧ n = 0) ∨ (s = "return" ∧ n = 1)) ∧ ∀ H', Same H H' → Q (.int n) H'
def spGives (K : PySem.W.Frag) : Sp := fun vs H Q _ => ∃ (l : Addr) (s : Str) (rest : List V) (n : Int), vs = [.ref l] ∧ SqT K H l (.str s :: rest) ∧ ((s = "const" ∧ n = 1) ∨ (s = "return" ∧ n = 0)) ∧ ∀ H', Same H H' → Q (.int n) H'
section
variable {P : Program} {w : World} {K : PySem.W.Frag} {mg : Str → Option Value} {base : Heap}
theorem ok_takes {f : Addr} {fd : FuncData} (F : Fun K "takes" "takes" sTakes f fd) (T : Chk K w mg) : FnOk P w K mg base CX0 1 f fd ["line"] (spTakes K) := by
  obtain ⟨d, es, n, gT, kd, k0, t, k1⟩ := T.takes
  refine F.ok scTakes (fun vs H Q E h => ?_) (fun cdv A outer s H vs Q E hr h => ?_)
  · obtain ⟨l, s, rest, n, rfl, _⟩ := h; rfl
  · refine ⟨_, pss_cons (ps_if (pt_cmpR op_in_seq (pe_ix ix_tup (pv 0) pe_int (fun _ _ => rfl)) (pe_tup (pa_cons pe_str (pa_cons pe_str pa_nil))) (by rfl)) (pss_one ps_never) pss_nil)
      (pss_one (ps_ret (pe_get_kd kd (pe_glob (v := .ref d) (by rfl) gT rfl) (pe_ix ix_tup (pv 0) pe_int (fun _ _ => rfl)) pe_int ⟨rfl, rfl, rfl, rfl⟩))), ?_⟩
    obtain ⟨l, s, rest, m, rfl, hS, hc, kQ⟩ := h
    have hne : inV (.str s) [.str "call", .str "list"] = false := by
      rcases hc with ⟨rfl, _⟩ | ⟨rfl, _⟩ <;> decide +kernel
    refine ⟨.ref l, rfl, l, _, 0, .str s, rfl, rfl, hS, atI_nat (j := 0) rfl, by decide, fun p np => ⟨p, _, rfl, .inr (SqT.of upd_same), rfl, rfl, false, congrArg V.bl hne, iteF ?_⟩⟩
    have sm := same_new (o := .tup [.str "call", .str "list"]) np
    refine ⟨rfl, .ref l, rfl, l, _, 0, .str s, rfl, rfl, tupSame sm hS, atI_nat (j := 0) rfl, ?_⟩
    rcases hc with ⟨rfl, rfl⟩ | ⟨rfl, rfl⟩
    · exact ⟨_, none, rfl, k0, fun _ => kQ _ sm, fun u q => nomatch q⟩
    · exact ⟨_, some (.int 1 t), rfl, k1, (fun q => nomatch q), fun u q => ⟨.int 1, by cases q; exact ⟨t, rfl⟩, kQ _ sm⟩⟩
theorem ok_gives {f : Addr} {fd : FuncData} (F : Fun K "gives" "gives" sGives f fd) (T : Chk K w mg) : FnOk P w K mg base CX0 1 f fd ["line"] (spGives K) := by
  obtain ⟨d, es, n, gT, kd, k0, t, k1⟩ := T.gives
  refine F.ok scGives (fun vs H Q E h => ?_) (fun cdv A outer s H vs Q E hr h => ?_)
  · obtain ⟨l, s, rest, n, rfl, _⟩ := h; rfl
  · refine ⟨_, pss_one (ps_ret (pe_ifExp (pt_cmpR op_in_seq (pe_ix ix_tup (pv 0) pe_int (fun _ _ => rfl)) (pe_tup (pa_cons pe_str (pa_cons pe_str pa_nil))) (by rfl)) pe_int
      (pe_get_kd kd (pe_glob (v := .ref d) (by rfl) gT rfl) (pe_ix ix_tup (pv 0) pe_int (fun _ _ => rfl)) pe_int ⟨rfl, rfl, rfl, rfl⟩))), ?_⟩
    obtain ⟨l, s, rest, m, rfl, hS, hc, kQ⟩ := h
    have hne : inV (.str s) [.str "call", .str "list"] = false := by
      rcases hc with ⟨rfl, _⟩ | ⟨rfl, _⟩ <;> decide +kernel
    refine ⟨.ref l, rfl, l, _, 0, .str s, rfl, rfl, hS, atI_nat (j := 0) rfl, by decide, fun p np => ⟨p, _, rfl, .inr (SqT.of upd_same), rfl, rfl, false, congrArg V.bl hne, iteF ?_⟩⟩
    have sm := same_new (o := .tup [.str "call", .str "list"]) np
    refine ⟨rfl, .ref l, rfl, l, _, 0, .str s, rfl, rfl, tupSame sm hS, atI_nat (j := 0) rfl, ?_⟩
    rcases hc with ⟨rfl, rfl⟩ | ⟨rfl, rfl⟩
    · exact ⟨_, some (.int 1 t), rfl, k1, (fun q => nomatch q), fun u q => ⟨.int 1, by cases q; exact ⟨t, rfl⟩, kQ _ sm⟩⟩
    · exact ⟨_, none, rfl, k0, fun _ => kQ _ sm, fun u q => nomatch q⟩
def spNexts : Sp := fun vs H Q _ => ∃ (c l0 l1 t : Addr) (i : Int) (xs : List Int), vs = [.ref c, .int i] ∧ CodeAt H c l0 l1 t ∧ ((i = 0 ∧ xs = [1]) ∨ (i = 1 ∧ xs = [])) ∧ ∀ H' p, Same H H' → H p = none → H' p = some (.lst (xs.map V.int)) → Q (.ref p) H'
theorem ok_nexts {f : Addr} {fd : FuncData} (F : Fun K "nexts" "nexts" sNexts f fd) (T : Chk K w mg) : FnOk P w K mg base CX0 1 f fd ["code", "place"] spNexts := by
  obtain ⟨pa, gA, hA⟩ := T.aims
  obtain ⟨pe, gE, hE⟩ := T.ends
  refine F.ok scNexts (fun vs H Q E h => ?_) (fun cdv A outer s H vs Q E hr h => ?_)
  · obtain ⟨c, l0, l1, t, i, xs, rfl, _⟩ := h; rfl
  · refine ⟨_, pss_cons (ps_set (i := 2) scNexts.nd rfl (.inl rfl) (pe_ix ix_tup (pv 0) (pv 1) (fun _ _ => rfl)))
      (pss_cons (ps_set (i := 3) scNexts.nd rfl (.inl rfl) (pe_ifExp (pt_cmpR op_in_seq (pe_ix ix_tup (pv 2) pe_int (fun _ _ => rfl)) (pe_glob (v := .ref pe) (by rfl) gE rfl) (by rfl)) (pe_lst pa_nil) (pe_lst (pa_cons (pe_op op_add (pv 1) pe_int) pa_nil))))
      (pss_cons (ps_if (PW.pt (pw_and (pt_cmpR op_in_seq (pe_ix ix_tup (pv 2) pe_int (fun _ _ => rfl)) (pe_glob (v := .ref pa) (by rfl) gA rfl) (by rfl)) (pw_and1 (pt_cmpR op_notIn_seq (pe_ix ix_tup (pv 2) pe_int (fun _ _ => rfl)) (pv 3) (by rfl))))) pss_never pss_nil)
      (pss_one (ps_ret (pv 3))))), ?_⟩
    obtain ⟨c, l0, l1, t, i, xs, rfl, hC, hi, kQ⟩ := h
    rcases hi with ⟨rfl, rfl⟩ | ⟨rfl, rfl⟩
    · refine ⟨.ref c, rfl, .int 0, rfl, c, _, 0, .ref l0, rfl, rfl, SqT.of hC.hc, atI_nat (j := 0) rfl, ?_⟩
      refine ⟨.ref l0, rfl, l0, _, 0, .str "const", rfl, rfl, SqT.of hC.h0, atI_nat (j := 0) rfl, pe, _, rfl, .inr (hE _), rfl, rfl, false, congrArg V.bl (by decide +kernel), iteF ?_⟩
      refine ⟨.int 0, rfl, 0, 1, rfl, rfl, by decide, fun p np => ?_⟩
      have sm := same_new (o := .lst [.int 1]) np
      refine ⟨.ref l0, rfl, l0, _, 0, .str "const", rfl, rfl, SqT.of (sm _ _ hC.h0), atI_nat (j := 0) rfl, pa, _, rfl, .inr (hA _), rfl, rfl, false, congrArg V.bl (by decide +kernel), iteF ?_⟩
      exact ⟨.ref p, rfl, kQ _ p sm np upd_same⟩
    · refine ⟨.ref c, rfl, .int 1, rfl, c, _, 1, .ref l1, rfl, rfl, SqT.of hC.hc, atI_nat (j := 1) rfl, ?_⟩
      refine ⟨.ref l1, rfl, l1, _, 0, .str "return", rfl, rfl, SqT.of hC.h1, atI_nat (j := 0) rfl, pe, _, rfl, .inr (hE _), rfl, rfl, true, congrArg V.bl (by decide +kernel), iteT ?_⟩
      refine ⟨by decide, fun p np => ?_⟩
      have sm := same_new (o := .lst []) np
      refine ⟨.ref l1, rfl, l1, _, 0, .str "return", rfl, rfl, SqT.of (sm _ _ hC.h1), atI_nat (j := 0) rfl, pa, _, rfl, .inr (hA _), rfl, rfl, false, congrArg V.bl (by decide +kernel), iteF ?_⟩
      exact ⟨.ref p, rfl, kQ _ p sm np upd_same⟩
def spIsValue : Sp := fun vs H Q _ => ∃ t : Addr, vs = [.ref t] ∧ H t = some (.tup [.str "null"]) ∧ Q (.bl true) H
theorem ok_isValue {f : Addr} {fd : FuncData} (F : Fun K "is_value" "is_value" sIsValue f fd) (T : Chk K w mg) : FnOk P w K mg base CX0 1 f fd ["told"] spIsValue := by
  refine F.ok scIsValue (fun vs H Q E h => ?_) (fun cdv A outer s H vs Q E hr h => ?_)
  · obtain ⟨t, rfl, _⟩ := h; rfl
  · refine ⟨_, pss_cons (ps_if (PW.pt (pw_or (pt_not (pt_val (pe_callB call_isi (by rfl) T.isi (by decide +kernel) (pa_cons (pv 0) (pa_cons (pe_bltn (v := .ty "tuple") (by rfl) T.tup (by decide +kernel) rfl) pa_nil)))))
          (pw_or1 (pt_cmpR op_eq (pe_callB call_len_seq (by rfl) T.len PySem.boot_len (pa_cons (pv 0) pa_nil)) pe_int (nomark _))))) pss_never pss_nil)
      (pss_cons (ps_if (pt_cmpR op_eq (pe_ix ix_tup (pv 0) pe_int (fun _ _ => rfl)) pe_str (nomark _)) (pss_one (ps_ret (pe_cmpR op_eq (pe_callB call_len_seq (by rfl) T.len PySem.boot_len (pa_cons (pv 0) pa_nil)) pe_int (nomark _)))) pss_nil)
      pss_never), ?_⟩
    obtain ⟨t, rfl, ht, kQ⟩ := h
    refine ⟨.ref t, rfl, .ref t, .ty "tuple", .type "tuple", .type "tuple", true, rfl, .ty _, .base (.tup ht), kit_ty (by decide), true, rfl, iteF ?_⟩
    refine ⟨.ref t, rfl, t, _, rfl, .inr (SqT.of ht), rfl, false, rfl, iteF ?_⟩
    refine ⟨.ref t, rfl, t, _, 0, .str "null", rfl, rfl, SqT.of ht, atI_nat (j := 0) rfl, rfl, true, congrArg V.bl (by decide +kernel), iteT ?_⟩
    exact ⟨.ref t, rfl, t, _, rfl, .inr (SqT.of ht), rfl, kQ⟩
def spIsCount : Sp := fun vs H Q _ => ∃ n m : Int, vs = [.int n, .int m] ∧ 0 ≤ n ∧ n < m ∧ Q (.bl true) H
theorem ok_isCount {f : Addr} {fd : FuncData} (F : Fun K "is_count" "is_count" sIsCount f fd) (T : Chk K w mg) : FnOk P w K mg base CX0 1 f fd ["told", "most"] spIsCount := by
  refine F.ok scIsCount (fun vs H Q E h => ?_) (fun cdv A outer s H vs Q E hr h => ?_)
  · obtain ⟨n, m, rfl, _⟩ := h; rfl
  · refine ⟨_, pss_one (ps_ret (pe_and (pe_callB call_isi (by rfl) T.isi (by decide +kernel) (pa_cons (pv 0) (pa_cons (pe_bltn (v := .ty "int") (by rfl) T.int (by decide +kernel) rfl) pa_nil)))
      (pe_and (pe_not (pe_callB call_isi (by rfl) T.isi (by decide +kernel) (pa_cons (pv 0) (pa_cons (pe_bltn (v := .ty "bool") (by rfl) T.bool (by decide +kernel) rfl) pa_nil))))
      (pe_one (pe_chain op_le op_lt pe_int (pv 0) (pv 1)))))), ?_⟩
    obtain ⟨n, m, rfl, h0, h1, kQ⟩ := h
    refine ⟨.int n, rfl, .int n, .ty "int", .type "int", .type "int", true, rfl, .ty _, .base (.int _), kit_ty (by decide), true, rfl, iteT ?_⟩
    refine ⟨.int n, rfl, .int n, .ty "bool", .type "int", .type "bool", false, rfl, .ty _, .base (.int _), kit_ty (by decide), false, rfl, true, rfl, iteT ?_⟩
    refine ⟨.int n, rfl, 0, n, rfl, rfl, true, congrArg V.bl (decide_eq_true h0), iteT ⟨.int m, rfl, n, m, rfl, rfl, ?_⟩⟩
    show Q (V.bl (decide (n < m))) H
    rw [decide_eq_true h1]
    exact kQ
def spIsField : Sp := fun vs H Q _ => ∃ (t : Addr) (x y z : V), vs = [.str "v", .ref t, x, y, z] ∧ H t = some (.tup [.str "null"]) ∧ Q (.bl true) H
theorem ok_isField {f g : Addr} {fd gd : FuncData} (F : Fun K "is_field" "is_field" sIsField f fd) (T : Chk K w mg) (FV : Fun K "is_value" "is_value" sIsValue g gd) (gV : mg "is_value" = some (.ref g)) (bV : Binds K gd ["told"] []) :
    FnOk P w K mg base CX0 2 f fd ["kind", "told", "functions", "k", "function"] spIsField := by
  have GV : FnOk P w K mg base CX0 1 g gd ["told"] spIsValue := ok_isValue FV T
  refine F.ok scIsField (fun vs H Q E h => ?_) (fun cdv A outer s H vs Q E hr h => ?_)
  · obtain ⟨t, x, y, z, rfl, _⟩ := h; rfl
  · refine ⟨_, pss_cons (ps_if (pt_cmpR op_eq (pv 0) pe_str (nomark _)) (pss_one (ps_ret (pe_call GV hr (by rfl) gV FV.kp bV .nil pass0 (pa_cons (pv 1) pa_nil)))) pss_nil) pss_never, ?_⟩
    obtain ⟨t, x, y, z, rfl, ht, kQ⟩ := h
    exact ⟨.str "v", rfl, rfl, true, congrArg V.bl (by decide +kernel), iteT ⟨.ref t, rfl, t, rfl, ht, kQ⟩⟩
end
end My
namespace My
open PySem PySem.Spec PyProof.Rows L2
abbrev sIsLine : Stmt := topS 32
abbrev sHeightsOf : Stmt := topS 33
abbrev sHandlersOf : Stmt := topS 34
theorem scIsLine : FnScope ["functions", "function", "k", "line", "j", "kind"] ["functions", "function", "k"] (defScope sIsLine) := ⟨rfl, rfl, rfl, by decide +kernel, rfl, by decide +kernel, by decide +kernel⟩
structure PrAt (H : Hp) (fs f c l0 l1 t : Addr) : Prop where
  hs : H fs = some (.lst [.ref f])
  hf : H f = some (.tup [.str "main", .int 0, .int 0, .int 0, .ref c])
  code : CodeAt H c l0 l1 t
theorem PrAt.same {H H' : Hp} {fs f c l0 l1 t : Addr} (h : PrAt H fs f c l0 l1 t) (s : Same H H') : PrAt H' fs f c l0 l1 t := ⟨s _ _ h.hs, s _ _ h.hf, h.code.same s⟩
theorem pe_never {X : Cx} {e : Expr} : PE X e (fun _ _ _ => False) := ⟨fun _ _ _ _ _ _ h => h.elim⟩
def spIsLine : Sp := fun vs H Q _ => ∃ (fs f c l0 l1 t : Addr) (i : Int), vs = [.ref fs, .ref f, .int i] ∧ PrAt H fs f c l0 l1 t ∧ (i = 0 ∨ i = 1) ∧ ∀ H', Same H H' → Q (.bl true) H'
section
variable {P : Program} {w : World} {K : PySem.W.Frag} {mg : Str → Option Value} {base : Heap}
theorem ok_isLine {f g : Addr} {fd gd : FuncData} (F : Fun K "is_line" "is_line" sIsLine f fd) (T : Chk K w mg) (GF : FnOk P w K mg base CX0 2 g gd ["kind", "told", "functions", "k", "function"] spIsField) (kF : PySem.W.keepIn K (.ref g) = true) (gF : mg "is_field" = some (.ref g))
    (bF : Binds K gd ["kind", "told", "functions", "k", "function"] []) : FnOk P w K mg base CX0 3 f fd ["functions", "function", "k"] spIsLine := by
  obtain ⟨pa, gA, hA⟩ := T.aims
  obtain ⟨pp, gP, hP⟩ := T.plain
  obtain ⟨d, es, n, gD, kd, tk, kv⟩ := T.fields
  refine F.ok scIsLine (fun vs H Q E h => ?_) (fun cdv A outer s H vs Q E hr h => ?_)
  · obtain ⟨fs, f, c, l0, l1, t, i, rfl, _⟩ := h; rfl
  · refine ⟨_, pss_cons (ps_set (i := 3) scIsLine.nd rfl (.inr rfl) (pe_ix ix_tup (pe_ix ix_tup (pv 1) pe_int (fun _ _ => rfl)) (pv 2) (fun _ _ => rfl)))
      (pss_cons (ps_if (PW.pt (pw_or (pt_not (pt_val (pe_callB call_isi (by rfl) T.isi (by decide +kernel) (pa_cons (pv 3) (pa_cons (pe_bltn (v := .ty "tuple") (by rfl) T.tup (by decide +kernel) rfl) pa_nil)))))
          (pw_or (pt_cmpR op_eq (pe_callB call_len_seq (by rfl) T.len PySem.boot_len (pa_cons (pv 3) pa_nil)) pe_int (nomark _))
          (pw_or1 (pt_not (pt_val (pe_callB call_isi (by rfl) T.isi (by decide +kernel) (pa_cons (pe_ix ix_tup (pv 3) pe_int (fun _ _ => rfl)) (pa_cons (pe_bltn (v := .ty "str") (by rfl) T.str (by decide +kernel) rfl) pa_nil))))))))) pss_never pss_nil)
      (pss_cons (ps_if (pt_cmpR op_in_seq (pe_ix ix_tup (pv 3) pe_int (fun _ _ => rfl)) (pe_glob (v := .ref pp) (by rfl) gP rfl) (by rfl)) (pss_one (ps_ret (pe_cmpR op_eq (pe_callB call_len_seq (by rfl) T.len PySem.boot_len (pa_cons (pv 3) pa_nil)) pe_int (nomark _)))) pss_nil)
      (pss_cons (ps_if (PW.pt (pw_or (pt_cmpR (op_notIn_kd kd) (pe_ix ix_tup (pv 3) pe_int (fun _ _ => rfl)) (pe_glob (v := .ref d) (by rfl) gD rfl) (by rfl))
          (pw_or1 (pt_cmpR op_ne (pe_callB call_len_seq (by rfl) T.len PySem.boot_len (pa_cons (pv 3) pa_nil)) (pe_op op_add (pe_callB call_len_str (by rfl) T.len PySem.boot_len (pa_cons (pe_ix ix_kdict (pe_glob (v := .ref d) (by rfl) gD rfl) (pe_ix ix_tup (pv 3) pe_int (fun _ _ => rfl)) (fun _ _ => rfl)) pa_nil)) pe_int) (nomark _))))) pss_never pss_nil)
      (pss_cons (ps_if (pt_not (pt_val (pe_callB (cr_all rfl) (by rfl) T.all (by decide +kernel) (pa_cons
          (pe_lc (own := [("j", 4), ("kind", 5)]) (g := gTup K 2 (gCons (gName 4) (gCons (gName 5) gNil))) (tt := tYes) rfl scIsLine.nd (pi_enumS (by rfl) T.enum (pa_cons (pe_ix ix_kdict (pe_glob (v := .ref d) (by rfl) gD rfl) (pe_ix ix_tup (pv 3) pe_int (fun _ _ => rfl)) (fun _ _ => rfl)) pa_nil))
            (blkOk_by (own := [("j", 4), ("kind", 5)]) (N := ["functions", "function", "k", "line", "j", "kind"]) (sc := defScope sIsLine) (by decide +kernel))
            (fun _ _ _ _ _ => pg_tup rfl (pgs_cons (pg_name (i := 4) scIsLine.nd rfl (.inl rfl)) (pgs_cons (pg_name (i := 5) scIsLine.nd rfl (.inl rfl)) pgs_nil))) (fun _ _ _ _ _ => pts_nil)
            (fun _ _ _ _ _ => pe_call GF hr (by rfl) gF kF bF .nil pass0 (pa_cons (pv 5) (pa_cons (pe_ix (r := rIxT K) ix_tup (pv 3) (pe_op op_add (pv 4) pe_int) (fun _ _ => rfl)) (pa_cons (pv 0) (pa_cons (pv 2) (pa_cons (pv 1) pa_nil))))))) pa_nil)))) pss_never pss_nil)
      (pss_cons (ps_if (pt_cmpR op_eq (pe_ix ix_tup (pv 3) pe_int (fun _ _ => rfl)) pe_str (nomark _)) pss_never pss_nil)
      (pss_one (ps_ret (pe_ifExp (pt_cmpR op_in_seq (pe_ix ix_tup (pv 3) pe_int (fun _ _ => rfl)) (pe_glob (v := .ref pa) (by rfl) gA rfl) (by rfl)) pe_never pe_bl)))))))), ?_⟩
    obtain ⟨fs, f, c, l0, l1, t, i, rfl, hC, hi, kQ⟩ := h
    have h0 := hC.code.h0
    have h1 := hC.code.h1
    rcases hi with rfl | rfl
    · refine ⟨.ref f, rfl, f, _, 4, .ref c, rfl, rfl, SqT.of hC.hf, atI_nat (j := 4) rfl, .int 0, rfl, c, _, 0, .ref l0, rfl, rfl, SqT.of hC.code.hc, atI_nat (j := 0) rfl, ?_⟩
      refine ⟨.ref l0, rfl, .ref l0, .ty "tuple", .type "tuple", .type "tuple", true, rfl, .ty _, .base (.tup h0), kit_ty (by decide), true, rfl, iteF ?_⟩
      refine ⟨.ref l0, rfl, l0, _, rfl, .inr (SqT.of h0), rfl, false, rfl, iteF ?_⟩
      refine ⟨.ref l0, rfl, l0, _, 0, .str "const", rfl, rfl, SqT.of h0, atI_nat (j := 0) rfl, .str "const", .ty "str", .type "str", .type "str", true, rfl, .ty _, .base (.str _), kit_ty (by decide), true, rfl, iteF ?_⟩
      refine ⟨.ref l0, rfl, l0, _, 0, .str "const", rfl, rfl, SqT.of h0, atI_nat (j := 0) rfl, pp, _, rfl, .inr (hP _), rfl, rfl, false, congrArg V.bl (by decide +kernel), iteF ?_⟩
      have kdc : KDct K w d "const" (.str "v") := ⟨es, n, _, kd.at_, kd.lit, kv, ⟨tk, rfl⟩⟩
      refine ⟨.ref l0, rfl, l0, _, 0, .str "const", rfl, rfl, SqT.of h0, atI_nat (j := 0) rfl, "const", some (.str "v" tk), rfl, rfl, kv, false, rfl, iteF ?_⟩
      refine ⟨.ref l0, rfl, l0, _, rfl, .inr (SqT.of h0), .ref l0, rfl, l0, _, 0, .str "const", rfl, rfl, SqT.of h0, atI_nat (j := 0) rfl, d, "const", .str "v", rfl, rfl, kdc, "v", rfl, by decide +kernel, _, 1, rfl, rfl, rfl, false, congrArg V.bl (by show (!decide (V.int 2 = V.int ((("v" : Str).length : Int) + 1))) = false; decide +kernel), iteF ?_⟩
      refine ⟨.ref l0, rfl, l0, _, 0, .str "const", rfl, rfl, SqT.of h0, atI_nat (j := 0) rfl, d, "const", .str "v", rfl, rfl, kdc, "v", rfl, fun D nD => lc_enumS (fun i G => Same H G ∧ G D = some (.lst ((List.replicate i true).map V.bl))) ⟨same_new nD, upd_same⟩ ?_ ?_⟩
      · rintro i ch N G hch ⟨sm, eD⟩ nN
        have hi0 : i = 0 := by
          have q := (Array.getElem?_eq_some_iff.mp hch).1
          have e1 : ("v" : Str).cps.size = 1 := by decide +kernel
          omega
        subst hi0
        have ev : (⟨#[ch]⟩ : Str) = "v" := by
          have e1 : ("v" : Str).cps[0]? = some 118 := by decide +kernel
          have e2 : ch = 118 := Option.some.inj (hch.symm.trans e1)
          subst e2
          decide +kernel
        have s2 : Same H (upd G N (.tup [.int ((0 : Nat) : Int), .str ⟨#[ch]⟩])) := sm.trans (same_new nN)
        refine ⟨N, _, rfl, SqT.of upd_same, rfl, .int ((0 : Nat) : Int), [.str ⟨#[ch]⟩], rfl, .str ⟨#[ch]⟩, [], rfl, rfl, rfl, ?_⟩
        refine ⟨_, rfl, .ref l0, rfl, .int ((0 : Nat) : Int), rfl, _, 1, rfl, rfl, l0, _, _, .ref t, rfl, rfl, SqT.of (s2 _ _ h0), atI_nat (j := 1) rfl, .ref fs, rfl, .int 0, rfl, .ref f, rfl, t, .ref fs, .int 0, .ref f, ?_, s2 _ _ hC.code.ht, ?_⟩
        · rw [ev]; rfl
        · have nND : D ≠ N := ne_of_none eD nN
          refine ⟨_, Eq.trans (upd_ne nND) eD, by decide, ?_, ?_⟩
          · exact same_put s2 nD
          · rw [upd_same]; rfl
      · rintro G ⟨sm, eD⟩
        refine ⟨D, [true], rfl, SqL.of eD, true, rfl, iteF ?_⟩
        refine ⟨.ref l0, rfl, l0, _, 0, .str "const", rfl, rfl, SqT.of (sm _ _ h0), atI_nat (j := 0) rfl, rfl, false, congrArg V.bl (by decide +kernel), iteF ?_⟩
        refine ⟨.ref l0, rfl, l0, _, 0, .str "const", rfl, rfl, SqT.of (sm _ _ h0), atI_nat (j := 0) rfl, pa, _, rfl, .inr (hA _), rfl, rfl, false, congrArg V.bl (by decide +kernel), iteF ?_⟩
        exact kQ _ sm
    · refine ⟨.ref f, rfl, f, _, 4, .ref c, rfl, rfl, SqT.of hC.hf, atI_nat (j := 4) rfl, .int 1, rfl, c, _, 1, .ref l1, rfl, rfl, SqT.of hC.code.hc, atI_nat (j := 1) rfl, ?_⟩
      refine ⟨.ref l1, rfl, .ref l1, .ty "tuple", .type "tuple", .type "tuple", true, rfl, .ty _, .base (.tup h1), kit_ty (by decide), true, rfl, iteF ?_⟩
      refine ⟨.ref l1, rfl, l1, _, rfl, .inr (SqT.of h1), rfl, false, rfl, iteF ?_⟩
      refine ⟨.ref l1, rfl, l1, _, 0, .str "return", rfl, rfl, SqT.of h1, atI_nat (j := 0) rfl, .str "return", .ty "str", .type "str", .type "str", true, rfl, .ty _, .base (.str _), kit_ty (by decide), true, rfl, iteF ?_⟩
      refine ⟨.ref l1, rfl, l1, _, 0, .str "return", rfl, rfl, SqT.of h1, atI_nat (j := 0) rfl, pp, _, rfl, .inr (hP _), rfl, rfl, true, congrArg V.bl (by decide +kernel), iteT ?_⟩
      exact ⟨.ref l1, rfl, l1, _, rfl, .inr (SqT.of h1), rfl, kQ _ (Same.refl _)⟩
end
end My
namespace My
open PySem PySem.Spec PyProof.Rows L2
/-- a dict comprehension over a list that stays -/
theorem dc_lst {K : PySem.W.Frag} {a : Addr} {xs : List V} {g : TG} {tt : TT} {tk tv : TE} {vs : List Nat} {σ : L2.St} {H1 : Hp} {D : Addr} {Qd : Hp → Prop} (Pv : Nat → Hp → Prop) (h0 : Pv 0 (upd H1 D (.dK []))) (stay : ∀ i G, i ≤ xs.length → Pv i G → SqL K G a xs)
    (step : ∀ i x G, xs[i]? = some x → Pv i G → g x (wipe σ vs) G fun σ2 G2 => wipe σ2 vs = wipe σ vs ∧ tt σ2 G2 fun b G3 =>
      if b = true then tk σ2 G3 fun y G4 => tv σ2 G4 fun z G5 => ∃ kvs k, y = kV k ∧ G5 D = some (.dK kvs) ∧ kvs.length < sizeLine ∧ Pv (i + 1) (upd G5 D (.dK (putK kvs k z))) else Pv (i + 1) G3) (fin : ∀ G, Pv xs.length G → Qd G) :
    ∃ W : Nat → Nat → Hp → Prop, (∃ m, W 0 m (upd H1 D (.dK []))) ∧ ∀ i m G, W i m G →
      ((Itl K a).stop i G ∧ Qd G) ∨ ((Itl K a).go i G ∧ ∃ Nx : Hp → Prop, (∀ G', Nx G' → ∃ m', m' < m ∧ W (i + 1) m' G') ∧ ∀ x G', (Itl K a).yld i G x G' → g x (wipe σ vs) G' fun σ2 G2 => wipe σ2 vs = wipe σ vs ∧ tt σ2 G2 fun b G3 =>
        if b = true then tk σ2 G3 fun y G4 => tv σ2 G4 fun z G5 => ∃ kvs k, y = kV k ∧ G5 D = some (.dK kvs) ∧ kvs.length < sizeLine ∧ Nx (upd G5 D (.dK (putK kvs k z))) else Nx G3) := by
  refine ⟨fun i m G => m = xs.length - i ∧ i ≤ xs.length ∧ Pv i G, ⟨xs.length, by simp, Nat.zero_le _, h0⟩, ?_⟩
  rintro i m G ⟨rfl, hi, p⟩
  have q := stay i G hi p
  by_cases lt : i < xs.length
  · refine .inr ⟨⟨xs, xs[i], q, by simp [lt]⟩, Pv (i + 1), fun G' p' => ⟨xs.length - (i + 1), by omega, rfl, lt, p'⟩, fun x G' y => ?_⟩
    obtain ⟨e, y⟩ := y
    subst e
    exact step i x _ (y xs q) p
  · obtain rfl : i = xs.length := by omega
    exact .inl ⟨⟨xs, q, Nat.le_refl _⟩, fin G p⟩
theorem yes_ok {σ : L2.St} {G : Hp} {Q : Bool → Hp → Prop} (h : Q true G) : tYes σ G Q := h
theorem pt_never {X : Cx} {e : Expr} : PT X e (fun _ _ _ => False) := ⟨fun _ _ _ _ _ _ h => h.elim⟩
/-- what `heights_of` has found, two turns, one turn and none ahead of the end -/
def fnd : Nat → List (Key × V)
  | 2 => [(.inl 0, .int 0)]
  | _ => [(.inl 0, .int 0), (.inl 1, .int 1)]
def lin : Nat → List V
  | 2 => [.int 0]
  | 1 => [.int 1]
  | _ => []
theorem dg20 {G : Hp} {d : Addr} (e : G d = some (.dK (fnd 2))) : DGet G d (.int 0) (some (.int 0)) := DGet.k (k := .inl 0) e
theorem dg21 {G : Hp} {d : Addr} (e : G d = some (.dK (fnd 2))) : DGet G d (.int 1) none := DGet.k (k := .inl 1) e
theorem dg10 {G : Hp} {d : Addr} (e : G d = some (.dK (fnd 1))) : DGet G d (.int 0) (some (.int 0)) := DGet.k (k := .inl 0) e
theorem dg11 {G : Hp} {d : Addr} (e : G d = some (.dK (fnd 1))) : DGet G d (.int 1) (some (.int 1)) := DGet.k (k := .inl 1) e
theorem scHs : FnScope ["code", "found", "line", "place", "there", "height"] ["code"] (defScope sHeightsOf) := ⟨rfl, rfl, rfl, by decide +kernel, rfl, by decide +kernel, by decide +kernel⟩
theorem scHd : FnScope ["code", "found", "line", "place", "head", "many", "there", "here"] ["code"] (defScope sHandlersOf) := ⟨rfl, rfl, rfl, by decide +kernel, rfl, by decide +kernel, by decide +kernel⟩
def spHs : Sp := fun vs H Q _ => ∃ c l0 l1 t : Addr, vs = [.ref c] ∧ CodeAt H c l0 l1 t ∧ ∀ H' p, Same H H' → Q (.ref p) H'
section
variable {P : Program} {w : World} {K : PySem.W.Frag} {mg : Str → Option Value} {base : Heap}
theorem ok_heightsOf {f fT fG fN : Addr} {fd dT dG dN : FuncData} (F : Fun K "heights_of" "heights_of" sHeightsOf f fd) (T : Chk K w mg)
    (GT : FnOk P w K mg base CX0 1 fT dT ["line"] (spTakes K)) (kT : PySem.W.keepIn K (.ref fT) = true) (gT : mg "takes" = some (.ref fT)) (bT : Binds K dT ["line"] [])
    (GG : FnOk P w K mg base CX0 1 fG dG ["line"] (spGives K)) (kG : PySem.W.keepIn K (.ref fG) = true) (gG : mg "gives" = some (.ref fG)) (bG : Binds K dG ["line"] [])
    (GN : FnOk P w K mg base CX0 1 fN dN ["code", "place"] spNexts) (kN : PySem.W.keepIn K (.ref fN) = true) (gN : mg "nexts" = some (.ref fN)) (bN : Binds K dN ["code", "place"] []) :
    FnOk P w K mg base CX0 2 f fd ["code"] spHs := by
  refine F.ok scHs (fun vs H Q E h => ?_) (fun cdv A outer s H vs Q E hr h => ?_)
  · obtain ⟨c, l0, l1, t, rfl, _⟩ := h; rfl
  · refine ⟨_, pss_cons (ps_set (i := 1) scHs.nd rfl (.inr rfl) (pe_disp (pps_cons pe_int pe_int pps_nil) (by rfl) (by rfl) (fun z => by cases z) (by decide)))
      (pss_cons (ps_set (i := 2) scHs.nd rfl (.inl rfl) (pe_lst (pa_cons pe_int pa_nil)))
      (pss_cons (ps_while PassesOwn.never (pt_cmpR op_gt (pe_callB call_len_seq (by rfl) T.len PySem.boot_len (pa_cons (pv 2) pa_nil)) pe_int (nomark _))
        (pss_cons (ps_set (i := 3) scHs.nd rfl (.inl rfl) (pe_bm0 PySem.F.plainAttrs_list PySem.F.slot_list_pop PySem.F.type_list_pop mt_pop (pv 2)))
        (pss_cons (ps_if (PW.pt (pw_or (pt_cmpR op_lt (pe_dget (hu_of hr) (pv 1) (pv 3) (fun _ _ => rfl)) (pe_call GT hr (by rfl) gT kT bT .nil pass0 (pa_cons (pe_ix ix_tup (pv 0) (pv 3) (fun _ _ => rfl)) pa_nil)) (nomark _))
            (pw_or1 (pt_cmpR (op_eqD hr.units) (pe_ix ix_tup (pv 0) (pv 3) (fun _ _ => rfl)) (pe_tup (pa_cons pe_str (pa_cons (pe_op op_add (pv 3) pe_int) pa_nil))) (nomark _))))) pss_never pss_nil)
        (pss_one (ps_for PassesOwn.never rfl (pi_list (pe_call GN hr (by rfl) gN kN bN .nil pass0 (pa_cons (pv 0) (pa_cons (pv 3) pa_nil)))) (pg_name (i := 4) scHs.nd rfl (.inl rfl))
          (pss_cons (ps_set (i := 5) scHs.nd rfl (.inl rfl) (pe_op op_add (pe_op op_sub (pe_dget (hu_of hr) (pv 1) (pv 3) (fun _ _ => rfl)) (pe_call GT hr (by rfl) gT kT bT .nil pass0 (pa_cons (pe_ix ix_tup (pv 0) (pv 3) (fun _ _ => rfl)) pa_nil)))
              (pe_call GG hr (by rfl) gG kG bG .nil pass0 (pa_cons (pe_ix ix_tup (pv 0) (pv 3) (fun _ _ => rfl)) pa_nil))))
          (pss_cons (ps_if (PW.pt (pw_and (pt_cmpR op_eq (pe_ix ix_tup (pe_ix ix_tup (pv 0) (pv 3) (fun _ _ => rfl)) pe_int (fun _ _ => rfl)) pe_str (nomark _)) (pw_and1 pt_never))) pss_never pss_nil)
          (pss_cons (ps_if (PW.pt (pw_or (pt_cmpR op_ge (pv 4) (pe_callB call_len_seq (by rfl) T.len PySem.boot_len (pa_cons (pv 0) pa_nil)) (nomark _)) (pw_or1 (pt_cmpR op_ne (pe_dget2 (hu_of hr) (pv 1) (pv 4) (pv 5) ⟨rfl, rfl, rfl, rfl⟩) (pv 5) (nomark _))))) pss_never pss_nil)
          (pss_one (ps_if (pt_cmp (pc_dnotin (hu_of hr) (pv 4) (pv 1)))
            (pss_cons (ps_dput (hu_of hr) (pv 1) (pv 4) (pv 5) rfl) (pss_one (ps_expr (pe_bm PySem.F.plainAttrs_list PySem.F.slot_list_append PySem.F.type_list_append mt_append (pv 2) (pa_cons (pv 4) pa_nil))))) pss_nil))))))))))
      (pss_one (ps_ret (pe_dc (own := [("place", 3)]) (g := gName 3) (tt := tYes) rfl scHs.nd (pi_list (pe_callB (call_sortedDI rfl) (by rfl) T.sorted (by decide +kernel) (pa_cons (pv 1) pa_nil)))
        (blkOk_by (own := [("place", 3)]) (N := ["code", "found", "line", "place", "there", "height"]) (sc := defScope sHeightsOf) (by decide +kernel)) (fun _ _ _ _ _ => pg_name (i := 3) scHs.nd rfl (Or.inl rfl)) (fun _ _ _ _ _ => pts_nil)
        (fun _ _ _ _ _ => pv 3) (fun _ _ _ _ _ => pe_dget (hu_of hr) (pv 1) (pv 3) (fun _ _ => rfl))))))), ?_⟩
    obtain ⟨c, l0, l1, t, rfl, hC, kQ⟩ := h
    refine fun d nd => ⟨upd_same, [(.inl 0, .int 0)], rfl, by decide, ?_⟩
    refine ⟨by decide, fun ln nln => ?_⟩
    generalize hG1 : upd (upd H d (.dK [])) d (.dK (mergeK [] [(Sum.inl 0, V.int 0)])) = G1 at nln
    have s1 : Same H G1 := by rw [← hG1]; exact same_put (same_new nd) nd
    have ed1 : G1 d = some (.dK (fnd 2)) := by rw [← hG1]; exact upd_same
    have nl : H ln = none := s1.free nln
    have ndl : d ≠ ln := ne_of_none ed1 nln
    clear hG1
    refine ⟨fun m σ G => m ≤ 2 ∧ ∃ y3 y4 y5, σ = [some (.ref c), some (.ref d), some (.ref ln), y3, y4, y5] ∧ Same H G ∧ G d = some (.dK (fnd m)) ∧ G ln = some (.lst (lin m)),
      ⟨2, Nat.le_refl _, none, none, none, rfl, same_put s1 nl, Eq.trans (upd_ne ndl) ed1, upd_same⟩, ?_⟩
    rintro m σ G ⟨hm, y3, y4, y5, rfl, sG, ed, el⟩
    have hm3 : m = 0 ∨ m = 1 ∨ m = 2 := by omega
    rcases hm3 with rfl | rfl | rfl
    · -- the end: the dict, sorted
      refine ⟨.ref ln, rfl, ln, _, rfl, .inl (SqL.of el), _, _, rfl, rfl, false, rfl, iteF ?_⟩
      refine ⟨.ref d, rfl, d, fnd 0, [0, 1], rfl, .inl ed, rfl, by decide, fun ys p perm _ np => ⟨p, rfl, ⟨_, SqL.of upd_same⟩, fun D nD => ?_⟩⟩
      have sp := same_new (o := .lst (ys.map V.int)) np
      refine dc_lst (xs := ys.map V.int) (fun i G' => Same (upd G p (.lst (ys.map V.int))) G' ∧ ∃ kvs, G' D = some (.dK kvs) ∧ kvs.length ≤ i) ⟨same_new nD, [], upd_same, Nat.le_refl _⟩ (fun i G' _ ⟨s, _⟩ => SqL.of (s _ _ upd_same)) ?_ ?_
      · rintro i x G' hx ⟨s, kvs, eD, hk⟩
        have hl : (ys.map V.int).length = 2 := by rw [List.length_map, perm.length_eq]; rfl
        have hi := (List.getElem?_eq_some_iff.mp hx).1
        obtain ⟨y, hy, rfl⟩ : ∃ y, y ∈ ys ∧ x = V.int y := by
          obtain ⟨y, hy, e⟩ := List.mem_map.mp (List.mem_of_getElem? hx)
          exact ⟨y, hy, e.symm⟩
        have hy2 : y = 0 ∨ y = 1 := by simpa using perm.mem_iff.mp hy
        have e0 : G' d = some (.dK (fnd 1)) := s _ _ (sp _ _ ed)
        have dg : DGet G' d (.int y) (some (.int y)) := by
          rcases hy2 with rfl | rfl
          · exact dg10 e0
          · exact dg11 e0
        refine ⟨rfl, yes_ok (iteT ?_)⟩
        refine ⟨_, rfl, .ref d, rfl, .int y, rfl, d, .int y, rfl, dg, kvs, .inl y, rfl, eD, ?_, same_put s nD, _, upd_same, ?_⟩
        · unfold sizeLine; omega
        · have := length_putK kvs (Sum.inl y) (V.int y); omega
      · rintro G' ⟨s, _⟩
        exact kQ _ _ ((sG.trans sp).trans s)
    · refine ⟨.ref ln, rfl, ln, _, rfl, .inl (SqL.of el), _, _, rfl, rfl, true, rfl, iteT ?_⟩
      refine ⟨fun σ G => 0 ≤ 2 ∧ ∃ y3 y4 y5, σ = [some (.ref c), some (.ref d), some (.ref ln), y3, y4, y5] ∧ Same H G ∧ G d = some (.dK (fnd 0)) ∧ G ln = some (.lst (lin 0)), fun σ' G' q => ⟨0, by decide, q⟩, ?_⟩
      refine ⟨.ref ln, rfl, .inl ⟨rfl, _, SqL.of el⟩, ln, _, .int 1, rfl, rfl, el, rfl, ?_⟩
      generalize hG1 : upd G ln (.lst (lin 1).dropLast) = G2
      have s2 : Same H G2 := by rw [← hG1]; exact same_put sG nl
      have ed2 : G2 d = some (.dK (fnd 1)) := by rw [← hG1, upd_ne ndl]; exact ed
      have el2 : G2 ln = some (.lst []) := by rw [← hG1]; exact upd_same
      clear hG1
      have hC2 := hC.same s2
      refine ⟨.ref d, rfl, .int 1, rfl, d, .int 1, rfl, dg11 ed2, .ref c, rfl, .int 1, rfl, c, _, 1, .ref l1, rfl, rfl, SqT.of hC2.hc, atI_nat (j := 1) rfl, l1, "return", _, 1, rfl, SqT.of hC2.h1, .inr ⟨rfl, rfl⟩, fun G3 s3 => ?_⟩
      have hC3 := hC2.same s3
      refine ⟨1, 1, rfl, rfl, false, rfl, iteF ?_⟩
      refine ⟨.ref c, rfl, .int 1, rfl, c, _, 1, .ref l1, rfl, rfl, SqT.of hC3.hc, atI_nat (j := 1) rfl, .int 1, rfl, 1, 1, rfl, rfl, by decide, fun tp ntp => ?_⟩
      have s4 := s3.trans (same_new (o := .tup [.str "try", .int (1 + 1)]) ntp)
      have hC4 := hC2.same s4
      refine ⟨_, _, .tup (SqT.of hC4.h1) (.cons (.str _) .nil), .tup (SqT.of upd_same) (.cons (.str _) (.cons (.int _) .nil)), by decide +kernel, by decide +kernel, false, congrArg V.bl (by decide +kernel), iteF ?_⟩
      refine ⟨.ref c, rfl, .int 1, rfl, c, l0, l1, t, 1, [], rfl, hC4, .inr ⟨rfl, rfl⟩, fun G5 q s5 nq eq => ⟨q, rfl, ⟨_, SqL.of eq⟩, for_list (K := K) (a := q) (xs := [])
        (fun i σ G => ∃ y4 y5, σ = [some (.ref c), some (.ref d), some (.ref ln), some (.int 1), y4, y5] ∧ Same H G ∧ G d = some (.dK (fnd 0)) ∧ G ln = some (.lst []) ∧ G q = some (.lst [])) ⟨y4, y5, rfl, (s2.trans s4).trans s5, s5 _ _ (s4 _ _ ed2), s5 _ _ (s4 _ _ el2), eq⟩ (fun i σ G _ ⟨_, _, _, _, _, _, e⟩ => SqL.of e) ?_ ?_⟩⟩
      · intro i x σ G hx
        simp at hx
      · rintro σ G ⟨y4, y5, rfl, sG, ed, el, eq⟩
        exact ⟨by decide, _, _, _, rfl, sG, ed, el⟩
    · refine ⟨.ref ln, rfl, ln, _, rfl, .inl (SqL.of el), _, _, rfl, rfl, true, rfl, iteT ?_⟩
      refine ⟨fun σ G => 1 ≤ 2 ∧ ∃ y3 y4 y5, σ = [some (.ref c), some (.ref d), some (.ref ln), y3, y4, y5] ∧ Same H G ∧ G d = some (.dK (fnd 1)) ∧ G ln = some (.lst (lin 1)), fun σ' G' q => ⟨1, by decide, q⟩, ?_⟩
      -- place = line.pop()
      refine ⟨.ref ln, rfl, .inl ⟨rfl, _, SqL.of el⟩, ln, _, .int 0, rfl, rfl, el, rfl, ?_⟩
      generalize hG1 : upd G ln (.lst (lin 2).dropLast) = G2
      have s2 : Same H G2 := by rw [← hG1]; exact same_put sG nl
      have ed2 : G2 d = some (.dK (fnd 2)) := by rw [← hG1, upd_ne ndl]; exact ed
      have el2 : G2 ln = some (.lst []) := by rw [← hG1]; exact upd_same
      clear hG1
      have hC2 := hC.same s2
      refine ⟨.ref d, rfl, .int 0, rfl, d, .int 0, rfl, dg20 ed2, .ref c, rfl, .int 0, rfl, c, _, 0, .ref l0, rfl, rfl, SqT.of hC2.hc, atI_nat (j := 0) rfl, l0, "const", _, 0, rfl, SqT.of hC2.h0, .inl ⟨rfl, rfl⟩, fun G3 s3 => ?_⟩
      have hC3 := hC2.same s3
      refine ⟨0, 0, rfl, rfl, false, rfl, iteF ?_⟩
      refine ⟨.ref c, rfl, .int 0, rfl, c, _, 0, .ref l0, rfl, rfl, SqT.of hC3.hc, atI_nat (j := 0) rfl, .int 0, rfl, 0, 1, rfl, rfl, by decide, fun tp ntp => ?_⟩
      have s4 := s3.trans (same_new (o := .tup [.str "try", .int (0 + 1)]) ntp)
      have hC4 := hC2.same s4
      refine ⟨_, _, .tup (SqT.of hC4.h0) (.cons (.str _) (.cons (.tup (SqT.of hC4.ht) (.cons (.str _) .nil)) .nil)), .tup (SqT.of upd_same) (.cons (.str _) (.cons (.int _) .nil)), by decide +kernel, by decide +kernel, false, congrArg V.bl (by decide +kernel), iteF ?_⟩
      -- for there in nexts(code, place)
      refine ⟨.ref c, rfl, .int 0, rfl, c, l0, l1, t, 0, [1], rfl, hC4, .inl ⟨rfl, rfl⟩, fun G5 q s5 nq eq => ⟨q, rfl, ⟨_, SqL.of eq⟩, for_list (K := K) (a := q) (xs := [V.int 1])
        (fun i σ G => ∃ y4 y5, σ = [some (.ref c), some (.ref d), some (.ref ln), some (.int 0), y4, y5] ∧ Same H G ∧ G d = some (.dK (fnd (2 - i))) ∧ G ln = some (.lst (if i = 0 then [] else [.int 1])) ∧ G q = some (.lst [.int 1])) ⟨y4, y5, rfl, (s2.trans s4).trans s5, s5 _ _ (s4 _ _ ed2), s5 _ _ (s4 _ _ el2), eq⟩ (fun i σ G _ ⟨_, _, _, _, _, _, e⟩ => SqL.of e) ?_ ?_⟩⟩
      · rintro i x σ G hx ⟨y4, y5, rfl, sG, ed, el, eq⟩
        have hi0 : i = 0 := by
          have q := (List.getElem?_eq_some_iff.mp hx).1
          simp at q
          omega
        subst hi0
        have hx : V.int 1 = x := Option.some.inj hx
        subst hx
        have ed : G d = some (.dK (fnd 2)) := ed
        have hCg := hC.same sG
        -- height
        refine ⟨.ref d, rfl, .int 0, rfl, d, .int 0, rfl, dg20 ed, .ref c, rfl, .int 0, rfl, c, _, 0, .ref l0, rfl, rfl, SqT.of hCg.hc, atI_nat (j := 0) rfl, l0, "const", _, 0, rfl, SqT.of hCg.h0, .inl ⟨rfl, rfl⟩, fun G6 s6 => ⟨0, 0, rfl, rfl, ?_⟩⟩
        have hC6 := hCg.same s6
        refine ⟨.ref c, rfl, .int 0, rfl, c, _, 0, .ref l0, rfl, rfl, SqT.of hC6.hc, atI_nat (j := 0) rfl, l0, "const", _, 1, rfl, SqT.of hC6.h0, .inl ⟨rfl, rfl⟩, fun G7 s7 => ⟨_, 1, rfl, rfl, ?_⟩⟩
        have hC7 := hC6.same s7
        have s67 := s6.trans s7
        have ed7 : G7 d = some (.dK (fnd 2)) := s67 _ _ ed
        have el7 : G7 ln = some (.lst []) := s67 _ _ el
        have eq7 : G7 q = some (.lst [.int 1]) := s67 _ _ eq
        refine ⟨.ref c, rfl, .int 0, rfl, c, _, 0, .ref l0, rfl, rfl, SqT.of hC7.hc, atI_nat (j := 0) rfl, l0, _, 0, .str "const", rfl, rfl, SqT.of hC7.h0, atI_nat (j := 0) rfl, rfl, false, congrArg V.bl (by decide +kernel), iteF ?_⟩
        refine ⟨.int 1, rfl, .ref c, rfl, c, _, rfl, .inr (SqT.of hC7.hc), _, _, rfl, rfl, false, rfl, iteF ?_⟩
        refine ⟨.ref d, rfl, d, rfl, .inl ⟨_, .inl ed7⟩, .int 1, rfl, _, rfl, none, dg21 ed7, _, rfl, rfl, false, rfl, iteF ?_⟩
        refine ⟨.int 1, rfl, .ref d, rfl, d, none, rfl, dg21 ed7, true, rfl, iteT ?_⟩
        -- found[there] = height; line.append(there)
        refine ⟨_, rfl, .ref d, rfl, .int 1, rfl, d, _, rfl, DPut.k (k := .inl 1) ed7 (by decide), ?_⟩
        refine ⟨.ref ln, rfl, .inl ⟨rfl, _, SqL.of (Eq.trans (upd_ne (Ne.symm ndl)) el7)⟩, .int 1, rfl, ln, _, _, rfl, rfl, Eq.trans (upd_ne (Ne.symm ndl)) el7, by decide, ?_⟩
        have nqd : q ≠ d := ne_of eq7 ed7 (by intro z; cases z)
        have nql : q ≠ ln := ne_of eq7 el7 (by intro z; cases z)
        refine ⟨_, _, rfl, same_put (same_put (sG.trans s67) nd) nl, ?_, ?_, ?_⟩
        · rw [upd_ne ndl, upd_same]; rfl
        · rw [upd_same]; rfl
        · rw [upd_ne nql, upd_ne nqd]; exact eq7
      · rintro σ G ⟨y4, y5, rfl, sG, ed, el, eq⟩
        exact ⟨by decide, _, _, _, rfl, sG, ed, el⟩
end
end My
namespace My
open PySem PySem.Spec PyProof.Rows L2
/-- what `handlers_of` has found, two turns, one turn and none ahead of the end -/
def fnh : Nat → List (Key × V)
  | 2 => [(.inl 0, .int 0)]
  | _ => [(.inl 0, .int 0), (.inl 1, .int 0)]
theorem dh20 {G : Hp} {d : Addr} (e : G d = some (.dK (fnh 2))) : DGet G d (.int 0) (some (.int 0)) := DGet.k (k := .inl 0) e
theorem dh21 {G : Hp} {d : Addr} (e : G d = some (.dK (fnh 2))) : DGet G d (.int 1) none := DGet.k (k := .inl 1) e
theorem dh10 {G : Hp} {d : Addr} (e : G d = some (.dK (fnh 1))) : DGet G d (.int 0) (some (.int 0)) := DGet.k (k := .inl 0) e
theorem dh11 {G : Hp} {d : Addr} (e : G d = some (.dK (fnh 1))) : DGet G d (.int 1) (some (.int 0)) := DGet.k (k := .inl 1) e
/-- the written dict of the heads -/
def heads : List (Key × V) := [(.inr "try", .int 1), (.inr "end", .int (-1))]
theorem heads_c : valV (mergeK [] heads) (.inr "const") = none := by decide +kernel
theorem heads_r : valV (mergeK [] heads) (.inr "return") = none := by decide +kernel
section
variable {P : Program} {w : World} {K : PySem.W.Frag} {mg : Str → Option Value} {base : Heap}
theorem ok_handlersOf {f fN : Addr} {fd dN : FuncData} (F : Fun K "handlers_of" "handlers_of" sHandlersOf f fd) (T : Chk K w mg)
    (GN : FnOk P w K mg base CX0 1 fN dN ["code", "place"] spNexts) (kN : PySem.W.keepIn K (.ref fN) = true) (gN : mg "nexts" = some (.ref fN)) (bN : Binds K dN ["code", "place"] []) :
    FnOk P w K mg base CX0 2 f fd ["code"] spHs := by
  refine F.ok scHd (fun vs H Q E h => ?_) (fun cdv A outer s H vs Q E hr h => ?_)
  · obtain ⟨c, l0, l1, t, rfl, _⟩ := h; rfl
  · refine ⟨_, pss_cons (ps_set (i := 1) scHd.nd rfl (.inr rfl) (pe_disp (pps_cons pe_int pe_int pps_nil) (by rfl) (by rfl) (fun z => by cases z) (by decide)))
      (pss_cons (ps_set (i := 2) scHd.nd rfl (.inl rfl) (pe_lst (pa_cons pe_int pa_nil)))
      (pss_cons (ps_while PassesOwn.never (pt_cmpR op_gt (pe_callB call_len_seq (by rfl) T.len PySem.boot_len (pa_cons (pv 2) pa_nil)) pe_int (nomark _))
        (pss_cons (ps_set (i := 3) scHd.nd rfl (.inl rfl) (pe_bm0 PySem.F.plainAttrs_list PySem.F.slot_list_pop PySem.F.type_list_pop mt_pop (pv 2)))
        (pss_cons (ps_set (i := 4) scHd.nd rfl (.inl rfl) (pe_ix ix_tup (pe_ix ix_tup (pv 0) (pv 3) (fun _ _ => rfl)) pe_int (fun _ _ => rfl)))
        (pss_cons (ps_set (i := 5) scHd.nd rfl (.inl rfl) (pe_op op_add (pe_dget (hu_of hr) (pv 1) (pv 3) (fun _ _ => rfl))
            (pe_dget2 (hu_of hr) (pe_disp (pps_cons pe_str pe_int (pps_cons pe_str (pe_un un_neg pe_int) pps_nil)) (by rfl) (by rfl) (fun z => by cases z) (by decide)) (pv 4) pe_int ⟨rfl, rfl, rfl, rfl⟩)))
        (pss_cons (ps_if (pt_cmpR op_lt (pv 5) pe_int (nomark _)) pss_never pss_nil)
        (pss_one (ps_for PassesOwn.never rfl (pi_list (pe_call GN hr (by rfl) gN kN bN .nil pass0 (pa_cons (pv 0) (pa_cons (pv 3) pa_nil)))) (pg_name (i := 6) scHd.nd rfl (.inl rfl))
          (pss_cons (ps_set (i := 7) scHd.nd rfl (.inl rfl) (pe_ifExp (PW.pt (pw_and (pt_cmpR op_eq (pv 4) pe_str (nomark _)) (pw_and1 pt_never))) pe_never (pv 5)))
          (pss_cons (ps_if (pt_cmpR op_ne (pe_dget2 (hu_of hr) (pv 1) (pv 6) (pv 7) ⟨rfl, rfl, rfl, rfl⟩) (pv 7) (nomark _)) pss_never pss_nil)
          (pss_one (ps_if (pt_cmp (pc_dnotin (hu_of hr) (pv 6) (pv 1)))
            (pss_cons (ps_dput (hu_of hr) (pv 1) (pv 6) (pv 7) rfl) (pss_one (ps_expr (pe_bm PySem.F.plainAttrs_list PySem.F.slot_list_append PySem.F.type_list_append mt_append (pv 2) (pa_cons (pv 6) pa_nil))))) pss_nil)))))))))))
      (pss_one (ps_ret (pe_dc (own := [("place", 3)]) (g := gName 3) (tt := tYes) rfl scHd.nd (pi_list (pe_callB (call_sortedDI rfl) (by rfl) T.sorted (by decide +kernel) (pa_cons (pv 1) pa_nil)))
        (blkOk_by (own := [("place", 3)]) (N := ["code", "found", "line", "place", "head", "many", "there", "here"]) (sc := defScope sHandlersOf) (by decide +kernel)) (fun _ _ _ _ _ => pg_name (i := 3) scHd.nd rfl (Or.inl rfl)) (fun _ _ _ _ _ => pts_nil)
        (fun _ _ _ _ _ => pv 3) (fun _ _ _ _ _ => pe_dget (hu_of hr) (pv 1) (pv 3) (fun _ _ => rfl))))))), ?_⟩
    obtain ⟨c, l0, l1, t, rfl, hC, kQ⟩ := h
    refine fun d nd => ⟨upd_same, [(.inl 0, .int 0)], rfl, by decide, ?_⟩
    refine ⟨by decide, fun ln nln => ?_⟩
    generalize hG1 : upd (upd H d (.dK [])) d (.dK (mergeK [] [(Sum.inl 0, V.int 0)])) = G1 at nln
    have s1 : Same H G1 := by rw [← hG1]; exact same_put (same_new nd) nd
    have ed1 : G1 d = some (.dK (fnh 2)) := by rw [← hG1]; exact upd_same
    have nl : H ln = none := s1.free nln
    have ndl : d ≠ ln := ne_of_none ed1 nln
    clear hG1
    refine ⟨fun m σ G => m ≤ 2 ∧ ∃ y3 y4 y5 y6 y7, σ = [some (.ref c), some (.ref d), some (.ref ln), y3, y4, y5, y6, y7] ∧ Same H G ∧ G d = some (.dK (fnh m)) ∧ G ln = some (.lst (lin m)),
      ⟨2, Nat.le_refl _, none, none, none, none, none, rfl, same_put s1 nl, Eq.trans (upd_ne ndl) ed1, upd_same⟩, ?_⟩
    rintro m σ G ⟨hm, y3, y4, y5, y6, y7, rfl, sG, ed, el⟩
    have hm3 : m = 0 ∨ m = 1 ∨ m = 2 := by omega
    rcases hm3 with rfl | rfl | rfl
    · -- the end: the dict, sorted
      refine ⟨.ref ln, rfl, ln, _, rfl, .inl (SqL.of el), _, _, rfl, rfl, false, rfl, iteF ?_⟩
      refine ⟨.ref d, rfl, d, fnh 0, [0, 1], rfl, .inl ed, rfl, by decide, fun ys p perm _ np => ⟨p, rfl, ⟨_, SqL.of upd_same⟩, fun D nD => ?_⟩⟩
      have sp := same_new (o := .lst (ys.map V.int)) np
      refine dc_lst (xs := ys.map V.int) (fun i G' => Same (upd G p (.lst (ys.map V.int))) G' ∧ ∃ kvs, G' D = some (.dK kvs) ∧ kvs.length ≤ i) ⟨same_new nD, [], upd_same, Nat.le_refl _⟩ (fun i G' _ ⟨s, _⟩ => SqL.of (s _ _ upd_same)) ?_ ?_
      · rintro i x G' hx ⟨s, kvs, eD, hk⟩
        have hl : (ys.map V.int).length = 2 := by rw [List.length_map, perm.length_eq]; rfl
        have hi := (List.getElem?_eq_some_iff.mp hx).1
        obtain ⟨y, hy, rfl⟩ : ∃ y, y ∈ ys ∧ x = V.int y := by
          obtain ⟨y, hy, e⟩ := List.mem_map.mp (List.mem_of_getElem? hx)
          exact ⟨y, hy, e.symm⟩
        have hy2 : y = 0 ∨ y = 1 := by simpa using perm.mem_iff.mp hy
        have e0 : G' d = some (.dK (fnh 1)) := s _ _ (sp _ _ ed)
        have dg : DGet G' d (.int y) (some (.int 0)) := by
          rcases hy2 with rfl | rfl
          · exact dh10 e0
          · exact dh11 e0
        refine ⟨rfl, yes_ok (iteT ?_)⟩
        refine ⟨_, rfl, .ref d, rfl, .int y, rfl, d, .int 0, rfl, dg, kvs, .inl y, rfl, eD, ?_, same_put s nD, _, upd_same, ?_⟩
        · unfold sizeLine; omega
        · have := length_putK kvs (Sum.inl y) (V.int 0); omega
      · rintro G' ⟨s, _⟩
        exact kQ _ _ ((sG.trans sp).trans s)
    · refine ⟨.ref ln, rfl, ln, _, rfl, .inl (SqL.of el), _, _, rfl, rfl, true, rfl, iteT ?_⟩
      refine ⟨fun σ G => 0 ≤ 2 ∧ ∃ y3 y4 y5 y6 y7, σ = [some (.ref c), some (.ref d), some (.ref ln), y3, y4, y5, y6, y7] ∧ Same H G ∧ G d = some (.dK (fnh 0)) ∧ G ln = some (.lst (lin 0)), fun σ' G' q => ⟨0, by decide, q⟩, ?_⟩
      refine ⟨.ref ln, rfl, .inl ⟨rfl, _, SqL.of el⟩, ln, _, .int 1, rfl, rfl, el, rfl, ?_⟩
      generalize hG1 : upd G ln (.lst (lin 1).dropLast) = G2
      have s2 : Same H G2 := by rw [← hG1]; exact same_put sG nl
      have ed2 : G2 d = some (.dK (fnh 1)) := by rw [← hG1, upd_ne ndl]; exact ed
      have el2 : G2 ln = some (.lst []) := by rw [← hG1]; exact upd_same
      clear hG1
      have hC2 := hC.same s2
      refine ⟨.ref c, rfl, .int 1, rfl, c, _, 1, .ref l1, rfl, rfl, SqT.of hC2.hc, atI_nat (j := 1) rfl, l1, _, 0, .str "return", rfl, rfl, SqT.of hC2.h1, atI_nat (j := 0) rfl, ?_⟩
      refine ⟨.ref d, rfl, .int 1, rfl, d, .int 0, rfl, dh11 ed2, fun dd ndd => ⟨1, rfl, upd_same, heads, rfl, by decide, dd, rfl, .inl ⟨_, .inl upd_same⟩, .str "return", rfl, none, heads_r ▸ DGet.k (k := .inr "return") upd_same, 0, 0, rfl, rfl, ?_⟩⟩
      have s3 : Same G2 (upd (upd G2 dd (.dK [])) dd (.dK (mergeK [] heads))) := same_put (same_new ndd) ndd
      generalize upd (upd G2 dd (.dK [])) dd (.dK (mergeK [] heads)) = G3 at s3
      refine ⟨_, rfl, _, _, rfl, rfl, false, rfl, iteF ?_⟩
      refine ⟨.ref c, rfl, .int 1, rfl, c, l0, l1, t, 1, [], rfl, hC2.same s3, .inr ⟨rfl, rfl⟩, fun G5 q s5 nq eq => ⟨q, rfl, ⟨_, SqL.of eq⟩, for_list (K := K) (a := q) (xs := [])
        (fun i σ G => ∃ y6 y7, σ = [some (.ref c), some (.ref d), some (.ref ln), some (.int 1), some (.str "return"), some (.int (0 + 0)), y6, y7] ∧ Same H G ∧ G d = some (.dK (fnh 0)) ∧ G ln = some (.lst []) ∧ G q = some (.lst [])) ⟨y6, y7, rfl, (s2.trans s3).trans s5, s5 _ _ (s3 _ _ ed2), s5 _ _ (s3 _ _ el2), eq⟩ (fun i σ G _ ⟨_, _, _, _, _, _, e⟩ => SqL.of e) ?_ ?_⟩⟩
      · intro i x σ G hx
        simp at hx
      · rintro σ G ⟨y6, y7, rfl, sG, ed, el, eq⟩
        exact ⟨by decide, _, _, _, _, _, rfl, sG, ed, el⟩
    · refine ⟨.ref ln, rfl, ln, _, rfl, .inl (SqL.of el), _, _, rfl, rfl, true, rfl, iteT ?_⟩
      refine ⟨fun σ G => 1 ≤ 2 ∧ ∃ y3 y4 y5 y6 y7, σ = [some (.ref c), some (.ref d), some (.ref ln), y3, y4, y5, y6, y7] ∧ Same H G ∧ G d = some (.dK (fnh 1)) ∧ G ln = some (.lst (lin 1)), fun σ' G' q => ⟨1, by decide, q⟩, ?_⟩
      refine ⟨.ref ln, rfl, .inl ⟨rfl, _, SqL.of el⟩, ln, _, .int 0, rfl, rfl, el, rfl, ?_⟩
      generalize hG1 : upd G ln (.lst (lin 2).dropLast) = G2
      have s2 : Same H G2 := by rw [← hG1]; exact same_put sG nl
      have ed2 : G2 d = some (.dK (fnh 2)) := by rw [← hG1, upd_ne ndl]; exact ed
      have el2 : G2 ln = some (.lst []) := by rw [← hG1]; exact upd_same
      clear hG1
      have hC2 := hC.same s2
      refine ⟨.ref c, rfl, .int 0, rfl, c, _, 0, .ref l0, rfl, rfl, SqT.of hC2.hc, atI_nat (j := 0) rfl, l0, _, 0, .str "const", rfl, rfl, SqT.of hC2.h0, atI_nat (j := 0) rfl, ?_⟩
      refine ⟨.ref d, rfl, .int 0, rfl, d, .int 0, rfl, dh20 ed2, fun dd ndd => ⟨1, rfl, upd_same, heads, rfl, by decide, dd, rfl, .inl ⟨_, .inl upd_same⟩, .str "const", rfl, none, heads_c ▸ DGet.k (k := .inr "const") upd_same, 0, 0, rfl, rfl, ?_⟩⟩
      have s3 : Same G2 (upd (upd G2 dd (.dK [])) dd (.dK (mergeK [] heads))) := same_put (same_new ndd) ndd
      generalize upd (upd G2 dd (.dK [])) dd (.dK (mergeK [] heads)) = G3 at s3
      refine ⟨_, rfl, _, _, rfl, rfl, false, rfl, iteF ?_⟩
      refine ⟨.ref c, rfl, .int 0, rfl, c, l0, l1, t, 0, [1], rfl, hC2.same s3, .inl ⟨rfl, rfl⟩, fun G5 q s5 nq eq => ⟨q, rfl, ⟨_, SqL.of eq⟩, for_list (K := K) (a := q) (xs := [V.int 1])
        (fun i σ G => ∃ y6 y7, σ = [some (.ref c), some (.ref d), some (.ref ln), some (.int 0), some (.str "const"), some (.int (0 + 0)), y6, y7] ∧ Same H G ∧ G d = some (.dK (fnh (2 - i))) ∧ G ln = some (.lst (if i = 0 then [] else [.int 1])) ∧ G q = some (.lst [.int 1])) ⟨y6, y7, rfl, (s2.trans s3).trans s5, s5 _ _ (s3 _ _ ed2), s5 _ _ (s3 _ _ el2), eq⟩ (fun i σ G _ ⟨_, _, _, _, _, _, e⟩ => SqL.of e) ?_ ?_⟩⟩
      · rintro i x σ G hx ⟨y6, y7, rfl, sG, ed, el, eq⟩
        have hi0 : i = 0 := by
          have q := (List.getElem?_eq_some_iff.mp hx).1
          simp at q
          omega
        subst hi0
        have hx : V.int 1 = x := Option.some.inj hx
        subst hx
        have ed : G d = some (.dK (fnh 2)) := ed
        have el : G ln = some (.lst []) := el
        refine ⟨_, rfl, rfl, false, congrArg V.bl (by decide +kernel), iteF ?_⟩
        refine ⟨_, rfl, ?_⟩
        refine ⟨.ref d, rfl, d, rfl, .inl ⟨_, .inl ed⟩, .int 1, rfl, _, rfl, none, dh21 ed, _, rfl, rfl, false, rfl, iteF ?_⟩
        refine ⟨.int 1, rfl, .ref d, rfl, d, none, rfl, dh21 ed, true, rfl, iteT ?_⟩
        refine ⟨_, rfl, .ref d, rfl, .int 1, rfl, d, _, rfl, DPut.k (k := .inl 1) ed (by decide), ?_⟩
        refine ⟨.ref ln, rfl, .inl ⟨rfl, _, SqL.of (Eq.trans (upd_ne (Ne.symm ndl)) el)⟩, .int 1, rfl, ln, _, _, rfl, rfl, Eq.trans (upd_ne (Ne.symm ndl)) el, by decide, ?_⟩
        have nqd : q ≠ d := ne_of eq ed (by intro z; cases z)
        have nql : q ≠ ln := ne_of eq el (by intro z; cases z)
        refine ⟨_, _, rfl, same_put (same_put sG nd) nl, ?_, ?_, ?_⟩
        · rw [upd_ne ndl, upd_same]; rfl
        · rw [upd_same]; rfl
        · rw [upd_ne nql, upd_ne nqd]; exact eq
      · rintro σ G ⟨y6, y7, rfl, sG, ed, el, eq⟩
        exact ⟨by decide, _, _, _, _, _, rfl, sG, ed, el⟩
end
end My
namespace My
open PySem PySem.Spec PyProof.Rows L2
abbrev sIsFunction : Stmt := topS 35
abbrev sIsSound : Stmt := topS 36
abbrev sCheckCode : Stmt := topS 37
abbrev sHeights : Stmt := topS 38
abbrev sRaised : Stmt := topS 44
theorem scFn : FnScope ["functions", "function", "one", "k"] ["functions", "function"] (defScope sIsFunction) := ⟨rfl, rfl, rfl, by decide +kernel, rfl, by decide +kernel, by decide +kernel⟩
theorem scSd : FnScope ["functions", "shapes", "mains", "one"] ["functions"] (defScope sIsSound) := ⟨rfl, rfl, rfl, by decide +kernel, rfl, by decide +kernel, by decide +kernel⟩
theorem scCk : FnScope ["functions"] ["functions"] (defScope sCheckCode) := ⟨rfl, rfl, rfl, by decide +kernel, rfl, by decide +kernel, by decide +kernel⟩
theorem scHt : FnScope ["functions", "number"] ["functions", "number"] (defScope sHeights) := ⟨rfl, rfl, rfl, by decide +kernel, rfl, by decide +kernel, by decide +kernel⟩
theorem scRs : FnScope ["many", "e"] ["many"] (defScope sRaised) := ⟨rfl, rfl, rfl, by decide +kernel, rfl, by decide +kernel, by decide +kernel⟩
def spFn : Sp := fun vs H Q _ => ∃ fs f c l0 l1 t : Addr, vs = [.ref fs, .ref f] ∧ PrAt H fs f c l0 l1 t ∧ ∀ H', Same H H' → Q (.bl true) H'
def spSd : Sp := fun vs H Q _ => ∃ fs f c l0 l1 t : Addr, vs = [.ref fs] ∧ PrAt H fs f c l0 l1 t ∧ ∀ H', Same H H' → Q (.bl true) H'
def spCk : Sp := fun vs H Q _ => ∃ fs f c l0 l1 t : Addr, vs = [.ref fs] ∧ PrAt H fs f c l0 l1 t ∧ ∀ H', Same H H' → Q .non H'
def spHt (C0 : Addr) : Sp := fun vs H _ E => ∃ (fs f c l0 l1 t : Addr) (m : Int), vs = [.ref fs, .int m] ∧ PrAt H fs f c l0 l1 t ∧ (m < 0 ∨ 1 ≤ m) ∧
  ∀ H' d, Same H H' → H' d = none → E (.ref C0) (some d) (upd H' d (.xd [(("at" : Str), .int m)]))
/-- behind i items a list of i times True, what stood before stands -/
def Tr (H : Hp) (D : Addr) (i : Nat) (G : Hp) : Prop := Same H G ∧ G D = some (.lst ((List.replicate i true).map V.bl))
theorem Tr.start {H : Hp} {D : Addr} (n : H D = none) : Tr H D 0 (upd H D (.lst [])) := ⟨same_new n, upd_same⟩
theorem Tr.next {H : Hp} {D : Addr} {i : Nat} {G G' : Hp} (n : H D = none) (hi : i < 1000) (h : Tr H D i G) (s : Same G G') : ∃ acc, G' D = some (.lst acc) ∧ acc.length < sizeLine ∧ Tr H D (i + 1) (upd G' D (.lst (acc ++ [V.bl true]))) := by
  refine ⟨_, s _ _ h.2, ?_, same_put (h.1.trans s) n, ?_⟩
  · rw [List.length_map, List.length_replicate, sizeLine_eq]; omega
  · rw [upd_same, List.replicate_succ', List.map_append]; rfl
section
variable {P : Program} {w : World} {K : PySem.W.Frag} {mg : Str → Option Value} {base : Heap}
theorem ok_isFunction {f fC fL fH fD : Addr} {fd dC dL dH dD : FuncData} (F : Fun K "is_function" "is_function" sIsFunction f fd) (T : Chk K w mg)
    (GC : FnOk P w K mg base CX0 1 fC dC ["told", "most"] spIsCount) (kC : PySem.W.keepIn K (.ref fC) = true) (gC : mg "is_count" = some (.ref fC)) (bC : Binds K dC ["told", "most"] [])
    (GL : FnOk P w K mg base CX0 3 fL dL ["functions", "function", "k"] spIsLine) (kL : PySem.W.keepIn K (.ref fL) = true) (gL : mg "is_line" = some (.ref fL)) (bL : Binds K dL ["functions", "function", "k"] [])
    (GH : FnOk P w K mg base CX0 2 fH dH ["code"] spHs) (kH : PySem.W.keepIn K (.ref fH) = true) (gH : mg "heights_of" = some (.ref fH)) (bH : Binds K dH ["code"] [])
    (GD : FnOk P w K mg base CX0 2 fD dD ["code"] spHs) (kD : PySem.W.keepIn K (.ref fD) = true) (gD : mg "handlers_of" = some (.ref fD)) (bD : Binds K dD ["code"] []) :
    FnOk P w K mg base CX0 4 f fd ["functions", "function"] spFn := by
  obtain ⟨tm, gM⟩ := T.most
  refine F.ok scFn (fun vs H Q E h => ?_) (fun cdv A outer s H vs Q E hr h => ?_)
  · obtain ⟨fs, f, c, l0, l1, t, rfl, _⟩ := h; rfl
  · have hr1 : Room 1 _ := hr.mono (by decide)
    have hr2 : Room 2 _ := hr.mono (by decide)
    refine ⟨_, pss_cons (ps_if (PW.pt (pw_or (pt_not (pt_val (pe_callB call_isi (by rfl) T.isi (by decide +kernel) (pa_cons (pv 1) (pa_cons (pe_bltn (v := .ty "tuple") (by rfl) T.tup (by decide +kernel) rfl) pa_nil)))))
          (pw_or (pt_cmpR op_ne (pe_callB call_len_seq (by rfl) T.len PySem.boot_len (pa_cons (pv 1) pa_nil)) pe_int (nomark _))
          (pw_or1 (pt_not (pt_val (pe_callB call_isi (by rfl) T.isi (by decide +kernel) (pa_cons (pe_ix ix_tup (pv 1) pe_int (fun _ _ => rfl)) (pa_cons (pe_bltn (v := .ty "tuple") (by rfl) T.tup (by decide +kernel) rfl) pa_nil))))))))) pss_never pss_nil)
      (pss_cons (ps_if (PW.pt (pw_or (pt_not (pt_val (pe_callB (cr_all rfl) (by rfl) T.all (by decide +kernel) (pa_cons
            (pe_lc (own := [("one", 2)]) (g := gName 2) (tt := tYes) rfl scFn.nd (pi_tup (pe_slice sl_tup (pv 1) (po_some pe_int) (po_some pe_int)))
              (blkOk_by (own := [("one", 2)]) (N := ["functions", "function", "one", "k"]) (sc := defScope sIsFunction) (by decide +kernel)) (fun _ _ _ _ _ => pg_name (i := 2) scFn.nd rfl (Or.inl rfl)) (fun _ _ _ _ _ => pts_nil)
              (fun _ _ _ _ _ => pe_call GC hr1 (by rfl) gC kC bC .nil pass0 (pa_cons (pv 2) (pa_cons pe_int pa_nil)))) pa_nil))))
          (pw_or1 (pt_cmpR op_gt (pe_ix ix_tup (pv 1) pe_int (fun _ _ => rfl)) (pe_ix ix_tup (pv 1) pe_int (fun _ _ => rfl)) (nomark _))))) pss_never pss_nil)
      (pss_cons (ps_if (pt_not (pt_chain op_le op_le pe_int (pe_callB call_len_seq (by rfl) T.len PySem.boot_len (pa_cons (pe_ix ix_tup (pv 1) pe_int (fun _ _ => rfl)) pa_nil)) (pe_glob (v := .int 400) (by rfl) gM ⟨tm, rfl⟩))) pss_never pss_nil)
      (pss_cons (ps_if (pt_not (pt_val (pe_callB (cr_all rfl) (by rfl) T.all (by decide +kernel) (pa_cons
            (pe_lc (own := [("k", 3)]) (g := gName 3) (tt := tYes) rfl scFn.nd (pi_range1 rfl T.range (pa_cons (pe_callB call_len_seq (by rfl) T.len PySem.boot_len (pa_cons (pe_ix ix_tup (pv 1) pe_int (fun _ _ => rfl)) pa_nil)) pa_nil))
              (blkOk_by (own := [("k", 3)]) (N := ["functions", "function", "one", "k"]) (sc := defScope sIsFunction) (by decide +kernel)) (fun _ _ _ _ _ => pg_name (i := 3) scFn.nd rfl (Or.inl rfl)) (fun _ _ _ _ _ => pts_nil)
              (fun _ _ _ _ _ => pe_call GL hr (by rfl) gL kL bL .nil pass0 (pa_cons (pv 0) (pa_cons (pv 1) (pa_cons (pv 3) pa_nil))))) pa_nil)))) pss_never pss_nil)
      (pss_one (ps_ret (pe_and (pe_cmpR op_notN (pe_call GH hr2 (by rfl) gH kH bH .nil pass0 (pa_cons (pe_ix ix_tup (pv 1) pe_int (fun _ _ => rfl)) pa_nil)) pe_non (nomark _))
        (pe_one (pe_cmpR op_notN (pe_call GD hr2 (by rfl) gD kD bD .nil pass0 (pa_cons (pe_ix ix_tup (pv 1) pe_int (fun _ _ => rfl)) pa_nil)) pe_non (nomark _))))))))), ?_⟩
    obtain ⟨fs, f, c, l0, l1, t, rfl, hC, kQ⟩ := h
    have hf := hC.hf
    have hc := hC.code.hc
    refine ⟨.ref f, rfl, .ref f, .ty "tuple", .type "tuple", .type "tuple", true, rfl, .ty _, .base (.tup hf), kit_ty (by decide), true, rfl, iteF ?_⟩
    refine ⟨.ref f, rfl, f, _, rfl, .inr (SqT.of hf), rfl, false, rfl, iteF ?_⟩
    refine ⟨.ref f, rfl, f, _, 4, .ref c, rfl, rfl, SqT.of hf, atI_nat (j := 4) rfl, .ref c, .ty "tuple", .type "tuple", .type "tuple", true, rfl, .ty _, .base (.tup hc), kit_ty (by decide), true, rfl, iteF ?_⟩
    -- all([is_count(one, 100) ..])
    refine ⟨.ref f, rfl, 1, rfl, 4, rfl, f, _, rfl, SqT.of hf, (by show ¬ (HT.sIx 5 0 (some 1) = 0 ∧ HT.sIx 5 5 (some 4) = 5); decide), fun sl nsl => ⟨sl, rfl, ⟨_, SqT.of upd_same⟩, fun D nD => ?_⟩⟩
    generalize hG : upd H sl _ = G1 at nD
    have sG1 : Same H G1 := by rw [← hG]; exact same_new nsl
    have es : G1 sl = some (.tup [.int 0, .int 0, .int 0]) := by rw [← hG]; exact upd_same
    clear hG
    refine lc_tup (xs := [V.int 0, V.int 0, V.int 0]) (Tr G1 D) (Tr.start nD) (fun i G _ h => SqT.of (h.1 _ _ es)) ?_ ?_
    · intro i x G hx h
      have hi : i < 3 := (List.getElem?_eq_some_iff.mp hx).1
      have ex : x = V.int 0 := by simpa using List.mem_of_getElem? hx
      subst ex
      exact ⟨rfl, yes_ok (iteT ⟨_, rfl, 0, 100, rfl, by decide, by decide, h.next nD (by omega) (Same.refl _)⟩)⟩
    intro G2 h2
    have s2 : Same H G2 := sG1.trans h2.1
    refine ⟨D, List.replicate 3 true, rfl, SqL.of h2.2, true, rfl, iteF ?_⟩
    refine ⟨.ref f, rfl, f, _, 1, .int 0, rfl, rfl, SqT.of (s2 _ _ hf), atI_nat (j := 1) rfl, .ref f, rfl, f, _, 2, .int 0, rfl, rfl, SqT.of (s2 _ _ hf), atI_nat (j := 2) rfl, 0, 0, rfl, rfl, false, rfl, iteF ?_⟩
    -- 1 <= len(function[4]) <= MOST_LINES
    refine ⟨.ref f, rfl, f, _, 4, .ref c, rfl, rfl, SqT.of (s2 _ _ hf), atI_nat (j := 4) rfl, c, _, rfl, .inr (SqT.of (s2 _ _ hc)), 1, 2, rfl, rfl, true, rfl, iteT ⟨2, 400, rfl, rfl, true, rfl, iteF ?_⟩⟩
    -- all([is_line(..) ..])
    refine ⟨.ref f, rfl, f, _, 4, .ref c, rfl, rfl, SqT.of (s2 _ _ hf), atI_nat (j := 4) rfl, c, _, rfl, .inr (SqT.of (s2 _ _ hc)), 2, rfl, by decide, by decide, fun D2 nD2 => lc_range (n := 2) (Tr G2 D2) (Tr.start nD2) ?_ ?_⟩
    · intro i G hi h
      exact ⟨rfl, yes_ok (iteT ⟨_, rfl, _, rfl, _, rfl, fs, f, c, l0, l1, t, 0 + (i : Int), rfl, hC.same (s2.trans h.1), by omega, fun G' s' => h.next nD2 (by omega) s'⟩)⟩
    intro G3 h3
    have s3 : Same H G3 := s2.trans h3.1
    refine ⟨D2, List.replicate 2 true, rfl, SqL.of h3.2, true, rfl, iteF ?_⟩
    refine ⟨.ref f, rfl, f, _, 4, .ref c, rfl, rfl, SqT.of (s3 _ _ hf), atI_nat (j := 4) rfl, c, l0, l1, t, rfl, hC.code.same s3, fun G4 p s4 => ⟨rfl, true, rfl, iteT ?_⟩⟩
    have s34 := s3.trans s4
    exact ⟨.ref f, rfl, f, _, 4, .ref c, rfl, rfl, SqT.of (s34 _ _ hf), atI_nat (j := 4) rfl, c, l0, l1, t, rfl, hC.code.same s34, fun G5 p s5 => ⟨rfl, kQ _ (s34.trans s5)⟩⟩
end
end My
namespace My
open PySem PySem.Spec PyProof.Rows L2
def rLenS (K : PySem.W.Frag) : List V → Hp → VK → Prop := fun xs H Q => ∃ p ys, xs = [.ref p] ∧ (SqL K H p ys ∨ SqT K H p ys) ∧ Q (.int ys.length) H
section
variable {P : Program} {w : World} {K : PySem.W.Frag} {mg : Str → Option Value} {base : Heap}
theorem ok_isSound {f fC fF : Addr} {fd dC dF : FuncData} (F : Fun K "is_sound" "is_sound" sIsSound f fd) (T : Chk K w mg)
    (GC : FnOk P w K mg base CX0 1 fC dC ["told", "most"] spIsCount) (kC : PySem.W.keepIn K (.ref fC) = true) (gC : mg "is_count" = some (.ref fC)) (bC : Binds K dC ["told", "most"] [])
    (GF : FnOk P w K mg base CX0 4 fF dF ["functions", "function"] spFn) (kF : PySem.W.keepIn K (.ref fF) = true) (gF : mg "is_function" = some (.ref fF)) (bF : Binds K dF ["functions", "function"] []) :
    FnOk P w K mg base CX0 5 f fd ["functions"] spSd := by
  refine F.ok scSd (fun vs H Q E h => ?_) (fun cdv A outer s H vs Q E hr h => ?_)
  · obtain ⟨fs, f, c, l0, l1, t, rfl, _⟩ := h; rfl
  · have hr1 : Room 1 _ := hr.mono (by decide)
    refine ⟨_, pss_cons (ps_setLc (i := 1) (own := [("one", 3)]) (g := gName 3) (tt := tYes) (by rfl) scSd.nd rfl rfl (sw_true rfl rfl rfl (by decide +kernel)) (pi_list (pv 0))
          (blkOk_by (own := [("one", 3)]) (N := ["functions", "shapes", "mains", "one"]) (sc := defScope sIsSound) (by decide +kernel)) (fun _ _ _ _ _ => pg_name (i := 3) scSd.nd rfl (Or.inl rfl)) (fun _ _ _ _ _ => pts_nil)
          (fun _ _ _ _ _ => pe_and (pe_callB (r := rIsi K) call_isi (by rfl) T.isi (by decide +kernel) (pa_cons (pv 3) (pa_cons (pe_bltn (v := .ty "tuple") (by rfl) T.tup (by decide +kernel) rfl) pa_nil)))
            (pe_and (pe_cmpR op_eq (pe_callB (r := rLenS K) call_len_seq (by rfl) T.len PySem.boot_len (pa_cons (pv 3) pa_nil)) pe_int (nomark _))
            (pe_one (pe_call GC hr1 (by rfl) gC kC bC .nil pass0 (pa_cons (pe_ix (r := rIxT K) ix_tup (pv 3) pe_int (fun _ _ => rfl)) (pa_cons pe_int pa_nil)))))))
      (pss_cons (ps_if (PW.pt (pw_or (pt_not (pt_chain op_le op_le pe_int (pe_callB call_len_seq (by rfl) T.len PySem.boot_len (pa_cons (pv 0) pa_nil)) pe_int)) (pw_or1 (pt_not (pt_val (pe_callB (cr_all rfl) (by rfl) T.all (by decide +kernel) (pa_cons (pv 1) pa_nil))))))) pss_never pss_nil)
      (pss_cons (ps_if (pt_not (pt_val (pe_callB (cr_all rfl) (by rfl) T.all (by decide +kernel) (pa_cons
          (pe_lc (own := [("one", 3)]) (g := gName 3) (tt := tYes) rfl scSd.nd (pi_list (pv 0)) (blkOk_by (own := [("one", 3)]) (N := ["functions", "shapes", "mains", "one"]) (sc := defScope sIsSound) (by decide +kernel)) (fun _ _ _ _ _ => pg_name (i := 3) scSd.nd rfl (Or.inl rfl)) (fun _ _ _ _ _ => pts_nil)
            (fun _ _ _ _ _ => pe_call GF hr (by rfl) gF kF bF .nil pass0 (pa_cons (pv 0) (pa_cons (pv 3) pa_nil)))) pa_nil)))) pss_never pss_nil)
      (pss_cons (ps_setLc (i := 2) (own := [("one", 3)]) (g := gName 3) (tt := tTest (tOp rEq (tOp (rIxT K) (tVar 3) (tC (.int 0))) (tC (.str "main")))) (by rfl) scSd.nd rfl rfl (sw_true rfl rfl rfl (by decide +kernel)) (pi_list (pv 0))
          (blkOk_by (own := [("one", 3)]) (N := ["functions", "shapes", "mains", "one"]) (sc := defScope sIsSound) (by decide +kernel)) (fun _ _ _ _ _ => pg_name (i := 3) scSd.nd rfl (Or.inl rfl))
          (fun _ _ _ _ _ => pts_one (pt_cmpR op_eq (pe_ix (r := rIxT K) ix_tup (pv 3) pe_int (fun _ _ => rfl)) pe_str (nomark _))) (fun _ _ _ _ _ => pv 3))
      (pss_one (ps_ret (pe_and (pe_cmpR op_eq (pe_callB call_len_seq (by rfl) T.len PySem.boot_len (pa_cons (pv 2) pa_nil)) pe_int (nomark _))
        (pe_and (pe_cmpR op_eq (pe_ix ix_tup (pe_ix ix_list (pv 2) pe_int (fun _ _ => rfl)) pe_int (fun _ _ => rfl)) pe_int (nomark _))
        (pe_one (pe_cmpR op_eq (pe_ix ix_tup (pe_ix ix_list (pv 2) pe_int (fun _ _ => rfl)) pe_int (fun _ _ => rfl)) pe_int (nomark _)))))))))), ?_⟩
    obtain ⟨fs, f, c, l0, l1, t, rfl, hC, kQ⟩ := h
    have hf := hC.hf
    have hs := hC.hs
    -- shapes
    refine ⟨.ref fs, rfl, fs, rfl, ⟨_, SqL.of hs⟩, fun D nD => lc_list (K := K) (a := fs) (xs := [V.ref f]) (Tr H D) (Tr.start nD) (fun i G _ h => SqL.of (h.1 _ _ hs)) ?_ ?_⟩
    · intro i x G hx h
      have hi : i < 1 := (List.getElem?_eq_some_iff.mp hx).1
      have ex : x = V.ref f := by simpa using List.mem_of_getElem? hx
      subst ex
      have hf' := h.1 _ _ hf
      refine ⟨rfl, yes_ok (iteT ?_)⟩
      refine ⟨_, rfl, .ref f, .ty "tuple", .type "tuple", .type "tuple", true, rfl, .ty _, .base (.tup hf'), kit_ty (by decide), true, rfl, iteT ?_⟩
      refine ⟨_, rfl, f, _, rfl, .inr (SqT.of hf'), rfl, true, rfl, iteT ?_⟩
      exact ⟨_, rfl, f, _, 3, .int 0, rfl, rfl, SqT.of hf', atI_nat (j := 3) rfl, 0, 100, rfl, by decide, by decide, h.next nD (by omega) (Same.refl _)⟩
    intro G1 h1
    have s1 := h1.1
    refine ⟨.ref fs, rfl, fs, _, rfl, .inl (SqL.of (s1 _ _ hs)), 1, 1, rfl, rfl, true, rfl, iteT ⟨1, 60, rfl, rfl, true, rfl, iteF ?_⟩⟩
    refine ⟨.ref D, rfl, D, List.replicate 1 true, rfl, SqL.of h1.2, true, rfl, iteF ?_⟩
    -- all([is_function(..) ..])
    refine ⟨.ref fs, rfl, fs, rfl, ⟨_, SqL.of (s1 _ _ hs)⟩, fun D2 nD2 => lc_list (K := K) (a := fs) (xs := [V.ref f]) (Tr G1 D2) (Tr.start nD2) (fun i G _ h => SqL.of (h.1 _ _ (s1 _ _ hs))) ?_ ?_⟩
    · intro i x G hx h
      have hi : i < 1 := (List.getElem?_eq_some_iff.mp hx).1
      have ex : x = V.ref f := by simpa using List.mem_of_getElem? hx
      subst ex
      exact ⟨rfl, yes_ok (iteT ⟨_, rfl, _, rfl, fs, f, c, l0, l1, t, rfl, hC.same (s1.trans h.1), fun G' s' => h.next nD2 (by omega) s'⟩)⟩
    intro G2 h2
    have s2 := s1.trans h2.1
    refine ⟨D2, List.replicate 1 true, rfl, SqL.of h2.2, true, rfl, iteF ?_⟩
    -- mains
    refine ⟨.ref fs, rfl, fs, rfl, ⟨_, SqL.of (s2 _ _ hs)⟩, fun D3 nD3 => lc_list (K := K) (a := fs) (xs := [V.ref f]) (fun i G => Same G2 G ∧ G D3 = some (.lst (List.replicate i (V.ref f)))) ⟨same_new nD3, upd_same⟩ (fun i G _ h => SqL.of (h.1 _ _ (s2 _ _ hs))) ?_ ?_⟩
    · intro i x G hx h
      have hi : i < 1 := (List.getElem?_eq_some_iff.mp hx).1
      have ex : x = V.ref f := by simpa using List.mem_of_getElem? hx
      subst ex
      have hf' := (s2.trans h.1) _ _ hf
      refine ⟨rfl, _, rfl, f, _, 0, .str "main", rfl, rfl, SqT.of hf', atI_nat (j := 0) rfl, rfl, true, congrArg V.bl (by decide +kernel), iteT ?_⟩
      refine ⟨_, rfl, _, h.2, ?_, same_put h.1 nD3, ?_⟩
      · rw [List.length_replicate, sizeLine_eq]; omega
      · rw [upd_same, List.replicate_succ']
    rintro G3 ⟨h3, e3⟩
    have s3 := s2.trans h3
    have hf3 := s3 _ _ hf
    refine ⟨.ref D3, rfl, D3, _, rfl, .inl (SqL.of e3), rfl, true, rfl, iteT ?_⟩
    refine ⟨.ref D3, rfl, D3, _, 0, .ref f, rfl, rfl, SqL.of e3, atI_nat (j := 0) rfl, f, _, 1, .int 0, rfl, rfl, SqT.of hf3, atI_nat (j := 1) rfl, rfl, true, rfl, iteT ?_⟩
    exact ⟨.ref D3, rfl, D3, _, 0, .ref f, rfl, rfl, SqL.of e3, atI_nat (j := 0) rfl, f, _, 3, .int 0, rfl, rfl, SqT.of hf3, atI_nat (j := 3) rfl, rfl, kQ _ s3⟩
theorem ok_checkCode {f fS : Addr} {fd dS : FuncData} (F : Fun K "check_code" "check_code" sCheckCode f fd)
    (GS : FnOk P w K mg base CX0 5 fS dS ["functions"] spSd) (kS : PySem.W.keepIn K (.ref fS) = true) (gS : mg "is_sound" = some (.ref fS)) (bS : Binds K dS ["functions"] []) : FnOk P w K mg base CX0 6 f fd ["functions"] spCk := by
  refine F.ok scCk (fun vs H Q E h => ?_) (fun cdv A outer s H vs Q E hr h => ?_)
  · obtain ⟨fs, f, c, l0, l1, t, rfl, _⟩ := h; rfl
  · refine ⟨_, pss_one (ps_if (pt_not (pt_val (pe_call GS hr (by rfl) gS kS bS .nil pass0 (pa_cons (pv 0) pa_nil)))) pss_never pss_nil), ?_⟩
    obtain ⟨fs, f, c, l0, l1, t, rfl, hC, kQ⟩ := h
    exact ⟨_, rfl, fs, f, c, l0, l1, t, rfl, hC, fun H' s' => ⟨true, rfl, iteF (kQ _ s')⟩⟩
theorem ok_heights {f fC : Addr} {fd dC : FuncData} {C : Nat → Addr} {D fI : Addr} (F : Fun K "heights" "heights" sHeights f fd) (T : Excs P K mg C D fI) (B : Free mg)
    (GC : FnOk P w K mg base CX0 6 fC dC ["functions"] spCk) (kC : PySem.W.keepIn K (.ref fC) = true) (gC : mg "check_code" = some (.ref fC)) (bC : Binds K dC ["functions"] []) : FnOk P w K mg base (L2.CX P w) 7 f fd ["functions", "number"] (spHt (C 0)) := by
  refine F.okX scHt (fun vs H Q E h => ?_) (fun cdv A outer s H vs Q E hr h => ?_)
  · obtain ⟨fs, f, c, l0, l1, t, m, rfl, _⟩ := h; rfl
  · refine ⟨_, pss_cons (ps_expr (pe_call GC hr (by rfl) gC kC bC .nil pass0 (pa_cons (pv 0) pa_nil)))
      (pss_cons (ps_if (pt_not (pt_chain op_le op_lt pe_int (pv 1) (pe_callB call_len_seq (by rfl) B.len PySem.boot_len (pa_cons (pv 0) pa_nil)))) (pss_one (ps_raiseAt rfl (T.tx 0 (by decide)) ⟨T.sup⟩ (T.g 0 (by decide)) hr (takes_of rfl rfl rfl rfl) (pa_cons (pv 1) pa_nil) (by rfl))) pss_nil)
      pss_never), ?_⟩
    obtain ⟨fs, f, c, l0, l1, t, m, rfl, hC, hm, kE⟩ := h
    refine ⟨_, rfl, fs, f, c, l0, l1, t, rfl, hC, fun H1 s1 => ?_⟩
    have hs1 := s1 _ _ hC.hs
    have out : ∀ d, H1 d = none → E (.ref (C 0)) (some d) (upd H1 d (.xd [(("at" : Str), .int m)])) := fun d nd => kE H1 d s1 nd
    refine ⟨_, rfl, 0, m, rfl, rfl, ?_⟩
    by_cases h0 : 0 ≤ m
    · refine ⟨true, congrArg V.bl (decide_eq_true h0), iteT ⟨.ref fs, rfl, fs, _, rfl, .inl (SqL.of hs1), m, 1, rfl, rfl, false, congrArg V.bl (decide_eq_false (by omega)), iteT ?_⟩⟩
      exact ⟨_, rfl, .int m, rfl, out⟩
    · refine ⟨false, congrArg V.bl (decide_eq_false h0), iteF ⟨false, rfl, iteT ?_⟩⟩
      exact ⟨_, rfl, .int m, rfl, out⟩
end
end My
namespace My
open PySem PySem.Spec PyProof.Rows L2
section
variable {P : Program} {w : World} {K : PySem.W.Frag} {mg : Str → Option Value} {base : Heap}
/-- the one program as the law writes it -/
def tProg : TE := tLst (tCons (tTup (tCons (tC (.str "main")) (tCons (tC (.int 0)) (tCons (tC (.int 0)) (tCons (tC (.int 0)) (tCons (tTup (tCons (tTup (tCons (tC (.str "const")) (tCons (tTup (tCons (tC (.str "null")) tNil)) tNil))) (tCons (tTup (tCons (tC (.str "return")) tNil)) tNil))) tNil)))))) tNil)
theorem ok_raised {f fH : Addr} {fd dH : FuncData} {C : Nat → Addr} {D fI : Addr} (F : Fun K "_law_raised" "_law_raised" sRaised f fd) (T : Excs P K mg C D fI)
    (GH : FnOk P w K mg base (L2.CX P w) 7 fH dH ["functions", "number"] (spHt (C 0))) (kH : PySem.W.keepIn K (.ref fH) = true) (gH : mg "heights" = some (.ref fH)) (bH : Binds K dH ["functions", "number"] []) : FnOk P w K mg base CX0 8 f fd ["many"] (spRaised C) := by
  refine F.ok scRs (fun vs H Q E h => ?_) (fun cdv A outer s H vs Q E hr h => ?_)
  · obtain ⟨m, rfl, _⟩ := h; rfl
  · refine ⟨_, pss_cons (ps_try_keep (i := 1) (tb := fun W => tDrop (tCallS (spHt (C 0)) (WE W) (tCons tProg (tCons (tVar 0) tNil)))) (Wout := fun _ _ _ _ => False) rfl rfl rfl scRs.nd rfl rfl (.inl rfl) (by decide) (by decide) ⟨rfl, by decide, Or.inl T.gD⟩ takes0
        (fun W pn xe tk _ => pss_one (ps_expr (pe_callS GH hr rfl gH kH bH (fun σ => passAt tk σ) (pa_cons (pe_lst (pa_cons (pe_tup (pa_cons pe_str (pa_cons pe_int (pa_cons pe_int (pa_cons pe_int (pa_cons
          (pe_tup (pa_cons (pe_tup (pa_cons pe_str (pa_cons (pe_tup (pa_cons pe_str pa_nil)) pa_nil))) (pa_cons (pe_tup (pa_cons pe_str pa_nil)) pa_nil))) pa_nil)))))) pa_nil)) (pa_cons (pv 0) pa_nil))))))
      pss_never, ?_⟩
    obtain ⟨m, rfl, hm, kQ⟩ := h
    refine ⟨by decide, fun t nt => ⟨(by show 2 ≤ sizeLine; decide), fun l0 nl0 => ⟨by decide, fun l1 nl1 => ⟨(by show 2 ≤ sizeLine; decide), fun c nc => ⟨(by show 5 ≤ sizeLine; decide), fun g ng => ⟨(by show 1 ≤ sizeLine; decide), fun fs nfs => ?_⟩⟩⟩⟩⟩⟩
    have s1 := same_new (o := .tup [.str "null"]) nt
    have s2 := same_new (o := .tup [.str "const", .ref t]) nl0
    have s3 := same_new (o := .tup [.str "return"]) nl1
    have s4 := same_new (o := .tup [.ref l0, .ref l1]) nc
    have s5 := same_new (o := .tup [.str "main", .int 0, .int 0, .int 0, .ref c]) ng
    have s6 := same_new (o := .lst [.ref g]) nfs
    refine ⟨_, rfl, fs, g, c, l0, l1, t, m, rfl, ⟨upd_same, s6 _ _ upd_same, ⟨s6 _ _ (s5 _ _ upd_same), s6 _ _ (s5 _ _ (s4 _ _ (s3 _ _ upd_same))), s6 _ _ (s5 _ _ (s4 _ _ upd_same)), s6 _ _ (s5 _ _ (s4 _ _ (s3 _ _ (s2 _ _ upd_same))))⟩⟩, by omega, fun H' d s' nd => ?_⟩
    have sH : Same H H' := (s1.trans (s2.trans (s3.trans (s4.trans (s5.trans s6))))).trans s'
    refine ⟨true, T.te, fun _ => ⟨C 0, d, rfl, rfl, fun a na => ?_⟩, fun q => Bool.noConfusion q⟩
    refine kQ _ a ?_ ⟨d, upd_same, ?_⟩
    · exact (sH.trans (same_new nd)).trans (same_new na)
    · have nda : d ≠ a := ne_of_none upd_same na
      rw [upd_ne nda]; exact upd_same
end
end My
namespace My
open PySem PySem.Spec PyProof.Rows L2 PySem.HandSPX
/-- the tail of the classes behind ValueError -/
abbrev veL : List Value := [.type "ValueError", .type "Exception", .type "BaseException", .type "object"]
/-- what the head tells of one class -/
structure Raw (K : PySem.W.Frag) (C fI : Addr) (x : Str) (bm : List Value) : Prop where
  a : PySem.W.nsIn K mainGlobals x = some (some (.ref C))
  xL : ∃ nm q N bs sn sub ab col dd m0 m1 m2 m3 m5, K.lookup C = some (excClassObj nm q C N bs bm true sn sub ab col dd m0 m1 m2 m3 m5 "ValueError.__new__")
  sa : PySem.W.findIn K (.ref C) "__setattr__" = some (some (.builtin "object.__setattr__"))
  ga : PySem.W.findIn K (.ref C) "__getattribute__" = some (some (.builtin "BaseException.__getattribute__"))
  gg : PySem.W.findIn K (.ref C) "__getattr__" = some none
  no : PySem.W.findIn K (.ref C) "at" = some none
  ini : PySem.W.findIn K (.ref C) "__init__" = some (some (.ref fI))
  ha : PySem.W.findIn K (.ref C) "__class__" = some (some (.builtin "object.__class__"))
  kC : PySem.W.keepIn K (.ref C) = true
theorem raw_mk {K : PySem.W.Frag} {C fI : Addr} {x : Str} {bm : List Value} {nm q : Str} {N : Addr} {bs : List Value} {sn : List Str} {sub : List Value} {ab : Bool} {col : Option Bool} {dd : Option Addr} {m0 m1 m2 m3 m5 : Option Value}
    (a : PySem.W.nsIn K mainGlobals x = some (some (.ref C)))
    (xL : K.lookup C = some (excClassObj nm q C N bs bm true sn sub ab col dd m0 m1 m2 m3 m5 "ValueError.__new__"))
    (sa : PySem.W.findIn K (.ref C) "__setattr__" = some (some (.builtin "object.__setattr__")))
    (ga : PySem.W.findIn K (.ref C) "__getattribute__" = some (some (.builtin "BaseException.__getattribute__")))
    (gg : PySem.W.findIn K (.ref C) "__getattr__" = some none)
    (no : PySem.W.findIn K (.ref C) "at" = some none)
    (ini : PySem.W.findIn K (.ref C) "__init__" = some (some (.ref fI)))
    (ha : PySem.W.findIn K (.ref C) "__class__" = some (some (.builtin "object.__class__")))
    (kC : PySem.W.keepIn K (.ref C) = true) : Raw K C fI x bm := ⟨a, ⟨nm, q, N, bs, sn, sub, ab, col, dd, m0, m1, m2, m3, m5, xL⟩, sa, ga, gg, no, ini, ha, kC⟩
/-- what it tells of all -/
structure Cm (P : Program) (K : PySem.W.Frag) (D fI : Addr) : Prop where
  tI : PySem.W.typeIn K (.ref fI) = some (.type "function")
  tp : PySem.W.nsIn K cStatics "thirdparty.any" = some none
  su : PySem.W.nsIn K mainGlobals "super" = some none
  al : PySem.W.alongIn K "__init__" veL = some (some (.builtin "ValueError.__init__"))
  hn : PySem.W.specialIn K (.builtin "object.__class__") "__get__" = some (some (.builtin "getset_descriptor.__get__"))
  ht : PySem.W.takesIn K (.builtin "object.__class__") = some true
  fn : ∃ (oc : Value) (od : Option Addr) (q : Str) (doc pm ct : Value) (an : Option Addr) (cc cda : Addr) (osl : Array (Option Value)) (p1 p2 : Pos),
    K.lookup fI = some ⟨oc, od, .func (PySem.W.ksFn "__init__" q (PySem.ExcAt.iArgs p1 p2) PySem.ExcAt.iBody PySem.ExcAt.iScope .none .none doc pm an (.ref cda) ct cc), osl⟩ ∧ PySem.W.codeIn K (.ref cda) q = true ∧
    (∃ ccl cdd vs file tf ccs, K.lookup cda = some ⟨ccl, cdd, .fields vs, ccs⟩ ∧ vs[2]? = some (.str file tf) ∧ ((P.main.file : Str) == file) = true) ∧
    ∃ cl cld csl, K.lookup cc = some ⟨cl, cld, .cell (some (.ref D)), csl⟩
section
variable {P : Program} {K : PySem.W.Frag} {C D fI : Addr} {x : Str} {bm : List Value}
theorem Raw.cls (r : Raw K C fI x bm) : ∃ cd, PySem.W.clsIn K C = some cd ∧ cd.mro = .ref C :: bm ∧ cd.hasDict = true := by
  obtain ⟨nm, q, N, bs, sn, sub, ab, col, dd, m0, m1, m2, m3, m5, e⟩ := r.xL
  exact ⟨_, by unfold PySem.W.clsIn; rw [e], rfl, rfl⟩
theorem Raw.sub (r : Raw K C fI x bm) (b : Value) : PySem.W.subIn K (.ref C) b = some ((Value.ref C :: bm).contains b) := by
  obtain ⟨cd, e, hm, _⟩ := r.cls
  show (PySem.W.clsIn K C).bind (fun cd => if cd.mro.isEmpty then none else some (cd.mro.contains b)) = _
  rw [e]
  show (if cd.mro.isEmpty then none else some (cd.mro.contains b)) = _
  rw [hm]
  rfl
theorem Raw.ty (r : Raw K C fI x bm) : PySem.W.typeIn K (.ref C) = some (.type "type") := by
  obtain ⟨nm, q, N, bs, sn, sub, ab, col, dd, m0, m1, m2, m3, m5, e⟩ := r.xL
  show (K.lookup C).map (·.cls) = _
  rw [e]; rfl
theorem Raw.dict (r : Raw K C fI x bm) : PySem.W.hasDictIn K C = true := by
  obtain ⟨cd, e, _, hd⟩ := r.cls
  unfold PySem.W.hasDictIn
  rw [e]; exact hd
theorem Raw.isCls (r : Raw K C fI x bm) : (PySem.W.clsIn K C).isSome = true := by
  obtain ⟨cd, e, _, _⟩ := r.cls
  rw [e]; rfl
theorem ref_beq (a b : Addr) : (Value.ref a == Value.ref b) = decide (a = b) := by
  by_cases h : a = b
  · subst h; simp
  · rw [decide_eq_false h]
    simpa using h
theorem Raw.kit (r : Raw K C fI x bm) {C' : Addr} {x' : Str} {bm' : List Value} (r' : Raw K C' fI x' bm') : PySem.W.kitOne K (.ref C) (.ref C') = some ((Value.ref C :: bm).contains (.ref C')) := by
  unfold PySem.W.kitOne
  by_cases h : C = C'
  · subst h
    rw [if_pos (by rw [ref_beq]; exact decide_eq_true rfl), List.contains_cons, ref_beq, decide_eq_true rfl]; rfl
  · rw [if_neg (by rw [ref_beq, decide_eq_false h]; exact Bool.false_ne_true)]
    show (if ((PySem.W.clsIn K C').isSome && PySem.W.typeIn K (.ref C') == some (.type "type")) = true then PySem.W.subIn K (.ref C) (.ref C') else none) = _
    rw [if_pos (by rw [r'.isCls, r'.ty]; rfl), r.sub]
theorem Raw.kitV (r : Raw K C fI x bm) (h : (Value.ref C :: bm).contains (.type "ValueError") = true) : PySem.W.kitOne K (.ref C) (.type "ValueError") = some true := by
  show (if (Value.ref C == Value.type "ValueError") = true then some true else PySem.W.kitCls K (.ref C) (.type "ValueError")) = _
  rw [if_neg (by simp)]
  show (if PySem.W.kitMeta "ValueError" = true then PySem.W.subIn K (.ref C) (.type "ValueError") else none) = _
  rw [if_pos (by decide +kernel), r.sub, h]
/-- a class's chain: the base class or below it -/
inductive Chain (D C : Addr) : List Value → Prop
  | base : C = D → Chain D C veL
  | below : C ≠ D → Chain D C (.ref D :: veL)
theorem Chain.hasV (c : Chain D C bm) : (Value.ref C :: bm).contains (.type "ValueError") = true := by
  cases c <;> rfl
theorem Chain.hasB (c : Chain D C bm) : (Value.ref C :: bm).contains (.type "BaseException") = true := by
  cases c <;> rfl
theorem Chain.hasO (c : Chain D C bm) : (Value.ref C :: bm).contains (.type "object") = true := by
  cases c <;> rfl
theorem Chain.hasD (c : Chain D C bm) : (Value.ref C :: bm).contains (.ref D) = true := by
  cases c with
  | base h => subst h; rw [List.contains_cons, ref_beq, decide_eq_true rfl]; rfl
  | below h => rw [List.contains_cons, List.contains_cons, ref_beq D D, decide_eq_true rfl]; simp
theorem Chain.has (c : Chain D C bm) {C' : Addr} (h1 : C' ≠ D) : (Value.ref C :: bm).contains (.ref C') = decide (C' = C) := by
  cases c with
  | base h => rw [List.contains_cons, ref_beq]; show (decide (C' = C) || false) = _; simp
  | below h => rw [List.contains_cons, ref_beq, List.contains_cons, ref_beq, decide_eq_false h1]; show (decide (C' = C) || (false || false)) = _; simp
theorem Chain.drop (c : Chain D C bm) : (((Value.ref C :: bm).dropWhile (· != .ref D)).drop 1) = veL := by
  cases c with
  | base h =>
    subst h
    rw [List.dropWhile_cons, if_neg (by show ¬ ((!(Value.ref C == Value.ref C)) = true); rw [ref_beq, decide_eq_true rfl]; decide)]
    rfl
  | below h =>
    rw [List.dropWhile_cons, if_pos (by show (!(Value.ref C == Value.ref D)) = true; rw [ref_beq, decide_eq_false h]; rfl)]
    rw [List.dropWhile_cons, if_neg (by show ¬ ((!(Value.ref D == Value.ref D)) = true); rw [ref_beq, decide_eq_true rfl]; decide)]
    rfl
theorem Chain.refs (c : Chain D C bm) : refsVE bm = true := by
  cases c <;> rfl
theorem Raw.txt (r : Raw K C fI x bm) (c : Chain D C bm) {xD : Str} {bD : List Value} (rD : Raw K D fI xD bD) (m : Cm P K D fI) {mg : Str → Option Value} : PySem.ExcAt.Txt P K mg C D fI where
  cls := by
    obtain ⟨nm, q, N, bs, sn, sub, ab, col, dd, m0, m1, m2, m3, m5, e⟩ := r.xL
    exact ⟨nm, q, N, bs, bm, sn, sub, ab, col, dd, m0, m1, m2, m3, m5, e, c.refs, by rw [c.drop]; exact m.al⟩
  sa := r.sa
  ga := r.ga
  gg := r.gg
  noN := r.no
  iC := r.ini
  tI := m.tI
  kC := r.kC
  exC := by rw [r.sub, c.hasB]
  veC := by rw [r.sub, c.hasV]
  tyC := r.ty
  hdC := r.dict
  cD := rD.isCls
  sD := by have := r.sub (.ref D); rw [c.hasD] at this; exact this
  tp := m.tp
  su := m.su
  fn := m.fn
theorem Raw.exc (r : Raw K C fI x bm) (c : Chain D C bm) (m : Cm P K D fI) : ExcC K C where
  hg := r.ga
  hk := r.gg
  hs := by rw [r.sub, c.hasB]
  hd := r.dict
  ha := r.ha
  hn := m.hn
  ht := m.ht
  hm := by have := r.sub (.type "object"); rw [c.hasO] at this; exact this
theorem Raw.exm (r : Raw K C fI x bm) (c : Chain D C bm) {xD : Str} (rD : Raw K D fI xD veL) : PySem.W.exmOne K (.ref C) (.ref D) = some true := by
  have e1 : (PySem.W.subIn K (.ref D) (.type "BaseException") == some true) = true := by rw [rD.sub]; rfl
  have e2 : ((PySem.W.clsIn K D).isSome && PySem.W.typeIn K (.ref D) == some (.type "type")) = true := by rw [rD.isCls, rD.ty]; rfl
  show (if (PySem.W.subIn K (.ref D) (.type "BaseException") == some true) = true then (if ((PySem.W.clsIn K D).isSome && PySem.W.typeIn K (.ref D) == some (.type "type")) = true then PySem.W.subIn K (.ref C) (.ref D) else none) else none) = some true
  rw [if_pos e1, if_pos e2, r.sub, c.hasD]
/-- all fourteen -/
theorem excs_mk {h : Heap} {mg : Str → Option Value} {C : Nat → Addr} (X : K.In h) (G : h.Ns mainGlobals mg) (rD : Raw K D fI "LanguageError" veL) (r : ∀ i, i < 13 → Raw K (C i) fI (nm i) (.ref D :: veL)) (m : Cm P K D fI)
    (nD : ∀ i, i < 13 → C i ≠ D) (nd : ∀ i, i < 13 → ∀ j, j < 13 → C i = C j → i = j) (z1 : PySem.W.nsIn K mainGlobals "isinstance" = some none) (z2 : PySem.W.nsIn K mainGlobals "ValueError" = some none)
    (sup : (P.main.scope.names.lookup ("super" : Str)).isSome = false) : Excs P K mg C D fI where
  tx := fun i hi => (r i hi).txt (.below (nD i hi)) rD m
  ex := fun i hi => (r i hi).exc (.below (nD i hi)) m
  g := fun i hi => PySem.W.mg_of X G (r i hi).a
  txD := rD.txt (.base rfl) rD m
  exD := rD.exc (D := D) (.base rfl) m
  gD := PySem.W.mg_of X G rD.a
  kk := fun i j hi hj => by
    rw [(r i hi).kit (r j hj), (Chain.below (nD i hi)).has (nD j hj)]
    congr 1
    by_cases e : j = i
    · subst e; simp
    · rw [decide_eq_false e]
      exact decide_eq_false fun z => e (nd j hj i hi z)
  kD := fun i hi => by rw [(r i hi).kit rD, (Chain.below (nD i hi)).hasD]
  kV := fun i hi => (r i hi).kitV (Chain.below (nD i hi)).hasV
  dk := fun j hj => by
    rw [rD.kit (r j hj), (Chain.base rfl).has (nD j hj), decide_eq_false (nD j hj)]
  dV := rD.kitV (Chain.base (D := D) rfl).hasV
  noN := fun i hi => (r i hi).no
  noND := rD.no
  te := (r 0 (by decide)).exm (.below (nD 0 (by decide))) rD
  isi := PySem.W.mg_none_of X G z1
  ve := PySem.W.mg_none_of X G z2
  sup := sup
end
end My
namespace My
open PySem PySem.Spec PyProof.Rows L2
theorem tup_mk {K : PySem.W.Frag} {p : Addr} {o : Obj} {its : Array Value} {n : Nat} {xs : List V} (l : K.lookup p = some o) (hc : o.cls = .type "tuple") (hd : o.data = .seq its n) (hz : its.size ≤ sizeLine) (hv : Vals xs its.toList) : ∀ H, SqT K H p xs :=
  fun _ => .inr ⟨o, its, n, l, hc, hd, hz, hv⟩
/-- a def where it stands -/
structure DefAt (K : PySem.W.Frag) (mg : Str → Option Value) (x : Str) (st : Stmt) : Prop where
  ex : ∃ (f : Addr) (fd : FuncData), Fun K x x st f fd ∧ mg x = some (.ref f)
theorem def_mk {K : PySem.W.Frag} {h : Heap} {mg : Str → Option Value} (X : K.In h) (G : h.Ns mainGlobals mg) {x : Str} {st : Stmt} {f : Addr} {oc : Value} {od an : Option Addr} {osl : Array (Option Value)} {kV doc pm cdv ct : Value}
    (a : PySem.W.nsIn K mainGlobals x = some (some (.ref f)))
    (l : K.lookup f = some ⟨oc, od, .func (PySem.W.fnOf x x (defArgs st) (defBody st) (defScope st) .none kV doc pm an cdv ct), osl⟩)
    (c : PySem.W.codeIn K cdv x = true) (k : PySem.W.keepIn K (.ref f) = true) : DefAt K mg x st := ⟨⟨f, _, fun_mk l c k, PySem.W.mg_of X G a⟩⟩
theorem free_mk {K : PySem.W.Frag} {h : Heap} {mg : Str → Option Value} (X : K.In h) (G : h.Ns mainGlobals mg)
    (z1 : PySem.W.nsIn K mainGlobals "range" = some none) (z2 : PySem.W.nsIn K mainGlobals "min" = some none) (z3 : PySem.W.nsIn K mainGlobals "len" = some none) (z4 : PySem.W.nsIn K mainGlobals "abs" = some none) (z5 : PySem.W.nsIn K mainGlobals "int" = some none) : Free mg :=
  ⟨PySem.W.mg_none_of X G z1, PySem.W.mg_none_of X G z2, PySem.W.mg_none_of X G z3, PySem.W.mg_none_of X G z4, PySem.W.mg_none_of X G z5⟩
theorem chk_mk {K : PySem.W.Frag} {w : World} {h : Heap} {mg : Str → Option Value} (X : K.In h) (G : h.Ns mainGlobals mg) {d1 d2 d3 p1 p2 p3 : Addr} {e1 e2 e3 : Array DictEntry} {n1 n2 n3 : Nat} {t1 t2 t3 tm : Tok}
    (aT : PySem.W.nsIn K mainGlobals "TAKES" = some (some (.ref d1))) (kT : KDict K w d1 e1 n1) (T1 : PySem.W.nsIn K d1 "const" = some none) (T2 : PySem.W.nsIn K d1 "return" = some (some (.int 1 t1)))
    (aG : PySem.W.nsIn K mainGlobals "GIVES" = some (some (.ref d2))) (kG : KDict K w d2 e2 n2) (G1 : PySem.W.nsIn K d2 "return" = some none) (G2 : PySem.W.nsIn K d2 "const" = some (some (.int 1 t2)))
    (aF : PySem.W.nsIn K mainGlobals "FIELDS" = some (some (.ref d3))) (kF : KDict K w d3 e3 n3) (F1 : PySem.W.nsIn K d3 "const" = some (some (.str "v" t3)))
    (aA : PySem.W.nsIn K mainGlobals "AIMS" = some (some (.ref p1))) (hA : ∀ H, SqT K H p1 [.str "jump", .str "unless", .str "loop", .str "try"])
    (aE : PySem.W.nsIn K mainGlobals "ENDS" = some (some (.ref p2))) (hE : ∀ H, SqT K H p2 [.str "jump", .str "loop", .str "return", .str "throw"])
    (aP : PySem.W.nsIn K mainGlobals "PLAIN" = some (some (.ref p3))) (hP : ∀ H, SqT K H p3 [.str "pop", .str "not", .str "return", .str "object", .str "item", .str "setitem", .str "len", .str "push", .str "print", .str "throw", .str "end"])
    (aM : PySem.W.nsIn K mainGlobals "MOST_LINES" = some (some (.int 400 tm)))
    (z1 : PySem.W.nsIn K mainGlobals "isinstance" = some none) (z2 : PySem.W.nsIn K mainGlobals "tuple" = some none) (z3 : PySem.W.nsIn K mainGlobals "int" = some none) (z4 : PySem.W.nsIn K mainGlobals "bool" = some none) (z5 : PySem.W.nsIn K mainGlobals "str" = some none)
    (z6 : PySem.W.nsIn K mainGlobals "len" = some none) (z7 : PySem.W.nsIn K mainGlobals "all" = some none) (z8 : PySem.W.nsIn K mainGlobals "range" = some none) (z9 : PySem.W.nsIn K mainGlobals "enumerate" = some none) (z10 : PySem.W.nsIn K mainGlobals "sorted" = some none) : Chk K w mg where
  takes := ⟨d1, e1, n1, PySem.W.mg_of X G aT, kT, T1, t1, T2⟩
  gives := ⟨d2, e2, n2, PySem.W.mg_of X G aG, kG, G1, t2, G2⟩
  fields := ⟨d3, e3, n3, PySem.W.mg_of X G aF, kF, t3, F1⟩
  aims := ⟨p1, PySem.W.mg_of X G aA, hA⟩
  ends := ⟨p2, PySem.W.mg_of X G aE, hE⟩
  plain := ⟨p3, PySem.W.mg_of X G aP, hP⟩
  most := ⟨tm, PySem.W.mg_of X G aM⟩
  isi := PySem.W.mg_none_of X G z1
  tup := PySem.W.mg_none_of X G z2
  int := PySem.W.mg_none_of X G z3
  bool := PySem.W.mg_none_of X G z4
  str := PySem.W.mg_none_of X G z5
  len := PySem.W.mg_none_of X G z6
  all := PySem.W.mg_none_of X G z7
  range := PySem.W.mg_none_of X G z8
  enum := PySem.W.mg_none_of X G z9
  sorted := PySem.W.mg_none_of X G z10
theorem cm_mk {P : Program} {K : PySem.W.Frag} {D fI : Addr} {oc : Value} {od : Option Addr} {q : Str} {doc pm ct : Value} {an : Option Addr} {cc cda : Addr} {osl : Array (Option Value)} {p1 p2 : Pos}
    {ccl : Value} {cdd : Option Addr} {vs : Array Value} {file : Str} {tf : Tok} {ccs : Array (Option Value)} {cl : Value} {cld : Option Addr} {csl : Array (Option Value)}
    (l : K.lookup fI = some ⟨oc, od, .func (PySem.W.ksFn "__init__" q (PySem.ExcAt.iArgs p1 p2) PySem.ExcAt.iBody PySem.ExcAt.iScope .none .none doc pm an (.ref cda) ct cc), osl⟩) (c : PySem.W.codeIn K (.ref cda) q = true)
    (lc : K.lookup cda = some ⟨ccl, cdd, .fields vs, ccs⟩) (v2 : vs[2]? = some (.str file tf)) (fl : ((P.main.file : Str) == file) = true) (ll : K.lookup cc = some ⟨cl, cld, .cell (some (.ref D)), csl⟩)
    (tI : PySem.W.typeIn K (.ref fI) = some (.type "function")) (tp : PySem.W.nsIn K cStatics "thirdparty.any" = some none) (su : PySem.W.nsIn K mainGlobals "super" = some none)
    (al : PySem.W.alongIn K "__init__" veL = some (some (.builtin "ValueError.__init__"))) (hn : PySem.W.specialIn K (.builtin "object.__class__") "__get__" = some (some (.builtin "getset_descriptor.__get__"))) (ht : PySem.W.takesIn K (.builtin "object.__class__") = some true) : Cm P K D fI :=
  ⟨tI, tp, su, al, hn, ht, ⟨oc, od, q, doc, pm, ct, an, cc, cda, osl, p1, p2, l, c, ⟨ccl, cdd, vs, file, tf, ccs, lc, v2, fl⟩, ⟨cl, cld, csl, ll⟩⟩⟩
theorem all_mk {P : Program} {w : World} {K : PySem.W.Frag} {h : Heap} {mg : Str → Option Value} {fa D fI : Addr} {C : Nat → Addr} (X : K.In h) (G : h.Ns mainGlobals mg) (hfa : mg "law" = some (.ref fa)) (E : Excs P K mg C D fI) (T : Chk K w mg) (B : Free mg)
    (dT : DefAt K mg "takes" sTakes) (dG : DefAt K mg "gives" sGives) (dN : DefAt K mg "nexts" sNexts) (dV : DefAt K mg "is_value" sIsValue) (dC : DefAt K mg "is_count" sIsCount) (dF : DefAt K mg "is_field" sIsField) (dL : DefAt K mg "is_line" sIsLine)
    (dH : DefAt K mg "heights_of" sHeightsOf) (dD : DefAt K mg "handlers_of" sHandlersOf) (dFn : DefAt K mg "is_function" sIsFunction) (dS : DefAt K mg "is_sound" sIsSound) (dCk : DefAt K mg "check_code" sCheckCode) (dHt : DefAt K mg "heights" sHeights)
    (dDr : DefAt K mg "_law_draws" sDraws) (dMx : DefAt K mg "_law_mix" sMix) (dKi : DefAt K mg "_law_kinds" sKinds) (dMa : DefAt K mg "_law_made" sMade) (dRa : DefAt K mg "_law_raised" sRaised) (dLa : DefAt K mg "law" sLaw) :
    ∃ fd : FuncData, (∀ (s : Shared) (v : Value), BindsTo s fd ⟨[v], []⟩ [("script", v)]) ∧ ∀ base : Heap, K.In base → base.Ns mainGlobals mg → FnOk P w K mg base CX0 9 fa fd ["script"] (spLaw K) := by
  obtain ⟨fT, qT, FT, gT⟩ := dT.ex
  obtain ⟨fG, qG, FG, gG⟩ := dG.ex
  obtain ⟨fN, qN, FN, gN⟩ := dN.ex
  obtain ⟨fV, qV, FV, gV⟩ := dV.ex
  obtain ⟨fC, qC, FC, gC⟩ := dC.ex
  obtain ⟨fF, qF, FF, gF⟩ := dF.ex
  obtain ⟨fL, qL, FL, gL⟩ := dL.ex
  obtain ⟨fH, qH, FH, gH⟩ := dH.ex
  obtain ⟨fD, qD, FD, gD⟩ := dD.ex
  obtain ⟨fFn, qFn, FFn, gFn⟩ := dFn.ex
  obtain ⟨fS, qS, FS, gS⟩ := dS.ex
  obtain ⟨fCk, qCk, FCk, gCk⟩ := dCk.ex
  obtain ⟨fHt, qHt, FHt, gHt⟩ := dHt.ex
  obtain ⟨fDr, qDr, FDr, gDr⟩ := dDr.ex
  obtain ⟨fMx, qMx, FMx, gMx⟩ := dMx.ex
  obtain ⟨fKi, qKi, FKi, gKi⟩ := dKi.ex
  obtain ⟨fMa, qMa, FMa, gMa⟩ := dMa.ex
  obtain ⟨fRa, qRa, FRa, gRa⟩ := dRa.ex
  obtain ⟨fLa, qLa, FLa, gLa⟩ := dLa.ex
  have e := hfa.symm.trans gLa
  cases e
  have bT := FT.binds (ps := ["line"]) fun _ _ _ _ _ _ us hl => match us, hl with | [_], _ => rfl
  have bG := FG.binds (ps := ["line"]) fun _ _ _ _ _ _ us hl => match us, hl with | [_], _ => rfl
  have bN := FN.binds (ps := ["code", "place"]) fun _ _ _ _ _ _ us hl => match us, hl with | [_, _], _ => rfl
  have bV := FV.binds (ps := ["told"]) fun _ _ _ _ _ _ us hl => match us, hl with | [_], _ => rfl
  have bC := FC.binds (ps := ["told", "most"]) fun _ _ _ _ _ _ us hl => match us, hl with | [_, _], _ => rfl
  have bF := FF.binds (ps := ["kind", "told", "functions", "k", "function"]) fun _ _ _ _ _ _ us hl => match us, hl with | [_, _, _, _, _], _ => rfl
  have bL := FL.binds (ps := ["functions", "function", "k"]) fun _ _ _ _ _ _ us hl => match us, hl with | [_, _, _], _ => rfl
  have bH := FH.binds (ps := ["code"]) fun _ _ _ _ _ _ us hl => match us, hl with | [_], _ => rfl
  have bD := FD.binds (ps := ["code"]) fun _ _ _ _ _ _ us hl => match us, hl with | [_], _ => rfl
  have bFn := FFn.binds (ps := ["functions", "function"]) fun _ _ _ _ _ _ us hl => match us, hl with | [_, _], _ => rfl
  have bS := FS.binds (ps := ["functions"]) fun _ _ _ _ _ _ us hl => match us, hl with | [_], _ => rfl
  have bCk := FCk.binds (ps := ["functions"]) fun _ _ _ _ _ _ us hl => match us, hl with | [_], _ => rfl
  have bHt := FHt.binds (ps := ["functions", "number"]) fun _ _ _ _ _ _ us hl => match us, hl with | [_, _], _ => rfl
  have bDr := FDr.binds (ps := ["script"]) fun _ _ _ _ _ _ us hl => match us, hl with | [_], _ => rfl
  have bMx := FMx.binds (ps := ["draws", "k", "many"]) fun _ _ _ _ _ _ us hl => match us, hl with | [_, _, _], _ => rfl
  have bKi := FKi.binds (ps := ["e"]) fun _ _ _ _ _ _ us hl => match us, hl with | [_], _ => rfl
  have bMa := FMa.binds (ps := ["n"]) fun _ _ _ _ _ _ us hl => match us, hl with | [_], _ => rfl
  have bRa := FRa.binds (ps := ["many"]) fun _ _ _ _ _ _ us hl => match us, hl with | [_], _ => rfl
  refine ⟨qLa, ?_, fun base _ _ => ?_⟩
  · obtain ⟨oc, od, kV, doc, pm, an, cdv, ct, osl, rfl, _, _⟩ := FLa.ex
    exact fun s v => .of_eq rfl
  · have GT := ok_takes (P := P) (w := w) (base := base) FT T
    have GG := ok_gives (P := P) (w := w) (base := base) FG T
    have GN := ok_nexts (P := P) (w := w) (base := base) FN T
    have GC := ok_isCount (P := P) (w := w) (base := base) FC T
    have GF := ok_isField (P := P) (w := w) (base := base) FF T FV gV bV
    have GL := ok_isLine FL T GF FF.kp gF bF
    have GH := ok_heightsOf FH T GT FT.kp gT bT GG FG.kp gG bG GN FN.kp gN bN
    have GD := ok_handlersOf FD T GN FN.kp gN bN
    have GFn := ok_isFunction FFn T GC FC.kp gC bC GL FL.kp gL bL GH FH.kp gH bH GD FD.kp gD bD
    have GS := ok_isSound FS T GC FC.kp gC bC GFn FFn.kp gFn bFn
    have GCk := ok_checkCode FCk GS FS.kp gS bS
    have GHt := ok_heights FHt E B GCk FCk.kp gCk bCk
    have GR := ok_raised FRa E GHt FHt.kp gHt bHt
    exact ok_law FLa B E FDr gDr bDr FMx gMx bMx FKi gKi bKi FMa gMa bMa GR (by decide) FRa.kp gRa bRa T.bool
end My
open PySem PySem.W PyProof.Rows
set_option maxRecDepth 100000 in
set_option maxHeartbeats 8000000 in
open_top hd for PySem.Challenge.rw_guessedandkept_k00_errors_are_apart
open PySem PySem.W PyProof.Rows
set_option maxHeartbeats 0 in
theorem PySem.Challenge.cw_guessedandkept_k00_errors_are_apart_holds : PySem.Challenge.rw_guessedandkept_k00_errors_are_apart.Holds :=
  hd (by
  k_fill
  refine L2.walk_of (l := PySem.Challenge.rw_guessedandkept_k00_errors_are_apart) (n := 63) (k := 9) (x := "script") (CX := fun _ => L2.CX0) (sp := fun w => My.spLaw _) rfl (by decide) rfl ⟨rfl, by decide, by decide⟩ (fun w h Y => PySem.W.kIn_of Y) ?F (fun _ _ a ns hl _ hS => ⟨a, ns, rfl, hS, hl, fun _ => rfl⟩) (fun _ _ _ _ _ h => h)
  case F =>
    intro w mg fa h KX G hmg0
    have hmg : mg "law" = some (.ref fa) := hmg0
    clear hmg0
    refine' My.all_mk (D := 33) (C := fun i => [46, 58, 70, 82, 94, 106, 118, 130, 142, 154, 166, 178, 190].getD i 0) KX G hmg ?E ?T ?B ?d1 ?d2 ?d3 ?d4 ?d5 ?d6 ?d7 ?d8 ?d9 ?d10 ?d11 ?d12 ?d13 ?d14 ?d15 ?d16 ?d17 ?d18 ?d19
    (case d1 => refine' My.def_mk KX G ?a ?l ?c ?k; (case a => k_is); (case l => k_is); (case c => k_is); (case k => k_is))
    (case d2 => refine' My.def_mk KX G ?a ?l ?c ?k; (case a => k_is); (case l => k_is); (case c => k_is); (case k => k_is))
    (case d3 => refine' My.def_mk KX G ?a ?l ?c ?k; (case a => k_is); (case l => k_is); (case c => k_is); (case k => k_is))
    (case d4 => refine' My.def_mk KX G ?a ?l ?c ?k; (case a => k_is); (case l => k_is); (case c => k_is); (case k => k_is))
    (case d5 => refine' My.def_mk KX G ?a ?l ?c ?k; (case a => k_is); (case l => k_is); (case c => k_is); (case k => k_is))
    (case d6 => refine' My.def_mk KX G ?a ?l ?c ?k; (case a => k_is); (case l => k_is); (case c => k_is); (case k => k_is))
    (case d7 => refine' My.def_mk KX G ?a ?l ?c ?k; (case a => k_is); (case l => k_is); (case c => k_is); (case k => k_is))
    (case d8 => refine' My.def_mk KX G ?a ?l ?c ?k; (case a => k_is); (case l => k_is); (case c => k_is); (case k => k_is))
    (case d9 => refine' My.def_mk KX G ?a ?l ?c ?k; (case a => k_is); (case l => k_is); (case c => k_is); (case k => k_is))
    (case d10 => refine' My.def_mk KX G ?a ?l ?c ?k; (case a => k_is); (case l => k_is); (case c => k_is); (case k => k_is))
    (case d11 => refine' My.def_mk KX G ?a ?l ?c ?k; (case a => k_is); (case l => k_is); (case c => k_is); (case k => k_is))
    (case d12 => refine' My.def_mk KX G ?a ?l ?c ?k; (case a => k_is); (case l => k_is); (case c => k_is); (case k => k_is))
    (case d13 => refine' My.def_mk KX G ?a ?l ?c ?k; (case a => k_is); (case l => k_is); (case c => k_is); (case k => k_is))
    (case d14 => refine' My.def_mk KX G ?a ?l ?c ?k; (case a => k_is); (case l => k_is); (case c => k_is); (case k => k_is))
    (case d15 => refine' My.def_mk KX G ?a ?l ?c ?k; (case a => k_is); (case l => k_is); (case c => k_is); (case k => k_is))
    (case d16 => refine' My.def_mk KX G ?a ?l ?c ?k; (case a => k_is); (case l => k_is); (case c => k_is); (case k => k_is))
    (case d17 => refine' My.def_mk KX G ?a ?l ?c ?k; (case a => k_is); (case l => k_is); (case c => k_is); (case k => k_is))
    (case d18 => refine' My.def_mk KX G ?a ?l ?c ?k; (case a => k_is); (case l => k_is); (case c => k_is); (case k => k_is))
    (case d19 => refine' My.def_mk KX G ?a ?l ?c ?k; (case a => k_is); (case l => k_is); (case c => k_is); (case k => k_is))
    (case B => refine' My.free_mk KX G ?a ?b ?c ?d ?e; (case a => k_is); (case b => k_is); (case c => k_is); (case d => k_is); (case e => k_is))
    case T =>
      refine' My.chk_mk KX G ?aT ?kT ?T1 ?T2 ?aG ?kG ?G1 ?G2 ?aF ?kF ?F1 ?aA ?hA ?aE ?hE ?aP ?hP ?aM ?z1 ?z2 ?z3 ?z4 ?z5 ?z6 ?z7 ?z8 ?z9 ?z10
      (case aT => k_is)
      (case kT => refine' ⟨?l, ?m, ?n⟩; (case l => k_is); (case n => rfl); (case m => repeat' first | exact trivial | refine ⟨⟨_, _, rfl, rfl⟩, ?_⟩))
      (case T1 => k_is)
      (case T2 => k_is)
      (case aG => k_is)
      (case kG => refine' ⟨?l, ?m, ?n⟩; (case l => k_is); (case n => rfl); (case m => repeat' first | exact trivial | refine ⟨⟨_, _, rfl, rfl⟩, ?_⟩))
      (case G1 => k_is)
      (case G2 => k_is)
      (case aF => k_is)
      (case kF => refine' ⟨?l, ?m, ?n⟩; (case l => k_is); (case n => rfl); (case m => repeat' first | exact trivial | refine ⟨⟨_, _, rfl, rfl⟩, ?_⟩))
      (case F1 => k_is)
      (case aA => k_is)
      (case hA => refine' My.tup_mk ?l ?c ?d ?z ?v; (case l => k_is); (case c => rfl); (case d => rfl); (case z => decide +kernel); (case v => repeat' first | exact .nil | refine .cons ⟨_, rfl⟩ ?_))
      (case aE => k_is)
      (case hE => refine' My.tup_mk ?l ?c ?d ?z ?v; (case l => k_is); (case c => rfl); (case d => rfl); (case z => decide +kernel); (case v => repeat' first | exact .nil | refine .cons ⟨_, rfl⟩ ?_))
      (case aP => k_is)
      (case hP => refine' My.tup_mk ?l ?c ?d ?z ?v; (case l => k_is); (case c => rfl); (case d => rfl); (case z => decide +kernel); (case v => repeat' first | exact .nil | refine .cons ⟨_, rfl⟩ ?_))
      (case aM => k_is)
      (case z1 => k_is)
      (case z2 => k_is)
      (case z3 => k_is)
      (case z4 => k_is)
      (case z5 => k_is)
      (case z6 => k_is)
      (case z7 => k_is)
      (case z8 => k_is)
      (case z9 => k_is)
      (case z10 => k_is)
    case E =>
      refine' My.excs_mk KX G ?rD ?r ?m ?nD ?nd ?z1 ?z2 ?sup
      (case rD => refine' My.raw_mk ?a ?x ?sa ?ga ?gg ?no ?ini ?ha ?kC; (case a => k_is); (case x => k_is); (case sa => k_is); (case ga => k_is); (case gg => k_is); (case no => k_is); (case ini => k_is); (case ha => k_is); (case kC => k_is))
      case r =>
        intro i hi
        match i, hi with
        | 0, _ => show My.Raw _ 46 _ "OutOfRange" _; refine' My.raw_mk ?a ?x ?sa ?ga ?gg ?no ?ini ?ha ?kC; (case a => k_is); (case x => k_is); (case sa => k_is); (case ga => k_is); (case gg => k_is); (case no => k_is); (case ini => k_is); (case ha => k_is); (case kC => k_is)
        | 1, _ => show My.Raw _ 58 _ "WrongSize" _; refine' My.raw_mk ?a ?x ?sa ?ga ?gg ?no ?ini ?ha ?kC; (case a => k_is); (case x => k_is); (case sa => k_is); (case ga => k_is); (case gg => k_is); (case no => k_is); (case ini => k_is); (case ha => k_is); (case kC => k_is)
        | 2, _ => show My.Raw _ 70 _ "BadText" _; refine' My.raw_mk ?a ?x ?sa ?ga ?gg ?no ?ini ?ha ?kC; (case a => k_is); (case x => k_is); (case sa => k_is); (case ga => k_is); (case gg => k_is); (case no => k_is); (case ini => k_is); (case ha => k_is); (case kC => k_is)
        | 3, _ => show My.Raw _ 82 _ "BadToken" _; refine' My.raw_mk ?a ?x ?sa ?ga ?gg ?no ?ini ?ha ?kC; (case a => k_is); (case x => k_is); (case sa => k_is); (case ga => k_is); (case gg => k_is); (case no => k_is); (case ini => k_is); (case ha => k_is); (case kC => k_is)
        | 4, _ => show My.Raw _ 94 _ "BadName" _; refine' My.raw_mk ?a ?x ?sa ?ga ?gg ?no ?ini ?ha ?kC; (case a => k_is); (case x => k_is); (case sa => k_is); (case ga => k_is); (case gg => k_is); (case no => k_is); (case ini => k_is); (case ha => k_is); (case kC => k_is)
        | 5, _ => show My.Raw _ 106 _ "BadTree" _; refine' My.raw_mk ?a ?x ?sa ?ga ?gg ?no ?ini ?ha ?kC; (case a => k_is); (case x => k_is); (case sa => k_is); (case ga => k_is); (case gg => k_is); (case no => k_is); (case ini => k_is); (case ha => k_is); (case kC => k_is)
        | 6, _ => show My.Raw _ 118 _ "BadCode" _; refine' My.raw_mk ?a ?x ?sa ?ga ?gg ?no ?ini ?ha ?kC; (case a => k_is); (case x => k_is); (case sa => k_is); (case ga => k_is); (case gg => k_is); (case no => k_is); (case ini => k_is); (case ha => k_is); (case kC => k_is)
        | 7, _ => show My.Raw _ 130 _ "BadGraph" _; refine' My.raw_mk ?a ?x ?sa ?ga ?gg ?no ?ini ?ha ?kC; (case a => k_is); (case x => k_is); (case sa => k_is); (case ga => k_is); (case gg => k_is); (case no => k_is); (case ini => k_is); (case ha => k_is); (case kC => k_is)
        | 8, _ => show My.Raw _ 142 _ "BadPass" _; refine' My.raw_mk ?a ?x ?sa ?ga ?gg ?no ?ini ?ha ?kC; (case a => k_is); (case x => k_is); (case sa => k_is); (case ga => k_is); (case gg => k_is); (case no => k_is); (case ini => k_is); (case ha => k_is); (case kC => k_is)
        | 9, _ => show My.Raw _ 154 _ "BadPlaces" _; refine' My.raw_mk ?a ?x ?sa ?ga ?gg ?no ?ini ?ha ?kC; (case a => k_is); (case x => k_is); (case sa => k_is); (case ga => k_is); (case gg => k_is); (case no => k_is); (case ini => k_is); (case ha => k_is); (case kC => k_is)
        | 10, _ => show My.Raw _ 166 _ "NoPass" _; refine' My.raw_mk ?a ?x ?sa ?ga ?gg ?no ?ini ?ha ?kC; (case a => k_is); (case x => k_is); (case sa => k_is); (case ga => k_is); (case gg => k_is); (case no => k_is); (case ini => k_is); (case ha => k_is); (case kC => k_is)
        | 11, _ => show My.Raw _ 178 _ "BadPlan" _; refine' My.raw_mk ?a ?x ?sa ?ga ?gg ?no ?ini ?ha ?kC; (case a => k_is); (case x => k_is); (case sa => k_is); (case ga => k_is); (case gg => k_is); (case no => k_is); (case ini => k_is); (case ha => k_is); (case kC => k_is)
        | 12, _ => show My.Raw _ 190 _ "BadLog" _; refine' My.raw_mk ?a ?x ?sa ?ga ?gg ?no ?ini ?ha ?kC; (case a => k_is); (case x => k_is); (case sa => k_is); (case ga => k_is); (case gg => k_is); (case no => k_is); (case ini => k_is); (case ha => k_is); (case kC => k_is)
        | i + 13, h => exact absurd h (by omega)
      (case z1 => k_is); (case z2 => k_is); (case sup => decide +kernel)
      (case nD => decide +kernel); (case nd => decide +kernel)
      case m =>
        refine' My.cm_mk ?l ?c ?lc ?vs ?fl ?ll ?tI ?tp ?su ?al ?hn ?ht
        (case l => k_is); (case c => k_is); (case lc => k_is); (case vs => rfl); (case fl => decide +kernel); (case ll => k_is)
        (case tI => k_is)
        (case tp => k_is)
        (case su => k_is)
        (case al => first | k_is | rfl | kernel_rfl); (case hn => k_is); (case ht => k_is))
