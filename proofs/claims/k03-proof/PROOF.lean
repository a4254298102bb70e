import PyProof.Rows.All
import Wide.All
import OpenK.AllK
import Wide.FinOn
import KE.KExcSuper
import HandS.ForExc
import HandS.ExcSuper
import HandS.ExcField
import HandS.ForMost
import HandS.More
import HandS.Rev
import HandS.Style
import HandS.Star
import HandS.Small
import PyProof.StrOps2
import PyProof.FitsInt
import HandS.IsInst
import HandS.Comp
import HandS.RaiseMore
import HandS.Sort
import PyProof.ListRange
import PyProof.RangeFor
import HandS.Zip
import HandS.TupLe
import PySem.Challenge.RW_guessedandkept_k03_whole_deeds_in_worlds
set_option Elab.async false
set_option linter.all false
set_option maxRecDepth 100000
set_option maxHeartbeats 8000000
/-! An own exception over Exception whose __init__(self, value) says super().__init__(value) and self.value = value: made, as the library's own machine makes it. -/
namespace PySem
namespace ExcV
open PySem.W PySem.Calls PyProof.Rows PySem.HandSPX
/-! ### the text of __init__ -/
def iArgs (p1 p2 : Pos) : Arguments := { posonlyargs := [], args := [{ arg := "self", annotation := none, pos := p1 }, { arg := "value", annotation := none, pos := p2 }], vararg := none, kwonlyargs := [], kw_defaults := [], kwarg := none, defaults := [] }
def iBody : List Stmt :=
  [.Expr (.Call (.Attribute (.Call (.Name "super" ⟨13, 8, 13, 13⟩) [] [] ⟨13, 8, 13, 15⟩) "__init__" ⟨13, 8, 13, 24⟩) [.Name "value" ⟨13, 25, 13, 30⟩] [] ⟨13, 8, 13, 31⟩) ⟨13, 8, 13, 31⟩, .Assign [.Attribute (.Name "self" ⟨14, 8, 14, 12⟩) "value" ⟨14, 8, 14, 18⟩] (.Name "value" ⟨14, 21, 14, 26⟩) ⟨14, 8, 14, 26⟩]
def iScope : Scope := { kind := .function, names := [(PySem.Str.ofString "self", .local), (PySem.Str.ofString "value", .local), (PySem.Str.ofString "__class__", .free), (PySem.Str.ofString "super", .globalImplicit)], isGenerator := false, isCoroutine := false, more := [] }
/-- what the written part says of the class at C, whose __init__ at fI stands in the class at D -/
structure Txt (P : Program) (K : Frag) (mg : Str → Option Value) (C D fI : Addr) : Prop where
  cls : ∃ nm q N bs bm sn sub ab col dd k0 k1 k2 k3 k5, K.lookup C = some (excClassObj nm q C N bs bm true sn sub ab col dd k0 k1 k2 k3 k5 "Exception.__new__") ∧ bm = PySem.ESX.exTail ∧
    alongIn K "__init__" (((Value.ref C :: bm).dropWhile (· != .ref D)).drop 1) = some (some (.builtin "Exception.__init__"))
  sa : findIn K (.ref C) "__setattr__" = some (some (.builtin "object.__setattr__"))
  ga : findIn K (.ref C) "__getattribute__" = some (some (.builtin "BaseException.__getattribute__"))
  gg : findIn K (.ref C) "__getattr__" = some none
  noN : findIn K (.ref C) "value" = some none
  iC : findIn K (.ref C) "__init__" = some (some (.ref fI))
  tI : typeIn K (.ref fI) = some (.type "function")
  kC : keepIn K (.ref C) = true
  exC : subIn K (.ref C) (.type "BaseException") = some true
  veC : subIn K (.ref C) (.type "Exception") = some true
  tyC : typeIn K (.ref C) = some (.type "type")
  hdC : hasDictIn K C = true
  cD : (clsIn K D).isSome = true
  sD : mroIn K C (.ref D) = some true
  tp : nsIn K cStatics "thirdparty.any" = some none
  su : nsIn K mainGlobals "super" = some none
  fn : ∃ (oc : Value) (od : Option Addr) (q : Str) (doc pm ct : Value) (an : Option Addr) (cc cda : Addr) (osl : Array (Option Value)) (p1 p2 : Pos),
    K.lookup fI = some ⟨oc, od, .func (ksFn "__init__" q (iArgs p1 p2) iBody iScope .none .none doc pm an (.ref cda) ct cc), osl⟩ ∧ codeIn K (.ref cda) q = true ∧
    (∃ ccl cdd vs file tf ccs, K.lookup cda = some ⟨ccl, cdd, .fields vs, ccs⟩ ∧ vs[2]? = some (.str file tf) ∧ ((P.main.file : Str) == file) = true) ∧
    ∃ cl cld csl, K.lookup cc = some ⟨cl, cld, .cell (some (.ref D)), csl⟩
/-- what __init__ leaves of a fresh exception at x -/
structure InitEnd (h h' : Heap) (x C dx t1 : Addr) (v : Value) : Prop where
  keep : ∀ b o, b ≠ x → h.get? b = some o → h'.get? b = some o
  obj : h'.get? x = some { cls := .ref C, dict := some dx, data := .fields #[.ref t1, .none, .none, .none, .bool false, .none] }
  dbig : h.objs.size ≤ dx
  dne : dx ≠ x
  ns : h'.Ns1 dx (fun y => if y = "value" then some v else none)
section
variable {prog : Program} {w : World} {A : Around} {E : Value → Shared → Prop} {R : Result → Shared → Prop} {s : Shared} {K : Frag} {mg mb : Str → Option Value} {C D fI : Addr}
/-- Exception.__init__ through its wrapper at u -/
theorem call_wrapper {u x t0 : Addr} {rest : List Value} {Q : Value → Shared → Prop} {h : Heap} {g : Array GenState} {d : Drawn} {t : Nat} {os : OsState}
    {nm q : Str} {N : Addr} {bs bm : List Value} {hdct : Bool} {sn : List Str} {sub : List Value} {ab : Bool} {col : Option Bool} {dd : Option Addr} {k0 k1 k2 k3 k5 : Option Value}
    (hC : h.get? C = some (excClassObj nm q C N bs bm hdct sn sub ab col dd k0 k1 k2 k3 k5 "Exception.__new__")) (he : h.get? x = some (excObj C t0 none .none)) (hu : h.get? u = some (kxs_mw "Exception.__init__" x)) (hl : rest.length ≤ sizeLine)
    (hq : ∀ h' t1, (∀ b o, b ≠ x → h.get? b = some o → h'.get? b = some o) → h'.get? x = some (excObj C t1 none .none) → h.objs.size ≤ h'.objs.size → Q .none ⟨h', g, d, t, os⟩) :
    wpAny (model prog w) A (call (.ref u) rest) Q E ⟨h, g, d, t, os⟩ := by
  apply wpAny_call
  apply codeAny_of_tree
  show wpAny _ A.in1 (callAny (.ref u) ⟨rest, []⟩) _ _ _
  unfold callAny
  apply wpAny_bind; apply wpAny_load hu
  have w1 : (Value.type "method-wrapper" == Value.type "method" || Value.type "method-wrapper" == Value.type "builtin_function_or_method" || Value.type "method-wrapper" == Value.type "method-wrapper") = true := by decide
  simp only [kxs_mw, w1, if_true]
  refine KFB.if_so (by decide) (wpAny_bind (check_bound_init F.excBase_Exception.toExcCallFacts hC he rfl (wpAny_bind (wpAny_pure (wpAny_pure ?_)))))
  refine ⟨plainId_quiet F.excBase_Exception.init.plain _, codeAny_builtin F.excBase_Exception.initEntry ?_⟩
  refine exc_init_tree (cls := .ref C) (t0 := t0) (dv := none) (c2 := .none) (c3 := .none) (b4 := .bool false) he hl fun h' k e1 e2 => hq h' h.objs.size k e1 ?_
  exact Nat.le_of_lt (Heap.lt_size e2)
theorem iCell : ∀ x ∈ iScope.names, x.2 ≠ .cell := by decide
/-- __init__ run -/
theorem init_at (T : Txt prog K mg C D fI) {x t0 : Addr} {v : Value} (X : K.In s.heap) (hlim : s.heap.NoLimit) (hG : s.heap.Ns mainGlobals mg) (hB : s.heap.Ns builtinsNs mb) (hsb : mb "super" = some (.type "super"))
    (hx : s.heap.get? x = some (excObj C t0 none .none)) (hnx : K.lookup x = none) (hroom : A.depth < recursionLimit) (htop : (prog.main.scope.names.lookup ("super" : Str)).isSome = false)
    (hq : ∀ h' tk dx t1, InitEnd s.heap h' x C dx t1 v → R (.ok (.ret .none)) { s with heap := h', toks := tk }) :
    codeAny (model prog w) A (.call (.ref fI) ⟨[.ref x, v], []⟩) R s := by
  obtain ⟨oc, od, q, doc, pm, ct, an, cc, cda, osl, p1, p2, ho, hcd, ⟨ccl, cdd, vs, file, tf, ccs, hcda, hvs, hfile⟩, cl, cld, csl, hcc⟩ := T.fn
  obtain ⟨nm, qn, N, bs, bm, sn, sub, ab, col, dd, k0, k1, k2, k3, k5, hC, hbm, hal⟩ := T.cls
  have hcl : clsIn K C = some { name := nm, bases := bs, mro := .ref C :: bm, ns := N, qualname := qn, hasDict := true, slotNames := sn, subclasses := sub, abstract := ab, collection := col, hasDel := false } := by unfold clsIn; rw [hC] <;> rfl
  obtain ⟨cdD, hD⟩ := Option.isSome_iff_exists.mp T.cD
  obtain ⟨oD, hD1, hD2⟩ : ∃ oD, K.lookup D = some oD ∧ oD.data = .cls cdD := by
    unfold clsIn at hD
    split at hD
    · rename_i z; cases hD; exact ⟨_, z, rfl⟩
    · cases hD
  have hxC : x ≠ C := fun z => by rw [z, hC] at hnx; cases hnx
  refine ks_codeAny_call_defAt (body := iBody) (binds := [("self", .ref x), ("value", v)]) hroom (X _ _ ho) rfl hlim (codeRec_of X hcd) rfl (BindsTo.of_eq (by first | rfl | with_unfolding_all rfl)) iCell (locs rfl) (fun h1 hns k1 => ?_) rfl rfl rfl
  have X1 : K.In h1 := X.keeps k1
  have hx1 := k1 _ _ hx
  show wpAt (model prog w) (A.deeper (ksEnv q iScope s.heap.objs.size fI (.ref cda) cc)) (.func iBody (ksEnv q iScope s.heap.objs.size fI (.ref cda) cc)) (execs iBody (ksEnv q iScope s.heap.objs.size fI (.ref cda) cc)) _ _ _
  refine ks_wpAt_execs_cons ?_
  refine ks_wpAt_Expr_any ?_
  refine ks_wpAt_MethodCall ?_
  refine ks_wpAt_super_base (by rfl) (by rfl) (by decide) rfl (X1 _ _ ho) rfl rfl rfl (X1 _ _ hcda) rfl hvs hfile htop ?_
  refine ks_loadName_global rfl rfl (loadGlobal_builtin (hG.keeps k1) (mg_none_of X hG T.su) (hB.keeps k1) hsb ⟨rfl, ?_⟩)
  refine wpAny_loadName_free rfl rfl rfl ⟨_, X1 _ _ hcc, rfl⟩ ?_
  refine wpAny_loadName_local rfl rfl hns (v := .ref x) rfl ?_
  refine ks_wpAny_isType_cls (X1 _ _ hD1) hD2 ⟨rfl, ?_⟩
  refine ks_wpAny_call_super (X1 _ _ hD1) hD2 hx1 rfl (fun c z => by cases z) (looks_mroIn X1 T.sD) (fun h2 eso k2 => ?_)
  have X2 : K.In h2 := X1.keeps k2
  have hx2 := k2 _ _ hx1
  have I2 : InstAt h2 x (excObj C t0 none .none) C none := ⟨hx2, rfl, rfl, trivial⟩
  refine kxs_getMethod (l₀ := Value.ref C :: bm) kxs_Exception eso (looks_opaque X2 T.tp) (fun A' Q' E' s' kk qq => wpAny_bind ((looks_clsIn X2 hcl) A' _ E' s' kk (wpAny_pure qq))) rfl X2 hal (I2.type.andThen (looks_subIn X2 T.veC)) hxC (by decide) ?_
  have lt1 : s.heap.objs.size < h1.objs.size := hns.lt
  have lt2 : h1.objs.size < h2.objs.size := Heap.lt_size eso
  have k3 : ∀ b o, h2.get? b = some o → (h2.push (kxs_mw "Exception.__init__" x)).get? b = some o := fun b o e => Heap.get?_push_of_some _ e
  have eu : (h2.push (kxs_mw "Exception.__init__" x)).get? h2.objs.size = some (kxs_mw "Exception.__init__" x) := Heap.get?_push_at rfl rfl
  have NN : News s.heap x (h2.push (kxs_mw "Exception.__init__" x)) [(h2.objs.size, kxs_mw "Exception.__init__" x)] := fun p hp => by
    obtain rfl := List.mem_singleton.mp hp
    refine ⟨eu, fun z => ?_, ?_⟩
    · have := Heap.lt_size hx2
      exact absurd (show h2.objs.size = x from z) (Nat.ne_of_gt this)
    · show s.heap.get? h2.objs.size = none
      cases z : s.heap.get? h2.objs.size with
      | none => rfl
      | some o => exact absurd (Nat.lt_trans (Nat.lt_trans lt1 lt2) (Heap.lt_size z)) (Nat.lt_irrefl _)
  refine kxs_callWith1 (i := "Exception.__init__") (x := x) NN List.mem_cons_self ?_
  refine Calls.spliced_cons (wpAny_Name (wpAny_loadName_local rfl rfl (hns.keeps fun b o e => k3 b o (k2 b o e)) (v := v) rfl ?_) (by decide))
  refine Calls.spliced_nil ⟨eu, ?_⟩
  refine call_wrapper (x := x) (t0 := t0) (k3 _ _ (X2 _ _ hC)) (k3 _ _ hx2) eu (by show 1 ≤ sizeLine; rw [sizeLine_eq]; exact (by decide : 1 ≤ 16777216)) (fun h4 t1 k4 hx4 sz4 => ?_)
  have kk : ∀ b o, b ≠ x → s.heap.get? b = some o → h4.get? b = some o := fun b o hb e => k4 b o hb (k3 b o (k2 b o (k1 b o e)))
  have X4 : K.In h4 := fun a o e => kk a o (fun z => by rw [z, hnx] at e; cases e) (X a o e)
  have hLx : s.heap.objs.size ≠ x := Nat.ne_of_gt (Heap.lt_size hx)
  have hns4 : h4.Ns s.heap.objs.size (fun y => [(("self" : Str), Value.ref x), ("value", v)].reverse.lookup y) := by
    obtain ⟨oL, es, ep, hL, r⟩ := hns
    exact ⟨oL, es, ep, k4 _ _ hLx (k3 _ _ (k2 _ _ hL)), r⟩
  show wpAt _ _ _ (execs _ _) _ _ _
  refine ks_wpAt_execs_cons (wpAt_of_wpAny (plainObj_wpAny_Assign_Attribute ?_))
  refine wpAny_Name (wpAny_loadName_local rfl rfl hns4 (v := v) rfl ?_) (by decide)
  refine wpAny_Name (wpAny_loadName_local rfl rfl hns4 (v := .ref x) rfl ?_) (by decide)
  refine set_plain X4 (ox := excObj C t1 none .none) (od := none) ⟨hx4, rfl, rfl, trivial⟩ T.sa ?_
  refine PySem.ESX.osa_new X4 hx4 hcl (by rw [hbm]) rfl T.noN (fun h5 tk5 dx k5 dn dne hx5 hn5 => ?_)
  have z3 : (h2.push (kxs_mw "Exception.__init__" x)).objs.size = h2.objs.size + 1 := by simp
  have sz : s.heap.objs.size ≤ dx := Nat.le_trans (Nat.le_of_lt (Nat.lt_trans lt1 lt2)) (Nat.le_trans (Nat.le_succ _) (Nat.le_trans (Nat.le_of_eq z3.symm) (Nat.le_trans sz4 dn)))
  exact wpAt_of_wpAny (wpAny_execs_nil (hq h5 tk5 dx t1 ⟨fun b o hb e => k5 b o hb (kk b o hb e), hx5, sz, dne, hn5⟩))
end
end ExcV
end PySem
namespace PySem
namespace ExcV
open PySem.W PySem.Calls PyProof.Rows PySem.HandSPX
/-- a made exception -/
structure OwnMade (h h' : Heap) (e C d : Addr) (v : Value) : Prop where
  keep : ∀ b o, h.get? b = some o → h'.get? b = some o
  new : h.objs.size ≤ e
  obj : ∃ t, h'.get? e = some { cls := .ref C, dict := some d, data := .fields #[.ref t, .none, .none, .none, .bool false, .none] }
  dbig : h.objs.size ≤ d
  dne : d ≠ e
  ns : h'.Ns1 d (fun y => if y = "value" then some v else none)
theorem one_size (v : Value) : [v].length ≤ sizeLine := by
  rw [sizeLine_eq]
  exact (by decide : 1 ≤ 16777216)
section
variable {prog : Program} {w : World} {A : Around} {E : Value → Shared → Prop} {R : Result → Shared → Prop} {s : Shared} {K : Frag} {mg mb : Str → Option Value} {C D fI : Addr}
theorem val_made (T : Txt prog K mg C D fI) {v : Value} (X : K.In s.heap) (hlim : s.heap.NoLimit) (hG : s.heap.Ns mainGlobals mg) (hB : s.heap.Ns builtinsNs mb) (hsb : mb "super" = some (.type "super"))
    (hroom : A.depth + 1 < recursionLimit) (htop : (prog.main.scope.names.lookup ("super" : Str)).isSome = false)
    (hq : ∀ h' tk e d, OwnMade s.heap h' e C d v → R (.ok (.ret (.ref e))) { s with heap := h', toks := tk }) :
    codeAny (model prog w) A (.call (.ref C) ⟨[v], []⟩) R s := by
  obtain ⟨nm, q, N, bs, bm, sn, sub, ab, col, dd, k0, k1, k2, k3, k5, hC, hbm, hal⟩ := T.cls
  obtain ⟨hp, g, dr, tk, os⟩ := s
  have k : ∀ b o, hp.get? b = some o → ((hp.push (kdv_tup [v])).push (excO C hp.objs.size)).get? b = some o := fun b o e => Heap.get?_push_of_some _ (Heap.get?_push_of_some _ e)
  have hget : ((hp.push (kdv_tup [v])).push (excO C hp.objs.size)).get? (hp.objs.size + 1) = some (excO C hp.objs.size) := by heap_get
  have hnx : K.lookup (hp.objs.size + 1) = none := by
    cases e : K.lookup (hp.objs.size + 1) with
    | none => rfl
    | some o =>
      have z : hp.get? (hp.objs.size + 1) = some o := X _ _ e
      exact absurd (Nat.lt_of_succ_lt (Heap.lt_size z)) (Nat.lt_irrefl _)
  refine call_own F.excBase_Exception (fun X => by rw [hbm]) (X _ _ hC) (looks_findIn X T.iC) (fun self => bind_fn X self T.tI) (one_size v) ?_
  refine init_at (s := ⟨(hp.push (kdv_tup [v])).push (excO C hp.objs.size), g, dr, tk, os⟩) T (X.keeps k) (hlim.keeps k) (hG.keeps k) (hB.keeps k) hsb hget hnx hroom htop fun h' tk' dx t1 ⟨k', hx, dn, dne, hns⟩ => ?_
  have old : ∀ b o, hp.get? b = some o → h'.get? b = some o := fun b o e => k' b o (Nat.ne_of_lt (Nat.lt_succ_of_lt (Heap.lt_size e))) (k b o e)
  have z : hp.objs.size + 1 + 1 ≤ dx := by
    have q := dn
    simp only [Heap.size_push] at q
    exact q
  exact ⟨rfl, hq h' tk' (hp.objs.size + 1) dx ⟨old, Nat.le_succ _, ⟨t1, hx⟩, Nat.le_trans (Nat.le_trans (Nat.le_succ _) (Nat.le_succ _)) z, dne, hns⟩⟩
end
end ExcV
end PySem
namespace L2
open PySem PySem.Spec PyProof.Rows
theorem relO_val {v : V} {v' : Value} (r : RelV v v') (f : Str) : RelO (List.lookup f [(("value" : Str), v)]) (if f = "value" then some v' else none) := by
  by_cases hw : f = "value"
  · subst hw
    have q : List.lookup ("value" : Str) [(("value" : Str), v)] = some v := by simp [List.lookup]
    rw [if_pos rfl, q]
    exact r
  · have qw : (f == ("value" : Str)) = false := by simpa using hw
    have q2 : List.lookup f [(("value" : Str), v)] = none := by simp [List.lookup, qw]
    rw [if_neg hw, q2]
    trivial
/-- the facts of a module that calls such classes -/
structure BltSuper (X : Cx) : Prop where
  top : (X.prog.main.scope.names.lookup ("super" : Str)).isSome = false
section
variable {X : Cx} {C D fI : Addr} {x : Str}
theorem mod_super {K : PySem.W.Frag} {mg : Str → Option Value} {base : Heap} (M : Mod K mg base) : ∃ mb, base.Ns builtinsNs mb ∧ mb "super" = some (.type "super") := by
  obtain ⟨mb, h1, h2⟩ := M.blt
  exact ⟨mb, h1, (h2 _ (by decide)).trans (by decide +kernel)⟩
/-- X(e), to be raised -/
def tMkVal (C : Addr) (ta : TA) : St → Hp → XK → Prop := fun σ H Q => ta σ H fun vs H1 => ∃ v, vs = [v] ∧ ∀ d, H1 d = none → Q (.ref C) (some d) (upd H1 d (.xd [(("value" : Str), v)]))
theorem pmk_val {e : Expr} {ta : TA} {p pos : Pos} {k : Nat} (T : PySem.ExcV.Txt X.prog X.K X.mg C D fI) (B : BltSuper X) (gC : X.mg x = some (.ref C)) (hr : Room k X.A) (ha : PA X [e] ta) (hg : Gl X x)
    (hs : starEach (e :: []) X.env = (false, eval e X.env) :: starEach [] X.env := by rfl) (hpl : (backTo pos (starEach [] X.env)).any (·.1) = false := by rfl) (hdb : (x == ("__debug__" : Str)) = false := by decide) :
    PMk X (.Call (.Name x p) [e] [] pos) (tMkVal C ta) := by
  intro pins s σ H Q I h
  refine wpAny_Call_Name_kw (ld_glob I hg gC ?_ hdb)
  refine PySem.W.callWith_K (h₀ := X.base) I.ok.mod.kin T.kC (thn (ha.run pos pins s σ H _ I h) fun us s1 hh => ?_) hs hpl
  obtain ⟨vs, H1, I1, r1, v, ev, q1⟩ := hh
  subst ev
  refine ⟨I1.kIn, ?_⟩
  cases r1 with
  | cons rv rn =>
    rename_i v' us'
    cases rn
    show wpAny _ _ (call (.ref C) [v']) _ _ _
    obtain ⟨mb, hB, hsb⟩ := mod_super I1.mod
    have hG := I1.mod.glob.keeps I1.bk
    have hB' := hB.keeps I1.bk
    have hlim := I1.nolimit
    obtain ⟨hp, g, dr, tk, os⟩ := s1
    refine wpAny_call (PySem.ExcV.val_made T I1.kIn hlim hG hB' hsb (by have := hr.dp; omega) B.top fun h' tk' a d M => ?_)
    show MkP X pins σ Q (.ref a) ⟨h', g, dr, tk', os⟩
    obtain ⟨t, hoe⟩ := M.obj
    have hns := M.ns
    obtain ⟨G', g1, g2⟩ := restrict h' fun b => decide (b ≠ a)
    have gk : ∀ b, b ≠ a → G'.get? b = h'.get? b := fun b hb => g1 b (decide_eq_true hb)
    have ge : G'.get? a = none := g2 a (by simp)
    have old : ∀ b o, hp.get? b = some o → G'.get? b = some o := fun b o q => (gk b (Nat.ne_of_lt (Nat.lt_of_lt_of_le (Heap.lt_size q) M.new))).trans (M.keep b o q)
    have ob : ObjOk X.prog X.w (upd H1 d (.xd [(("value" : Str), v)])) G' d (.xd [(("value" : Str), v)]) :=
      ⟨_, hns.at (fun o q => (gk d M.dne).trans q), fun f => relO_val rv f⟩
    have J : Inv X pins σ (upd H1 d (.xd [(("value" : Str), v)])) ⟨G', g, dr, tk', os⟩ := I1.laid (t' := tk') old M.dbig ob
    have na : H1 a = none := I1.hok.fresh M.new
    have na' : upd H1 d (.xd [(("value" : Str), v)]) a = none := by
      rw [upd_ne (Ne.symm M.dne)]
      exact na
    have up : ∀ b u, G'.get? b = some u → h'.get? b = some u := fun b u q => by
      by_cases hb : b = a
      · rw [hb, ge] at q; cases q
      · rw [← gk b hb]; exact q
    exact ⟨a, _, _, ⟨G', g, dr, tk', os⟩, _, .ref C, some d, rfl, J, up, ge, hoe, ⟨rfl, rfl⟩, rfl, rfl, na', rfl, I1.bare, raises_own T.exC T.tyC, q1 d (I1.hok.fresh M.dbig)⟩
/-- raise X(e) -/
theorem ps_raiseVal {e : Expr} {ta : TA} {W : WX} {p pos pos2 : Pos} {k : Nat} (hc : X.calm = true) (T : PySem.ExcV.Txt X.prog X.K X.mg C D fI) (B : BltSuper X) (gC : X.mg x = some (.ref C)) (hr : Room k X.A) (tk : Takes X W) (ha : PA X [e] ta) (hg : Gl X x)
    (hs : starEach (e :: []) X.env = (false, eval e X.env) :: starEach [] X.env := by rfl) (hpl : (backTo pos (starEach [] X.env)).any (·.1) = false := by rfl) (hdb : (x == ("__debug__" : Str)) = false := by decide) :
    PS X (.Raise (some (.Call (.Name x p) [e] [] pos)) none pos2) (fun _ σ H => tMkVal C ta σ H fun cls d H' => W cls d σ H') := ps_raise hc tk (pmk_val T B gC hr ha hg hs hpl hdb)
end
end L2
namespace My
open PySem PySem.Spec PyProof.Rows L2
def topS (i : Nat) : Stmt := PySem.Challenge.pw_guessedandkept_k03_whole_deeds_in_worlds.main.body.getD i (.Pass ⟨0, 0, 0, 0⟩)
abbrev sDraws : Stmt := topS 22
abbrev sMix : Stmt := topS 23
theorem scDraws : FnScope ["script", "draws", "k", "rest", "turn", "mixed"] ["script"] (defScope sDraws) := ⟨rfl, rfl, rfl, by decide +kernel, rfl, by decide +kernel, by decide +kernel⟩
theorem scMix : FnScope ["draws", "k", "many", "cell_there"] ["draws", "k", "many"] (defScope sMix) := ⟨rfl, rfl, rfl, by decide +kernel, rfl, by decide +kernel, by decide +kernel⟩
/-- names of the built-ins that the module leaves alone -/
structure Free (mg : Str → Option Value) : Prop where
  range : mg "range" = none
  min : mg "min" = none
  len : mg "len" = none
  abs : mg "abs" = none
  int : mg "int" = none
/-- what is drawn: numbers below 65536 -/
structure DrawsOk (n : Nat) (ds : List Int) : Prop where
  len : ds.length ≤ n
  all : ∀ d ∈ ds, 0 ≤ d ∧ d < 65536
theorem DrawsOk.nil : DrawsOk 0 [] := ⟨Nat.le_refl _, fun _ h => (nomatch h)⟩
theorem DrawsOk.mono {m n : Nat} {ds : List Int} (h : DrawsOk m ds) (k : m ≤ n) : DrawsOk n ds := ⟨Nat.le_trans h.len k, h.all⟩
theorem DrawsOk.push {n : Nat} {ds : List Int} {d : Int} (h : DrawsOk n ds) (h0 : 0 ≤ d) (h1 : d < 65536) : DrawsOk (n + 1) (ds ++ [d]) :=
  ⟨by have := h.len; simp; omega, fun x hx => by
    rcases List.mem_append.mp hx with z | z
    · exact h.all x z
    · obtain rfl := List.mem_singleton.mp z; exact ⟨h0, h1⟩⟩
def spDraws (K : PySem.W.Frag) : Sp := fun vs H Q _ => ∃ (a : Addr) (ns : List Int), vs = [.ref a] ∧ SqL K H a (ns.map V.int) ∧ ns.length ≤ sizeLine ∧
  ∀ H' p ds, Same H H' → H p = none → H' p = some (.lst (ds.map V.int)) → DrawsOk 3780 ds → Q (.ref p) H'
def spMix (K : PySem.W.Frag) : Sp := fun vs H Q _ => ∃ (a : Addr) (ds : List Int) (k many : Int), vs = [.ref a, .int k, .int many] ∧ SqL K H a (ds.map V.int) ∧ DrawsOk 3780 ds ∧ 0 ≤ k ∧ k < 10000000 ∧ 0 < many ∧
  ∀ r : Int, 0 ≤ r → r < many → Q (.int r) H
theorem same_new {H : Hp} {p : Addr} {o : HO} (h : H p = none) : Same H (upd H p o) := fun b x e => by
  rw [upd_ne (ne_of_none e h)]; exact e
theorem same_put {H H' : Hp} {p : Addr} {o : HO} (h : Same H H') (n : H p = none) : Same H (upd H' p o) := fun b x e => by
  rw [upd_ne (ne_of_none e n)]; exact h _ _ e
section
variable {P : Program} {w : World} {K : PySem.W.Frag} {mg : Str → Option Value} {base : Heap}
def stir (r k : Int) : Int := ((r * 48271 + (0 + k + 1) * 69621) % 2147483647 * 16807 + 11 * (0 + k) + 5) % 2147483629
theorem pow18 : ((10 : Int) ^ (18 : Int).toNat) = 1000000000000000000 := by decide
theorem getInt {ns : List Int} {i : Nat} (h : i < ns.length) : (ns.map V.int)[i]? = some (V.int ns[i]) := by
  rw [List.getElem?_map, List.getElem?_eq_getElem h]; rfl
theorem ok_draws {f : Addr} {fd : FuncData} (F : Fun K "_law_draws" "_law_draws" sDraws f fd) (T : Free mg) : FnOk P w K mg base CX0 1 f fd ["script"] (spDraws K) := by
  refine F.ok scDraws (fun vs H Q E h => ?_) (fun cdv A outer s H vs Q E hr h => ?_)
  · obtain ⟨a, ns, rfl, _⟩ := h; rfl
  · refine ⟨_, pss_cons (ps_set (i := 1) scDraws.nd rfl (.inl rfl) (pe_lst pa_nil))
      (pss_cons (ps_for PassesOwn.never rfl (pi_range1 rfl T.range (pa_cons (pe_callB (call_min2 rfl) (by rfl) T.min (by decide +kernel) (pa_cons pe_int (pa_cons (pe_callB call_len_seq (by rfl) T.len PySem.boot_len (pa_cons (pv 0) pa_nil)) pa_nil))) pa_nil))
        (pg_name (i := 2) scDraws.nd rfl (.inl rfl))
        (pss_cons (ps_set (i := 3) scDraws.nd rfl (.inl rfl) (pe_callB call_abs (by rfl) T.abs (by decide +kernel) (pa_cons (pe_ix ix_list (pv 0) (pv 2) (fun _ _ => rfl)) pa_nil)))
        (pss_one (ps_if (pt_cmpR op_ge (pv 3) (pe_op op_pow pe_int pe_int) (nomark _))
          (pss_one (ps_for PassesOwn.never rfl (pi_range1 rfl T.range (pa_cons pe_int pa_nil)) (pg_name (i := 4) scDraws.nd rfl (.inl rfl))
            (pss_one (ps_if (pt_cmpR op_gt (pv 3) pe_int (nomark _))
              (pss_cons (ps_expr (pe_bm PySem.F.plainAttrs_list PySem.F.slot_list_append PySem.F.type_list_append mt_append (pv 1) (pa_cons (pe_op op_mod (pe_callTy call_int1 (by rfl) T.int (by decide +kernel) (pa_cons (pv 3) pa_nil)) pe_int) pa_nil)))
              (pss_one (ps_set (i := 3) scDraws.nd rfl (.inl rfl) (pe_op op_fdiv (pv 3) pe_int)))) pss_nil))))
          (pss_cons (ps_set (i := 5) scDraws.nd rfl (.inl rfl) (pe_op op_mod (pe_callTy call_int1 (by rfl) T.int (by decide +kernel) (pa_cons (pe_op op_add (pe_op op_mul (pv 3) pe_int) (pe_op op_mul (pe_op op_add (pv 2) pe_int) pe_int)) pa_nil)) pe_int))
          (pss_cons (ps_set (i := 5) scDraws.nd rfl (.inl rfl) (pe_op op_mod (pe_callTy call_int1 (by rfl) T.int (by decide +kernel) (pa_cons (pe_op op_add (pe_op op_add (pe_op op_mul (pv 5) pe_int) (pe_op op_mul pe_int (pv 2))) pe_int) pa_nil)) pe_int))
          (pss_cons (ps_expr (pe_bm PySem.F.plainAttrs_list PySem.F.slot_list_append PySem.F.type_list_append mt_append (pv 1) (pa_cons (pe_op op_mod (pe_callTy call_int1 (by rfl) T.int (by decide +kernel) (pa_cons (pv 5) pa_nil)) pe_int) pa_nil)))
          (pss_one (ps_expr (pe_bm PySem.F.plainAttrs_list PySem.F.slot_list_append PySem.F.type_list_append mt_append (pv 1) (pa_cons (pe_op op_mod (pe_callTy call_int1 (by rfl) T.int (by decide +kernel) (pa_cons (pe_op op_fdiv (pv 5) pe_int) pa_nil)) pe_int) pa_nil)))))))))))
      (pss_one (ps_ret (pv 1)))), ?_⟩
    obtain ⟨a, ns, rfl, hS, hz, kQ⟩ := h
    refine ⟨by show 0 ≤ sizeLine; omega, fun p hp => ?_⟩
    have hS1 : SqL K (upd H p (.lst [])) a (ns.map V.int) := Same.seq (fun b o e => by rw [upd_ne (ne_of_none e hp)]; exact e) hS
    have h0i : DrawsOk (60 * 0) [] := DrawsOk.nil
    refine ⟨.ref a, rfl, a, ns.map V.int, rfl, .inl hS1, 63, _, rfl, _, rfl, ?b1, ?b2, for_range (fun i σ H3 => ∃ y2 y3 y4 y5 ds, σ = [some (.ref a), some (.ref p), y2, y3, y4, y5] ∧ Same H H3 ∧ H3 p = some (.lst (ds.map V.int)) ∧ DrawsOk (60 * i) ds)
      ⟨none, none, none, none, [], rfl, same_new hp, upd_same, h0i⟩ ?hs ?hd⟩
    case b1 => split <;> omega
    case b2 => split <;> omega
    case hd =>
      rintro σ H3 ⟨y2, y3, y4, y5, ds, rfl, sm, ep, hd⟩
      refine ⟨.ref p, rfl, kQ H3 p ds sm hp ep (hd.mono ?_)⟩
      rw [List.length_map]
      split <;> omega
    case hs =>
      rintro i σ H3 hi ⟨y2, y3, y4, y5, ds, rfl, sm, ep, hd⟩
      have hA : SqL K H3 a (ns.map V.int) := sm.seq hS
      have hil : i < ns.length := by
        rw [List.length_map] at hi
        split at hi <;> omega
      have hi63 : i < 63 := by
        rw [List.length_map] at hi
        split at hi <;> omega
      have r0 : 0 ≤ (if ns[i] < 0 then -ns[i] else ns[i]) := by split <;> omega
      -- rest = abs(script[k])
      refine ⟨.ref a, rfl, _, rfl, a, ns.map V.int, 0 + (i : Int), V.int ns[i], rfl, rfl, hA, (by rw [Int.zero_add]; exact atI_nat (getInt hil)), ns[i], rfl, ?_⟩
      generalize (if ns[i] < 0 then -ns[i] else ns[i]) = r at r0
      refine ⟨_, rfl, 10, 18, rfl, rfl, ⟨by omega, by omega, by decide⟩, _, _, rfl, rfl, _, rfl, ite2 (fun c => ?_) (fun c => ?_)⟩
      · -- sixty turns
        refine ⟨60, rfl, by omega, by omega, for_range (fun j σ H4 => ∃ r y4 ds, σ = [some (.ref a), some (.ref p), some (.int (0 + (i : Int))), some (.int r), y4, y5] ∧ 0 ≤ r ∧ Same H H4 ∧ H4 p = some (.lst (ds.map V.int)) ∧ DrawsOk (60 * i + j) ds)
          ⟨r, y4, ds, rfl, r0, sm, ep, hd⟩ ?_ ?_⟩
        · rintro j σ H4 hj ⟨r, y4, ds, rfl, r0, sm, ep, hd⟩
          refine ⟨_, rfl, _, _, rfl, rfl, _, rfl, ite2 (fun c => ?_) (fun c => ?_)⟩
          · refine ⟨.ref p, rfl, .inl ⟨rfl, _, SqL.of ep⟩, _, rfl, .inl ⟨_, rfl, _, _, rfl, rfl, (by show (0 : Int) < 65536; decide), p, _, _, rfl, rfl, ep, ?_, ?_⟩⟩
            · rw [List.length_map]
              have := hd.len
              unfold sizeLine
              omega
            · refine ⟨_, rfl, _, _, rfl, rfl, ⟨by decide, by decide⟩, _, some (.int (0 + (j : Int))), ds ++ [r % 65536], rfl, ?_, ?_, ?_, ?_⟩
              · exact Int.ediv_nonneg r0 (by decide)
              · exact same_put sm hp
              · rw [upd_same, List.map_append]; rfl
              · exact hd.push (Int.emod_nonneg _ (by decide)) (Int.emod_lt_of_pos _ (by decide))
          · exact ⟨r, _, ds, rfl, r0, sm, ep, hd.mono (by omega)⟩
        · rintro σ H4 ⟨r, y4, ds, rfl, r0, sm, ep, hd⟩
          exact ⟨_, _, _, _, ds, rfl, sm, ep, hd.mono (by omega)⟩
      · -- two numbers mixed of it
        refine ⟨_, rfl, _, _, rfl, rfl, .inr ⟨by decide, by decide⟩, _, rfl, _, _, rfl, rfl, _, _, rfl, rfl, .inr ⟨by decide, by decide⟩, _, _, rfl, rfl, .inl ⟨_, rfl, _, _, rfl, rfl, (by show (0 : Int) < 2147483647; decide), ?_⟩⟩
        refine ⟨_, rfl, _, _, rfl, rfl, .inr ⟨by decide, by decide⟩, _, rfl, _, _, rfl, rfl, .inl ⟨by decide, by decide⟩, _, _, rfl, rfl, _, _, rfl, rfl, .inl ⟨_, rfl, _, _, rfl, rfl, (by show (0 : Int) < 2147483629; decide), ?_⟩⟩
        refine ⟨.ref p, rfl, .inl ⟨rfl, _, SqL.of ep⟩, _, rfl, .inl ⟨_, rfl, _, _, rfl, rfl, (by show (0 : Int) < 65536; decide), p, _, _, rfl, rfl, ep, ?_, ?_⟩⟩
        · rw [List.length_map]
          have := hd.len
          unfold sizeLine
          omega
        refine ⟨.ref p, rfl, .inl ⟨rfl, _, SqL.of upd_same⟩, _, rfl, _, _, rfl, rfl, ⟨by decide, by decide⟩, .inl ⟨_, rfl, _, _, rfl, rfl, (by show (0 : Int) < 32768; decide), p, _, _, rfl, rfl, upd_same, ?_, ?_⟩⟩
        · rw [List.length_append, List.length_map, List.length_singleton]
          have := hd.len
          unfold sizeLine
          omega
        refine ⟨_, _, _, _, ds ++ [stir r i % 65536] ++ [stir r i / 65536 % 32768], rfl, ?_, ?_, ?_⟩
        · exact same_put (same_put sm hp) hp
        · rw [upd_same, List.map_append, List.map_append]; rfl
        · exact ((hd.push (Int.emod_nonneg _ (by decide)) (Int.emod_lt_of_pos _ (by decide))).push (Int.emod_nonneg _ (by decide)) (by have := Int.emod_lt_of_pos (stir r i / 65536) (show (0 : Int) < 32768 by decide); omega)).mono (by omega)
theorem ok_mix {f : Addr} {fd : FuncData} (F : Fun K "_law_mix" "_law_mix" sMix f fd) (T : Free mg) : FnOk P w K mg base CX0 1 f fd ["draws", "k", "many"] (spMix K) := by
  refine F.ok scMix (fun vs H Q E h => ?_) (fun cdv A outer s H vs Q E hr h => ?_)
  · obtain ⟨a, ds, k, many, rfl, _⟩ := h; rfl
  · refine ⟨_, pss_cons (ps_set (i := 3) scMix.nd rfl (.inl rfl) pe_int)
      (pss_cons (ps_if (pt_cmpR op_gt (pe_callB call_len_seq (by rfl) T.len PySem.boot_len (pa_cons (pv 0) pa_nil)) pe_int (nomark _))
        (pss_one (ps_set (i := 3) scMix.nd rfl (.inl rfl) (pe_ix ix_list (pv 0) (pe_op op_mod (pe_callTy call_int1 (by rfl) T.int (by decide +kernel) (pa_cons (pv 1) pa_nil)) (pe_callB call_len_seq (by rfl) T.len PySem.boot_len (pa_cons (pv 0) pa_nil))) (fun _ _ => rfl))))
        pss_nil)
      (pss_cons (ps_if (pt_cmpR op_lt (pv 1) (pe_callB call_len_seq (by rfl) T.len PySem.boot_len (pa_cons (pv 0) pa_nil)) (nomark _))
        (pss_one (ps_ret (pe_op op_mod (pe_callTy call_int1 (by rfl) T.int (by decide +kernel) (pa_cons (pv 3) pa_nil)) (pv 2)))) pss_nil)
      (pss_one (ps_ret (pe_op op_mod (pe_callTy call_int1 (by rfl) T.int (by decide +kernel) (pa_cons (pe_op op_fdiv (pe_callTy call_int1 (by rfl) T.int (by decide +kernel) (pa_cons (pe_op op_add (pe_op op_mul (pv 3) pe_int) (pe_op op_mul (pv 1) pe_int)) pa_nil)) pe_int) pa_nil)) (pv 2)))))), ?_⟩
    obtain ⟨a, ds, k, many, rfl, hS, hd, k0, k1, m0, kQ⟩ := h
    have out : ∀ z : Int, Q (.int (z % many)) H := fun z => kQ _ (Int.emod_nonneg _ (by omega)) (Int.emod_lt_of_pos _ m0)
    refine ⟨.ref a, rfl, a, _, rfl, .inl hS, _, _, rfl, rfl, _, rfl, ite2 (fun c => ?_) (fun c => ?_)⟩
    · have hl : 0 < ds.length := by
        have c' := of_decide_eq_true c
        rw [List.length_map] at c'
        omega
      obtain ⟨j, hj, ej⟩ : ∃ j : Nat, j < ds.length ∧ k % ((ds.map V.int).length : Int) = (j : Int) := by
        rw [List.length_map]
        have h1 := Int.emod_nonneg k (show ((ds.length : Nat) : Int) ≠ 0 by omega)
        have h2 := Int.emod_lt_of_pos k (show 0 < ((ds.length : Nat) : Int) by omega)
        exact ⟨(k % (ds.length : Int)).toNat, by omega, by omega⟩
      have ea : atI (ds.map V.int) (k % ((ds.map V.int).length : Int)) = some (V.int ds[j]) := by
        rw [ej]; exact atI_nat (getInt hj)
      refine ⟨.ref a, rfl, _, rfl, .inl ⟨k, rfl, .ref a, rfl, a, ds.map V.int, rfl, .inl hS, k, ((ds.map V.int).length : Int), rfl, rfl, (by rw [List.length_map]; omega), a, ds.map V.int, _, V.int ds[j], rfl, rfl, hS, ea, ?_⟩⟩
      refine ⟨_, rfl, .ref a, rfl, a, _, rfl, .inl hS, _, _, rfl, rfl, _, rfl, ite2 (fun c => ?_) (fun c => ?_)⟩
      · exact ⟨_, rfl, .inl ⟨_, rfl, _, rfl, _, _, rfl, rfl, m0, out _⟩⟩
      · exact ⟨_, rfl, _, _, rfl, rfl, .inr ⟨by decide, by decide⟩, _, rfl, _, _, rfl, rfl, .inr ⟨by decide, by decide⟩, _, _, rfl, rfl, .inl ⟨_, rfl, _, _, rfl, rfl, ⟨by decide, by decide⟩, .inl ⟨_, rfl, _, rfl, _, _, rfl, rfl, m0, out _⟩⟩⟩
    · refine ⟨_, rfl, .ref a, rfl, a, _, rfl, .inl hS, _, _, rfl, rfl, _, rfl, ite2 (fun c => ?_) (fun c => ?_)⟩
      · exact ⟨_, rfl, .inl ⟨_, rfl, _, rfl, _, _, rfl, rfl, m0, out _⟩⟩
      · exact ⟨_, rfl, _, _, rfl, rfl, .inr ⟨by decide, by decide⟩, _, rfl, _, _, rfl, rfl, .inr ⟨by decide, by decide⟩, _, _, rfl, rfl, .inl ⟨_, rfl, _, _, rfl, rfl, ⟨by decide, by decide⟩, .inl ⟨_, rfl, _, rfl, _, _, rfl, rfl, m0, out _⟩⟩⟩
end
end My
namespace My
open PySem PySem.Spec PyProof.Rows L2
/-- values of the language -/
inductive Val
  | int (n : Int) | bool (b : Bool) | nul | text (s : Str) | fn (n : Int) | ref (n : Int)
deriving DecidableEq
def Val.word : Val → Str
  | .int _ => "int" | .bool _ => "bool" | .nul => "null" | .text _ => "text" | .fn _ => "fun" | .ref _ => "ref"
def Val.arg : Val → List V
  | .int n => [.int n] | .bool b => [.bl b] | .nul => [] | .text s => [.str s] | .fn n => [.int n] | .ref n => [.int n]
def Val.enc (d : Val) : List V := .str d.word :: d.arg
/-- a tuple that stays: tracked, or written by the top -/
def TupAt (K : PySem.W.Frag) (H : Hp) (a : Addr) (xs : List V) : Prop := H a = some (.tup xs) ∨
  ∃ (o : Obj) (its : Array Value) (n : Nat), K.lookup a = some o ∧ o.cls = .type "tuple" ∧ o.data = .seq its n ∧ its.size ≤ sizeLine ∧ Vals xs its.toList
def KeepT (H H' : Hp) : Prop := ∀ b xs, H b = some (.tup xs) → H' b = some (.tup xs)
theorem KeepT.refl (H : Hp) : KeepT H H := fun _ _ h => h
theorem KeepT.trans {H H1 H2 : Hp} (a : KeepT H H1) (b : KeepT H1 H2) : KeepT H H2 := fun x xs h => b x xs (a x xs h)
theorem KeepT.of {H H' : Hp} (s : Same H H') : KeepT H H' := fun b xs h => s b _ h
theorem TupAt.sq {K : PySem.W.Frag} {H : Hp} {a : Addr} {xs : List V} (h : TupAt K H a xs) : SqT K H a xs := by
  rcases h with h | h
  · exact SqT.of h
  · exact .inr h
theorem TupAt.keep {K : PySem.W.Frag} {H H' : Hp} {a : Addr} {xs : List V} (h : TupAt K H a xs) (k : KeepT H H') : TupAt K H' a xs := by
  rcases h with h | h
  · exact .inl (k _ _ h)
  · exact .inr h
/-- v is the value d -/
def Vl (K : PySem.W.Frag) (H : Hp) (v : V) (d : Val) : Prop := ∃ a, v = .ref a ∧ TupAt K H a d.enc
theorem Vl.keep {K : PySem.W.Frag} {H H' : Hp} {v : V} {d : Val} (h : Vl K H v d) (k : KeepT H H') : Vl K H' v d := by
  obtain ⟨a, e, t⟩ := h
  exact ⟨a, e, t.keep k⟩
def Val.small : Val → Bool
  | .int n => decide (-32768 ≤ n) && decide (n ≤ 32767)
  | _ => false
def Val.isInt : Val → Bool
  | .int _ => true | _ => false
theorem Val.word_int : ∀ d : Val, decide (V.str d.word = V.str "int") = d.isInt
  | .int _ => show decide (V.str "int" = V.str "int") = true by decide +kernel
  | .bool _ => show decide (V.str "bool" = V.str "int") = false by decide +kernel
  | .nul => show decide (V.str "null" = V.str "int") = false by decide +kernel
  | .text _ => show decide (V.str "text" = V.str "int") = false by decide +kernel
  | .fn _ => show decide (V.str "fun" = V.str "int") = false by decide +kernel
  | .ref _ => show decide (V.str "ref" = V.str "int") = false by decide +kernel
/-- the constants of kinds.py -/
structure Kd (K : PySem.W.Frag) (mg : Str → Option Value) : Prop where
  least : ∃ t, mg "LEAST_SMALL" = some (.int (-32768) t)
  most : ∃ t, mg "MOST_SMALL" = some (.int 32767 t)
  great : ∃ t, mg "MOST_GREAT" = some (.int 1000000000 t)
  letters : ∃ t, mg "MOST_LETTERS" = some (.int 40 t)
  nul : ∃ a, mg "NULL" = some (.ref a) ∧ ∀ H, TupAt K H a Val.nul.enc
abbrev sSmall : Stmt := topS 8
abbrev sKindOf : Stmt := topS 9
abbrev sSame : Stmt := topS 10
theorem scSmall : FnScope ["value"] ["value"] (defScope sSmall) := ⟨rfl, rfl, rfl, by decide +kernel, rfl, by decide +kernel, by decide +kernel⟩
theorem scKindOf : FnScope ["value"] ["value"] (defScope sKindOf) := ⟨rfl, rfl, rfl, by decide +kernel, rfl, by decide +kernel, by decide +kernel⟩
def spSmall (K : PySem.W.Frag) : Sp := fun vs H Q _ => ∃ v d, vs = [v] ∧ Vl K H v d ∧ Q (.bl d.small) H
def spKindOf (K : PySem.W.Frag) : Sp := fun vs H Q _ => ∃ v d, vs = [v] ∧ Vl K H v d ∧ Q (.str d.word) H
section
variable {P : Program} {w : World} {K : PySem.W.Frag} {mg : Str → Option Value} {base : Heap}
theorem ok_small {f : Addr} {fd : FuncData} (F : Fun K "is_small" "is_small" sSmall f fd) (T : Kd K mg) : FnOk P w K mg base CX0 1 f fd ["value"] (spSmall K) := by
  obtain ⟨t1, g1⟩ := T.least
  obtain ⟨t2, g2⟩ := T.most
  refine F.ok scSmall (fun vs H Q E h => ?_) (fun cdv A outer s H vs Q E hr h => ?_)
  · obtain ⟨v, d, rfl, _⟩ := h; rfl
  · refine ⟨_, pss_one (ps_ret (pe_and (pe_cmpR op_eq (pe_ix ix_tup (pv 0) pe_int (fun _ _ => rfl)) pe_str (nomark _))
      (pe_one (pe_chain op_le op_le (pe_glob (v := .int (-32768)) (by rfl) g1 ⟨t1, rfl⟩) (pe_ix ix_tup (pv 0) pe_int (fun _ _ => rfl)) (pe_glob (v := .int 32767) (by rfl) g2 ⟨t2, rfl⟩))))), ?_⟩
    obtain ⟨v, d, rfl, ⟨a, rfl, ht⟩, kQ⟩ := h
    refine ⟨.ref a, rfl, a, _, 0, .str d.word, rfl, rfl, ht.sq, atI_nat (j := 0) rfl, rfl, _, congrArg V.bl d.word_int, ?_⟩
    cases d with
    | int n =>
      refine iteT ⟨.ref a, rfl, a, _, 1, .int n, rfl, rfl, ht.sq, atI_nat (j := 1) rfl, -32768, n, rfl, rfl, decide (-32768 ≤ n), rfl, ?_⟩
      by_cases c : -32768 ≤ n
      · rw [decide_eq_true c]
        refine iteT ⟨n, 32767, rfl, rfl, ?_⟩
        have e : (Val.int n).small = decide (n ≤ 32767) := by show (decide (-32768 ≤ n) && decide (n ≤ 32767)) = _; rw [decide_eq_true c]; rfl
        rw [e] at kQ
        exact kQ
      · rw [decide_eq_false c]
        have e : (Val.int n).small = false := by show (decide (-32768 ≤ n) && decide (n ≤ 32767)) = _; rw [decide_eq_false c]; rfl
        rw [e] at kQ
        exact iteF kQ
    | _ => exact iteF kQ
theorem ok_kindOf {f : Addr} {fd : FuncData} (F : Fun K "kind_of" "kind_of" sKindOf f fd) : FnOk P w K mg base CX0 1 f fd ["value"] (spKindOf K) := by
  refine F.ok scKindOf (fun vs H Q E h => ?_) (fun cdv A outer s H vs Q E hr h => ?_)
  · obtain ⟨v, d, rfl, _⟩ := h; rfl
  · refine ⟨_, pss_one (ps_ret (pe_ix ix_tup (pv 0) pe_int (fun _ _ => rfl))), ?_⟩
    obtain ⟨v, d, rfl, ⟨a, rfl, ht⟩, kQ⟩ := h
    exact ⟨.ref a, rfl, a, _, 0, .str d.word, rfl, rfl, ht.sq, atI_nat (j := 0) rfl, kQ⟩
end
end My
namespace My
open PySem PySem.Spec PyProof.Rows L2
def Val.argD : Val → List PyData
  | .int n => [.int n] | .bool b => [.bool b] | .nul => [] | .text s => [.str s] | .fn n => [.int n] | .ref n => [.int n]
def Val.data (d : Val) : PyData := .tuple (.str d.word :: d.argD)
theorem Val.dpArg {K : PySem.W.Frag} {H : Hp} : ∀ d : Val, DpAll K H d.arg d.argD
  | .int _ => .cons (.int _) .nil | .bool _ => .cons (.bl _) .nil | .nul => .nil | .text _ => .cons (.str _) .nil | .fn _ => .cons (.int _) .nil | .ref _ => .cons (.int _) .nil
theorem Vl.dp {K : PySem.W.Frag} {H : Hp} {v : V} {d : Val} (h : Vl K H v d) : Dp K H v d.data := by
  obtain ⟨a, rfl, t⟩ := h
  exact .tup t.sq (.cons (.str _) d.dpArg)
/-- texts may be laid -/
def Val.ok : Val → Prop
  | .text s => PyData.strOk s = true
  | _ => True
theorem wordOk : ∀ d : Val, PyData.strOk d.word = true
  | .int _ => show PyData.strOk "int" = true by decide +kernel
  | .bool _ => show PyData.strOk "bool" = true by decide +kernel
  | .nul => show PyData.strOk "null" = true by decide +kernel
  | .text _ => show PyData.strOk "text" = true by decide +kernel
  | .fn _ => show PyData.strOk "fun" = true by decide +kernel
  | .ref _ => show PyData.strOk "ref" = true by decide +kernel
theorem argOk : ∀ d : Val, d.ok → PyData.canLayAll0 d.argD = true
  | .int _, _ => by simp [Val.argD, PyData.canLayAll0, PyData.canLay0]
  | .bool _, _ => by simp [Val.argD, PyData.canLayAll0, PyData.canLay0]
  | .nul, _ => by simp [Val.argD, PyData.canLayAll0]
  | .text s, h => by
    have h' : PyData.strOk s = true := h
    simp [Val.argD, PyData.canLayAll0, PyData.canLay0, h']
  | .fn _, _ => by simp [Val.argD, PyData.canLayAll0, PyData.canLay0]
  | .ref _, _ => by simp [Val.argD, PyData.canLayAll0, PyData.canLay0]
theorem argDeep : ∀ d : Val, PyData.depthAll d.argD ≤ 1
  | .int _ => by simp [Val.argD, PyData.depthAll, PyData.depth]
  | .bool _ => by simp [Val.argD, PyData.depthAll, PyData.depth]
  | .nul => by simp [Val.argD, PyData.depthAll]
  | .text s => by simp [Val.argD, PyData.depthAll, PyData.depth]
  | .fn _ => by simp [Val.argD, PyData.depthAll, PyData.depth]
  | .ref _ => by simp [Val.argD, PyData.depthAll, PyData.depth]
theorem Val.shaped (d : Val) (h : d.ok) : SeqAt.shaped d.data = true := by
  unfold SeqAt.shaped Val.data
  have h1 := wordOk d
  have h2 := argOk d h
  have h3 := argDeep d
  simp only [PyData.canLay0, PyData.canLayAll0, PyData.depth, PyData.depthAll, h1, h2, Bool.true_and, Bool.and_true, decide_eq_true_eq, Nat.zero_max]
  omega
theorem words : ("int" : Str) ≠ "bool" ∧ ("int" : Str) ≠ "null" ∧ ("int" : Str) ≠ "text" ∧ ("int" : Str) ≠ "fun" ∧ ("int" : Str) ≠ "ref" ∧ ("bool" : Str) ≠ "null" ∧ ("bool" : Str) ≠ "text" ∧ ("bool" : Str) ≠ "fun" ∧ ("bool" : Str) ≠ "ref" ∧
    ("null" : Str) ≠ "text" ∧ ("null" : Str) ≠ "fun" ∧ ("null" : Str) ≠ "ref" ∧ ("text" : Str) ≠ "fun" ∧ ("text" : Str) ≠ "ref" ∧ ("fun" : Str) ≠ "ref" := by decide +kernel
/-- the number of a kind -/
def Val.tag : Val → Nat
  | .int _ => 0 | .bool _ => 1 | .nul => 2 | .text _ => 3 | .fn _ => 4 | .ref _ => 5
theorem word_tag {d e : Val} (h : d.word = e.word) : d.tag = e.tag := by
  obtain ⟨a1, a2, a3, a4, a5, a6, a7, a8, a9, b1, b2, b3, b4, b5, b6⟩ := words
  cases d <;> cases e <;> first | rfl | (exfalso; first | exact a1 h | exact a2 h | exact a3 h | exact a4 h | exact a5 h | exact a6 h | exact a7 h | exact a8 h | exact a9 h | exact b1 h | exact b2 h | exact b3 h | exact b4 h | exact b5 h | exact b6 h | exact a1 h.symm | exact a2 h.symm | exact a3 h.symm | exact a4 h.symm | exact a5 h.symm | exact a6 h.symm | exact a7 h.symm | exact a8 h.symm | exact a9 h.symm | exact b1 h.symm | exact b2 h.symm | exact b3 h.symm | exact b4 h.symm | exact b5 h.symm | exact b6 h.symm)
theorem argEq (d e : Val) (h : d.tag = e.tag) : PyData.eqvAll d.argD e.argD = decide (d = e) := by
  cases d <;> cases e <;> first
    | (exfalso; simp [Val.tag] at h; done)
    | (rename_i a b
       by_cases hab : a = b
       · subst hab; simp [Val.argD, PyData.eqvAll, PyData.eqv]
       · rw [decide_eq_false (fun z => hab (by injection z))]; simp [Val.argD, PyData.eqvAll, PyData.eqv, hab])
    | simp [Val.argD, PyData.eqvAll, PyData.eqv]
theorem eqvVal (d e : Val) : PyData.eqv d.data e.data = decide (d = e) := by
  show ((d.word == e.word) && PyData.eqvAll d.argD e.argD) = _
  by_cases h : d.word = e.word
  · rw [argEq d e (word_tag h), h]; simp
  · have n : d ≠ e := fun z => h (by rw [z])
    rw [decide_eq_false n]
    simp [h]
theorem scSame : FnScope ["one", "two"] ["one", "two"] (defScope sSame) := ⟨rfl, rfl, rfl, by decide +kernel, rfl, by decide +kernel, by decide +kernel⟩
theorem hu64 {A : Around} {k : Nat} (hr : Room k A) : A.units + 64 < cLine := Nat.lt_of_le_of_lt (Nat.le_refl _) hr.units
def spSame (K : PySem.W.Frag) : Sp := fun vs H Q _ => ∃ v u d e, vs = [v, u] ∧ Vl K H v d ∧ Vl K H u e ∧ d.ok ∧ e.ok ∧ Q (.bl (decide (d = e))) H
section
variable {P : Program} {w : World} {K : PySem.W.Frag} {mg : Str → Option Value} {base : Heap}
theorem ok_same {f : Addr} {fd : FuncData} (F : Fun K "same" "same" sSame f fd) : FnOk P w K mg base CX0 1 f fd ["one", "two"] (spSame K) := by
  refine F.ok scSame (fun vs H Q E h => ?_) (fun cdv A outer s H vs Q E hr h => ?_)
  · obtain ⟨v, u, d, e, rfl, _⟩ := h; rfl
  · refine ⟨_, pss_one (ps_ret (pe_and (pe_cmpR (op_eqD (hu64 hr)) (pv 0) (pv 1) (nomark _)) (pe_one (pe_cmpR op_eq (pe_ix ix_tup (pv 0) pe_int (fun _ _ => rfl)) (pe_ix ix_tup (pv 1) pe_int (fun _ _ => rfl)) (nomark _))))), ?_⟩
    obtain ⟨v, u, d, e, rfl, hv, hu, od, oe, kQ⟩ := h
    obtain ⟨a, rfl, ta⟩ := id hv
    obtain ⟨b, rfl, tb⟩ := id hu
    refine ⟨.ref a, rfl, .ref b, rfl, d.data, e.data, hv.dp, hu.dp, d.shaped od, e.shaped oe, decide (d = e), congrArg V.bl (eqvVal d e), ?_⟩
    by_cases h : d = e
    · subst h
      rw [decide_eq_true rfl] at kQ ⊢
      refine iteT ⟨.ref a, rfl, a, _, 0, .str d.word, rfl, rfl, ta.sq, atI_nat (j := 0) rfl, .ref b, rfl, b, _, 0, .str d.word, rfl, rfl, tb.sq, atI_nat (j := 0) rfl, rfl, ?_⟩
      rw [decide_eq_true rfl]
      exact kQ
    · rw [decide_eq_false h] at kQ ⊢
      exact iteF kQ
end
end My
namespace My
open PySem PySem.Spec PyProof.Rows L2
abbrev sJoined : Stmt := topS 11
abbrev sTextOf : Stmt := topS 12
theorem scJoined : FnScope ["sign", "one", "two", "number"] ["sign", "one", "two"] (defScope sJoined) := ⟨rfl, rfl, rfl, by decide +kernel, rfl, by decide +kernel, by decide +kernel⟩
/-- what the class of the errors is -/
structure Th (P : Program) (K : PySem.W.Frag) (mg : Str → Option Value) (CT fI : Addr) : Prop where
  tx : PySem.ExcV.Txt P K mg CT CT fI
  g : mg "Thrown" = some (.ref CT)
  sup : (P.main.scope.names.lookup ("super" : Str)).isSome = false
  len : mg "len" = none
  abs : mg "abs" = none
/-- a deed gives a value, or throws a word -/
inductive Res
  | val (d : Val) | thrown (x : Str)
def Res.then_ (K : PySem.W.Frag) (CT : Addr) (H : Hp) (Q : VK) (E : XK) : Res → Prop
  | .val d => ∀ H' v, Same H H' → Vl K H' v d → Q v H'
  | .thrown x => ∀ H' d v, Same H H' → H' d = none → Vl K H' v (.text x) → E (.ref CT) (some d) (upd H' d (.xd [(("value" : Str), v)]))
def great (n : Int) : Res := if 1000000000 < (if n < 0 then -n else n) then .thrown "great" else .val (.int n)
def join (sg : Str) : Val → Val → Res
  | .text a, .text b => if sg = "+" then (if 40 < a.length + b.length then .thrown "long" else .val (.text (a ++ b))) else .thrown "kind"
  | .int m, .int n => if sg = "<" then .val (.bool (decide (m < n))) else if sg = "+" then great (m + n) else if sg = "-" then great (m - n) else great (m * n)
  | _, _ => .thrown "kind"
def Val.mid : Val → Prop
  | .int n => -2000000000 < n ∧ n < 2000000000
  | .text s => s.length ≤ 100
  | _ => True
def spJoined (K : PySem.W.Frag) (CT : Addr) : Sp := fun vs H Q E => ∃ sg v u d e, vs = [.str sg, v, u] ∧ (sg = "+" ∨ sg = "-" ∨ sg = "*" ∨ sg = "<") ∧ Vl K H v d ∧ Vl K H u e ∧ d.mid ∧ e.mid ∧ (join sg d e).then_ K CT H Q E
/-- tests that change nothing -/
theorem tAnd_ok {t u : TT} {σ : L2.St} {H : Hp} {a b : Bool} {Q : Bool → Hp → Prop} (ht : ∀ Q : Bool → Hp → Prop, Q a H → t σ H Q) (hu : a = true → ∀ Q : Bool → Hp → Prop, Q b H → u σ H Q) (q : Q (a && b) H) : tAnd t u σ H Q := by
  refine ht _ ?_
  cases a with
  | true => exact iteT (hu rfl _ q)
  | false => exact iteF q
theorem tOr_ok {t u : TT} {σ : L2.St} {H : Hp} {a b : Bool} {Q : Bool → Hp → Prop} (ht : ∀ Q : Bool → Hp → Prop, Q a H → t σ H Q) (hu : a = false → ∀ Q : Bool → Hp → Prop, Q b H → u σ H Q) (q : Q (a || b) H) : tOr t u σ H Q := by
  refine ht _ ?_
  cases a with
  | true => exact iteT q
  | false => exact iteF (hu rfl _ q)
def Val.isText : Val → Bool
  | .text _ => true | _ => false
theorem Val.word_text : ∀ d : Val, decide (V.str d.word = V.str "text") = d.isText
  | .int _ => show decide (V.str "int" = V.str "text") = false by decide +kernel
  | .bool _ => show decide (V.str "bool" = V.str "text") = false by decide +kernel
  | .nul => show decide (V.str "null" = V.str "text") = false by decide +kernel
  | .text _ => show decide (V.str "text" = V.str "text") = true by decide +kernel
  | .fn _ => show decide (V.str "fun" = V.str "text") = false by decide +kernel
  | .ref _ => show decide (V.str "ref" = V.str "text") = false by decide +kernel
/-- one[0] == word, as a test -/
theorem test_word {K : PySem.W.Frag} {σ : L2.St} {H : Hp} {i : Nat} {v : V} {d : Val} {x : Str} {b : Bool} (hs : σ[i]? = some (some v)) (hv : Vl K H v d) (hb : decide (V.str d.word = V.str x) = b) (Q : Bool → Hp → Prop) (q : Q b H) :
    tTest (tOp rEq (tOp (rIxT K) (tVar i) (tC (.int 0))) (tC (.str x))) σ H Q := by
  obtain ⟨a, rfl, t⟩ := hv
  exact ⟨.ref a, hs, a, _, 0, .str d.word, rfl, rfl, t.sq, atI_nat (j := 0) rfl, rfl, b, congrArg V.bl hb, q⟩
theorem test_wordN {K : PySem.W.Frag} {σ : L2.St} {H : Hp} {i : Nat} {v : V} {d : Val} {x : Str} {b : Bool} (hs : σ[i]? = some (some v)) (hv : Vl K H v d) (hb : decide (V.str d.word = V.str x) = b) (Q : Bool → Hp → Prop) (q : Q (!b) H) :
    tTest (tOp rNe (tOp (rIxT K) (tVar i) (tC (.int 0))) (tC (.str x))) σ H Q := by
  obtain ⟨a, rfl, t⟩ := hv
  exact ⟨.ref a, hs, a, _, 0, .str d.word, rfl, rfl, t.sq, atI_nat (j := 0) rfl, rfl, !b, congrArg V.bl (by rw [hb]), q⟩
theorem join_kind {sg : Str} {d e : Val} (h1 : (decide (V.str sg = V.str "+") && (d.isText && e.isText)) = false) (h2 : (!d.isInt || !e.isInt) = true) : join sg d e = .thrown "kind" := by
  cases d <;> cases e <;> first
    | rfl
    | (exfalso; simp [Val.isInt] at h2; done)
    | (have h3 : decide (V.str sg = V.str "+") = false := by simpa [Val.isText] using h1
       have h4 : sg ≠ "+" := fun z => by rw [z] at h3; exact absurd (of_decide_eq_false h3) (by simp)
       show (if sg = "+" then _ else Res.thrown "kind") = _
       rw [if_neg h4])
theorem join_int {sg : Str} (m n : Int) : join sg (.int m) (.int n) = (if sg = "<" then .val (.bool (decide (m < n))) else if sg = "+" then great (m + n) else if sg = "-" then great (m - n) else great (m * n)) := rfl
section
variable {P : Program} {w : World} {K : PySem.W.Frag} {mg : Str → Option Value} {base : Heap} {CT fI : Addr}
theorem ok_joined {f : Addr} {fd : FuncData} (F : Fun K "joined" "joined" sJoined f fd) (T : Kd K mg) (B : Th P K mg CT fI) : FnOk P w K mg base (L2.CX P w) 2 f fd ["sign", "one", "two"] (spJoined K CT) := by
  obtain ⟨tl, gl⟩ := T.letters
  obtain ⟨tg, gg⟩ := T.great
  refine F.okX scJoined (fun vs H Q E h => ?_) (fun cdv A outer s H vs Q E hr h => ?_)
  · obtain ⟨sg, v, u, d, e, rfl, _⟩ := h; rfl
  · refine ⟨_, pss_cons (ps_if (PW.pt (pw_and (pt_cmpR op_eq (pv 0) pe_str (nomark _)) (pw_and (pt_cmpR op_eq (pe_ix ix_tup (pv 1) pe_int (fun _ _ => rfl)) pe_str (nomark _)) (pw_and1 (pt_cmpR op_eq (pe_ix ix_tup (pv 2) pe_int (fun _ _ => rfl)) pe_str (nomark _))))))
        (pss_cons (ps_if (pt_cmpR op_gt (pe_op op_add (pe_callB call_len_str (by rfl) B.len PySem.boot_len (pa_cons (pe_ix ix_tup (pv 1) pe_int (fun _ _ => rfl)) pa_nil)) (pe_callB call_len_str (by rfl) B.len PySem.boot_len (pa_cons (pe_ix ix_tup (pv 2) pe_int (fun _ _ => rfl)) pa_nil))) (pe_glob (v := .int 40) (by rfl) gl ⟨tl, rfl⟩) (nomark _))
            (pss_one (ps_raiseVal rfl B.tx ⟨B.sup⟩ B.g hr (takes_of rfl rfl rfl rfl) (pa_cons (pe_tup (pa_cons pe_str (pa_cons pe_str pa_nil))) pa_nil) (by rfl))) pss_nil)
          (pss_one (ps_ret (pe_tup (pa_cons pe_str (pa_cons (pe_op op_add_str (pe_ix ix_tup (pv 1) pe_int (fun _ _ => rfl)) (pe_ix ix_tup (pv 2) pe_int (fun _ _ => rfl))) pa_nil)))))) pss_nil)
      (pss_cons (ps_if (PW.pt (pw_or (pt_cmpR op_ne (pe_ix ix_tup (pv 1) pe_int (fun _ _ => rfl)) pe_str (nomark _)) (pw_or1 (pt_cmpR op_ne (pe_ix ix_tup (pv 2) pe_int (fun _ _ => rfl)) pe_str (nomark _)))))
            (pss_one (ps_raiseVal rfl B.tx ⟨B.sup⟩ B.g hr (takes_of rfl rfl rfl rfl) (pa_cons (pe_tup (pa_cons pe_str (pa_cons pe_str pa_nil))) pa_nil) (by rfl))) pss_nil)
      (pss_cons (ps_if (pt_cmpR op_eq (pv 0) pe_str (nomark _)) (pss_one (ps_ret (pe_tup (pa_cons pe_str (pa_cons (pe_cmpR op_lt (pe_ix ix_tup (pv 1) pe_int (fun _ _ => rfl)) (pe_ix ix_tup (pv 2) pe_int (fun _ _ => rfl)) (nomark _)) pa_nil))))) pss_nil)
      (pss_cons (ps_set (i := 3) scJoined.nd rfl (.inl rfl) (pe_dget (hu_of hr) (pe_disp (pps_cons pe_str (pe_op op_add (pe_ix ix_tup (pv 1) pe_int (fun _ _ => rfl)) (pe_ix ix_tup (pv 2) pe_int (fun _ _ => rfl)))
            (pps_cons pe_str (pe_op op_sub (pe_ix ix_tup (pv 1) pe_int (fun _ _ => rfl)) (pe_ix ix_tup (pv 2) pe_int (fun _ _ => rfl)))
            (pps_cons pe_str (pe_op op_mul (pe_ix ix_tup (pv 1) pe_int (fun _ _ => rfl)) (pe_ix ix_tup (pv 2) pe_int (fun _ _ => rfl))) pps_nil))) (by rfl) (by rfl) (fun z => by cases z) (by decide)) (pv 0) (fun _ _ => rfl)))
      (pss_cons (ps_if (pt_cmpR op_gt (pe_callB call_abs (by rfl) B.abs (by decide +kernel) (pa_cons (pv 3) pa_nil)) (pe_glob (v := .int 1000000000) (by rfl) gg ⟨tg, rfl⟩) (nomark _))
            (pss_one (ps_raiseVal rfl B.tx ⟨B.sup⟩ B.g hr (takes_of rfl rfl rfl rfl) (pa_cons (pe_tup (pa_cons pe_str (pa_cons pe_str pa_nil))) pa_nil) (by rfl))) pss_nil)
      (pss_one (ps_ret (pe_tup (pa_cons pe_str (pa_cons (pv 3) pa_nil))))))))), ?_⟩
    obtain ⟨sg, v, u, d, e, rfl, hsg, hv, hu, md, me, kQ⟩ := h
    have raise : ∀ x : Str, Res.then_ K CT H Q E (.thrown x) → ∀ p, H p = none → ∀ d', upd H p (.tup [.str "text", .str x]) d' = none → E (.ref CT) (some d') (upd (upd H p (.tup [.str "text", .str x])) d' (.xd [(("value" : Str), .ref p)])) :=
      fun x k p np d' nd => k _ d' _ (same_new np) nd ⟨p, rfl, .inl upd_same⟩
    refine tAnd_ok (a := decide (V.str sg = V.str "+")) (b := d.isText && e.isText) (fun Q q => ⟨.str sg, rfl, rfl, _, rfl, q⟩) (fun _ Q q => tAnd_ok (test_word rfl hv d.word_text) (fun _ => test_word rfl hu e.word_text) q) ?_
    cases hb : (decide (V.str sg = V.str "+") && (d.isText && e.isText)) with
    | true =>
      refine iteT ?_
      obtain ⟨h1, h2⟩ := Bool.and_eq_true_iff.mp hb
      obtain ⟨h3, h4⟩ := Bool.and_eq_true_iff.mp h2
      obtain rfl : sg = "+" := V.str.inj (of_decide_eq_true h1)
      cases d with
      | text a =>
        cases e with
        | text b =>
          obtain ⟨av, rfl, ta⟩ := hv
          obtain ⟨bv, rfl, tb⟩ := hu
          have la : a.length ≤ 100 := md
          have lb : b.length ≤ 100 := me
          refine ⟨.ref av, rfl, av, _, 1, .str a, rfl, rfl, ta.sq, atI_nat (j := 1) rfl, a, rfl, by rw [sizeLine_eq]; omega, .ref bv, rfl, bv, _, 1, .str b, rfl, rfl, tb.sq, atI_nat (j := 1) rfl, b, rfl, by rw [sizeLine_eq]; omega, _, _, rfl, rfl, _, 40, rfl, rfl, _, rfl, ite2 (fun c => ?_) (fun c => ?_)⟩
          · have c' : 40 < a.length + b.length := by have := of_decide_eq_true c; omega
            have k : Res.then_ K CT H Q E (.thrown "long") := by
              have z : join "+" (.text a) (.text b) = .thrown "long" := by
                show (if ("+" : Str) = "+" then (if 40 < a.length + b.length then Res.thrown "long" else .val (.text (a ++ b))) else .thrown "kind") = _
                rw [if_pos rfl, if_pos c']
              rw [z] at kQ; exact kQ
            refine ⟨by decide, fun p np => ⟨_, rfl, fun d' nd => raise _ k p np d' nd⟩⟩
          · have c' : ¬ 40 < a.length + b.length := by intro z; exact c (decide_eq_true (by omega))
            have k : Res.then_ K CT H Q E (.val (.text (a ++ b))) := by
              have z : join "+" (.text a) (.text b) = .val (.text (a ++ b)) := by
                show (if ("+" : Str) = "+" then (if 40 < a.length + b.length then Res.thrown "long" else .val (.text (a ++ b))) else .thrown "kind") = _
                rw [if_pos rfl, if_neg c']
              rw [z] at kQ; exact kQ
            refine ⟨.ref av, rfl, av, _, 1, .str a, rfl, rfl, ta.sq, atI_nat (j := 1) rfl, .ref bv, rfl, bv, _, 1, .str b, rfl, rfl, tb.sq, atI_nat (j := 1) rfl, a, b, rfl, rfl, by rw [sizeLine_eq]; omega, by show 2 ≤ sizeLine; decide, fun p np => k _ _ (same_new np) ⟨p, rfl, .inl upd_same⟩⟩
        | _ => cases h4
      | _ => cases h3
    | false =>
      refine iteF ?_
      refine tOr_ok (test_wordN rfl hv d.word_int) (fun _ => test_wordN rfl hu e.word_int) ?_
      cases hc : (!d.isInt || !e.isInt) with
      | true =>
        rw [join_kind hb hc] at kQ
        exact iteT ⟨by decide, fun p np => ⟨_, rfl, fun d' nd => raise _ kQ p np d' nd⟩⟩
      | false =>
        refine iteF ?_
        cases d with
        | int m =>
          cases e with
          | int n =>
            obtain ⟨av, rfl, ta⟩ := hv
            obtain ⟨bv, rfl, tb⟩ := hu
            obtain ⟨m1, m2⟩ : -2000000000 < m ∧ m < 2000000000 := md
            obtain ⟨n1, n2⟩ : -2000000000 < n ∧ n < 2000000000 := me
            rw [join_int] at kQ
            refine ⟨.str sg, rfl, rfl, _, rfl, ite2 (fun c => ?_) (fun c => ?_)⟩
            · obtain rfl : sg = "<" := V.str.inj (of_decide_eq_true c)
              rw [if_pos rfl] at kQ
              exact ⟨.ref av, rfl, av, _, 1, .int m, rfl, rfl, ta.sq, atI_nat (j := 1) rfl, .ref bv, rfl, bv, _, 1, .int n, rfl, rfl, tb.sq, atI_nat (j := 1) rfl, m, n, rfl, rfl, by show 2 ≤ sizeLine; decide, fun p np => kQ _ _ (same_new np) ⟨p, rfl, .inl upd_same⟩⟩
            · have ns : sg ≠ "<" := fun z => c (by rw [z]; exact decide_eq_true rfl)
              rw [if_neg ns] at kQ
              refine fun dd ndd => ?_
              have sm : Same H (upd H dd (.dK [])) := same_new ndd
              have ta' := ta.keep (KeepT.of sm)
              have tb' := tb.keep (KeepT.of sm)
              refine ⟨.ref av, rfl, av, _, 1, .int m, rfl, rfl, ta'.sq, atI_nat (j := 1) rfl, .ref bv, rfl, bv, _, 1, .int n, rfl, rfl, tb'.sq, atI_nat (j := 1) rfl, m, n, rfl, rfl,
                .ref av, rfl, av, _, 1, .int m, rfl, rfl, ta'.sq, atI_nat (j := 1) rfl, .ref bv, rfl, bv, _, 1, .int n, rfl, rfl, tb'.sq, atI_nat (j := 1) rfl, m, n, rfl, rfl,
                .ref av, rfl, av, _, 1, .int m, rfl, rfl, ta'.sq, atI_nat (j := 1) rfl, .ref bv, rfl, bv, _, 1, .int n, rfl, rfl, tb'.sq, atI_nat (j := 1) rfl, m, n, rfl, rfl, .inl ⟨by omega, by omega⟩,
                upd_same, [(Sum.inr "+", .int (m + n)), (Sum.inr "-", .int (m - n)), (Sum.inr "*", .int (m * n))], rfl, (by show 3 ≤ 15; decide), ?_⟩
              have get : ∀ z : Int, valV (mergeK [] [(Sum.inr "+", V.int (m + n)), (Sum.inr "-", V.int (m - n)), (Sum.inr "*", V.int (m * n))]) (Sum.inr sg : Key) = some (V.int z) → (if sg = "+" then great (m + n) else if sg = "-" then great (m - n) else great (m * n)) = great z →
                  ∃ z : Int, valV (mergeK [] [(Sum.inr "+", V.int (m + n)), (Sum.inr "-", V.int (m - n)), (Sum.inr "*", V.int (m * n))]) (Sum.inr sg : Key) = some (V.int z) ∧ (great z).then_ K CT H Q E := fun z e1 e2 => ⟨z, e1, by rw [e2] at kQ; exact kQ⟩
              obtain ⟨z, ez, kz⟩ : ∃ z : Int, valV (mergeK [] [(Sum.inr "+", V.int (m + n)), (Sum.inr "-", V.int (m - n)), (Sum.inr "*", V.int (m * n))]) (Sum.inr sg : Key) = some (V.int z) ∧ (great z).then_ K CT H Q E := by
                rcases hsg with rfl | rfl | rfl | rfl
                · exact get (m + n) (by rfl) (by rw [if_pos rfl])
                · exact get (m - n) (by rfl) (by rw [if_neg (by decide), if_pos rfl])
                · exact get (m * n) (by rfl) (by rw [if_neg (by decide), if_neg (by decide)])
                · exact absurd rfl ns
              refine ⟨.str sg, rfl, dd, .int z, rfl, ?_, ?_⟩
              · rw [← ez]
                exact DGet.k (k := Sum.inr sg) upd_same
              refine ⟨_, rfl, z, rfl, _, 1000000000, rfl, rfl, _, rfl, ite2 (fun c => ?_) (fun c => ?_)⟩
              · have c' : 1000000000 < (if z < 0 then -z else z) := of_decide_eq_true c
                have g : great z = .thrown "great" := if_pos c'
                rw [g] at kz
                refine ⟨by decide, fun p np => ⟨_, rfl, fun d' nd => kz _ d' _ (fun b o q => same_new np b o (same_put sm ndd b o q)) nd ⟨p, rfl, .inl upd_same⟩⟩⟩
              · have g : great z = .val (.int z) := if_neg (fun q => c (decide_eq_true q))
                rw [g] at kz
                refine ⟨_, rfl, by show 2 ≤ sizeLine; decide, fun p np => kz _ _ (fun b o q => same_new np b o (same_put sm ndd b o q)) ⟨p, rfl, .inl upd_same⟩⟩
          | _ => cases hc
        | _ => cases hc
end
end My
namespace My
open PySem PySem.Spec PyProof.Rows L2
theorem iteF' {b : Bool} {p q : Prop} (e : b = false) (h : q) : if b = true then p else q := by subst e; rw [if_neg (by decide)]; exact h
theorem iteT' {b : Bool} {p q : Prop} (e : b = true) (h : p) : if b = true then p else q := by subst e; rw [if_pos rfl]; exact h
/-- the things of which a world is made -/
inductive Lab
  | inst | own | shapes | kinds | children | widened | cells | printed | cell (i : Nat) | vals (i : Nat)
deriving DecidableEq
/-- a shape, and the tuple that tells it -/
structure Sh where
  v : V
  frm : Option (Nat × Str)
  slot : Int
def Sh.enc (s : Sh) : List V := match s.frm with
  | none => [.non, .non, .int s.slot]
  | some (p, x) => [.int (p : Int), .str x, .int s.slot]
abbrev VV := V × Val
inductive Cell
  | obj (sh : Nat) (vs : List VV) | lst (vs : List VV)
def Cell.vs : Cell → List VV
  | .obj _ vs => vs | .lst vs => vs
def Cell.word : Cell → Str
  | .obj _ _ => "object" | .lst _ => "list"
def Cell.con (L : Lab → Addr) (i : Nat) : Cell → HO
  | .obj sh _ => .lst [.str "object", .int (sh : Int), .ref (L (.vals i))]
  | .lst _ => .lst [.str "list", .ref (L (.vals i))]
/-- what a world holds -/
structure WS where
  shapes : List Sh
  small : List Bool
  kids : List ((Nat × Str) × Nat)
  widened : List Nat
  cells : List Cell
  printed : List Str
def kw (b : Bool) : Str := if b then "small" else "any"
def kidKey (e : (Nat × Str) × Nat) : List Key × V := ([Sum.inl (e.1.1 : Int), Sum.inr e.1.2], .int (e.2 : Int))
def cellsD (L : Lab → Addr) (n : Nat) : List (Key × V) := (List.range n).map fun (i : Nat) => ((Sum.inl (i : Int) : Key), V.ref (L (.cell i)))
def flds (L : Lab → Addr) (n : Nat) : List (Str × V) :=
  [("shapes", .ref (L .shapes)), ("kinds", .ref (L .kinds)), ("children", .ref (L .children)), ("widened", .ref (L .widened)), ("cells", .ref (L .cells)), ("fresh", .int (n : Int)), ("printed", .ref (L .printed))]
def con (C : Addr) (L : Lab → Addr) (R : WS) : Lab → HO
  | .inst => .ins C (L .own) (flds L R.cells.length)
  | .own => .own (L .inst)
  | .shapes => .lst (R.shapes.map (·.v))
  | .kinds => .lst (R.small.map fun b => .str (kw b))
  | .children => .dT (R.kids.map kidKey)
  | .widened => .lst (R.widened.map fun (n : Nat) => V.int (n : Int))
  | .cells => .dK (cellsD L R.cells.length)
  | .printed => .lst (R.printed.map V.str)
  | .cell i => match R.cells[i]? with | some c => c.con L i | none => .lst []
  | .vals i => match R.cells[i]? with | some c => .lst (c.vs.map (·.1)) | none => .lst []
def live (n : Nat) : Lab → Prop
  | .cell i => i < n | .vals i => i < n | _ => True
structure WorldAt (K : PySem.W.Frag) (C : Addr) (H : Hp) (L : Lab → Addr) (R : WS) : Prop where
  at_ : ∀ l, live R.cells.length l → H (L l) = some (con C L R l)
  inj : ∀ l m, live R.cells.length l → live R.cells.length m → L l = L m → l = m
  sh : ∀ s ∈ R.shapes, ∃ a, s.v = .ref a ∧ TupAt K H a s.enc
  vs : ∀ c ∈ R.cells, ∀ p ∈ c.vs, Vl K H p.1 p.2
theorem con_notup {C : Addr} {L : Lab → Addr} {R : WS} (l : Lab) (xs : List V) : con C L R l ≠ .tup xs := by
  cases l <;> intro h <;> simp only [con] at h <;> first
    | (cases h; done)
    | (split at h
       · rename_i c hc
         first
         | (cases c <;> simp [Cell.con] at h; done)
         | (simp at h; done)
       · cases h)
theorem WorldAt.keep {K : PySem.W.Frag} {C : Addr} {H H' : Hp} {L : Lab → Addr} {R : WS} (h : WorldAt K C H L R) (k : ∀ l, live R.cells.length l → H' (L l) = H (L l)) (t : KeepT H H') : WorldAt K C H' L R :=
  ⟨fun l hl => by rw [k l hl]; exact h.at_ l hl, h.inj, fun s hs => by obtain ⟨a, e, q⟩ := h.sh s hs; exact ⟨a, e, q.keep t⟩, fun c hc p hp => (h.vs c hc p hp).keep t⟩
theorem WorldAt.same {K : PySem.W.Frag} {C : Addr} {H H' : Hp} {L : Lab → Addr} {R : WS} (h : WorldAt K C H L R) (s : Same H H') : WorldAt K C H' L R :=
  h.keep (fun l hl => by rw [h.at_ l hl]; exact s _ _ (h.at_ l hl)) (KeepT.of s)
/-- one thing of the world changes -/
theorem WorldAt.tup_put {K : PySem.W.Frag} {C : Addr} {H : Hp} {L : Lab → Addr} {R : WS} (h : WorldAt K C H L R) {l : Lab} (hl : live R.cells.length l) (o : HO) : KeepT H (upd H (L l) o) := fun b xs e => by
  by_cases z : b = L l
  · subst z
    rw [h.at_ l hl] at e
    exact absurd (Option.some.inj e) (con_notup l xs)
  · rw [upd_ne z]; exact e
theorem WorldAt.put {K : PySem.W.Frag} {C : Addr} {H : Hp} {L : Lab → Addr} {R R' : WS} (h : WorldAt K C H L R) {l : Lab} (hl : live R.cells.length l) {o : HO} (hn : R'.cells.length = R.cells.length)
    (e1 : con C L R' l = o) (e2 : ∀ m, m ≠ l → live R.cells.length m → con C L R' m = con C L R m)
    (sh : ∀ s ∈ R'.shapes, ∃ a, s.v = .ref a ∧ TupAt K H a s.enc) (vs : ∀ c ∈ R'.cells, ∀ p ∈ c.vs, Vl K H p.1 p.2) : WorldAt K C (upd H (L l) o) L R' := by
  have t := h.tup_put hl o
  refine ⟨fun m hm => ?_, fun a b ha hb => h.inj a b (by rw [← hn]; exact ha) (by rw [← hn]; exact hb), fun s hs => by obtain ⟨a, e, q⟩ := sh s hs; exact ⟨a, e, q.keep t⟩, fun c hc p hp => (vs c hc p hp).keep t⟩
  rw [hn] at hm
  by_cases z : m = l
  · subst z; rw [upd_same, e1]
  · rw [upd_ne (fun q => z (h.inj m l hm hl q)), h.at_ m hm, e2 m z hm]
/-- what stands outside of the world stands still -/
def Kept (n : Nat) (L : Lab → Addr) (H H' : Hp) : Prop := ∀ q o, H q = some o → (∀ l, live n l → L l ≠ q) → H' q = some o
theorem Kept.of {n : Nat} {L : Lab → Addr} {H H' : Hp} (s : Same H H') : Kept n L H H' := fun q o e _ => s q o e
theorem Kept.put {n : Nat} {L : Lab → Addr} {H H' : Hp} (k : Kept n L H H') {l : Lab} (hl : live n l) (o : HO) : Kept n L H (upd H' (L l) o) := fun q u e h => by
  rw [upd_ne (fun z => h l hl z.symm)]; exact k q u e h
theorem Kept.trans {n : Nat} {L : Lab → Addr} {H H1 H2 : Hp} (a : Kept n L H H1) (b : Kept n L H1 H2) : Kept n L H H2 := fun q o e h => b q o (a q o e h) h
theorem Kept.same {n : Nat} {L : Lab → Addr} {H H1 H2 : Hp} (a : Kept n L H H1) (b : Same H1 H2) : Kept n L H H2 := fun q o e h => b q o (a q o e h)
theorem Kept.tups {K : PySem.W.Frag} {C : Addr} {H H' : Hp} {L : Lab → Addr} {R : WS} (h : WorldAt K C H L R) (k : Kept R.cells.length L H H') : KeepT H H' := fun b xs e =>
  k b _ e fun l hl z => by subst z; rw [h.at_ l hl] at e; exact absurd (Option.some.inj e) (con_notup l xs)
/-! ### the fields -/
theorem lk_hit {a : Str} {v : V} {t : List (Str × V)} : List.lookup a ((a, v) :: t) = some v := by simp [List.lookup]
theorem lk_skip {a b : Str} {v : V} {t : List (Str × V)} (h : (a == b) = false) : List.lookup a ((b, v) :: t) = List.lookup a t := by simp [List.lookup, h]
section
variable {L : Lab → Addr} {n : Nat}
theorem f_shapes : (flds L n).lookup ("shapes" : Str) = some (.ref (L .shapes)) := lk_hit
theorem f_kinds : (flds L n).lookup ("kinds" : Str) = some (.ref (L .kinds)) := by unfold flds; rw [lk_skip (by decide +kernel), lk_hit]
theorem f_children : (flds L n).lookup ("children" : Str) = some (.ref (L .children)) := by unfold flds; rw [lk_skip (by decide +kernel), lk_skip (by decide +kernel), lk_hit]
theorem f_widened : (flds L n).lookup ("widened" : Str) = some (.ref (L .widened)) := by unfold flds; rw [lk_skip (by decide +kernel), lk_skip (by decide +kernel), lk_skip (by decide +kernel), lk_hit]
theorem f_cells : (flds L n).lookup ("cells" : Str) = some (.ref (L .cells)) := by unfold flds; rw [lk_skip (by decide +kernel), lk_skip (by decide +kernel), lk_skip (by decide +kernel), lk_skip (by decide +kernel), lk_hit]
theorem f_fresh : (flds L n).lookup ("fresh" : Str) = some (.int (n : Int)) := by unfold flds; rw [lk_skip (by decide +kernel), lk_skip (by decide +kernel), lk_skip (by decide +kernel), lk_skip (by decide +kernel), lk_skip (by decide +kernel), lk_hit]
theorem f_printed : (flds L n).lookup ("printed" : Str) = some (.ref (L .printed)) := by
  unfold flds; rw [lk_skip (by decide +kernel), lk_skip (by decide +kernel), lk_skip (by decide +kernel), lk_skip (by decide +kernel), lk_skip (by decide +kernel), lk_skip (by decide +kernel), lk_hit]
theorem f_no {m : Str} (h : ((["shapes", "kinds", "children", "widened", "cells", "fresh", "printed"] : List Str).all fun x => !(m == x)) = true) : (flds L n).lookup m = none := by
  simp only [List.all_cons, List.all_nil, Bool.and_true, Bool.and_eq_true, Bool.not_eq_true'] at h
  obtain ⟨h1, h2, h3, h4, h5, h6, h7⟩ := h
  unfold flds
  rw [lk_skip h1, lk_skip h2, lk_skip h3, lk_skip h4, lk_skip h5, lk_skip h6, lk_skip h7]
  rfl
theorem f_put (z : Int) : putF "fresh" (.int z) (flds L n) = ([("shapes", V.ref (L .shapes)), ("kinds", .ref (L .kinds)), ("children", .ref (L .children)), ("widened", .ref (L .widened)), ("cells", .ref (L .cells)), ("fresh", .int z), ("printed", .ref (L .printed))] : List (Str × V)) := by
  unfold flds
  simp only [putF]
  rw [if_neg (by decide +kernel), if_neg (by decide +kernel), if_neg (by decide +kernel), if_neg (by decide +kernel), if_neg (by decide +kernel), if_pos trivial]
end
/-- what the walk asks of the class World -/
structure WT (K : PySem.W.Frag) (mg : Str → Option Value) (C : Addr) : Prop where
  cl : Cls K C
  nShapes : NoAttr K C "shapes"
  nKinds : NoAttr K C "kinds"
  nChildren : NoAttr K C "children"
  nWidened : NoAttr K C "widened"
  nCells : NoAttr K C "cells"
  nFresh : NoAttr K C "fresh"
  nPrinted : NoAttr K C "printed"
  g : mg "World" = some (.ref C)
/-- the cells by their numbers -/
theorem valV_cells {L : Lab → Addr} : ∀ {n i : Nat}, i < n → valV (cellsD L n) (Sum.inl (i : Int)) = some (.ref (L (.cell i)))
  | 0, i, h => absurd h (Nat.not_lt_zero i)
  | n + 1, i, h => by
    have e : cellsD L (n + 1) = cellsD L n ++ [(Sum.inl (n : Int), V.ref (L (.cell n)))] := by unfold cellsD; rw [List.range_succ, List.map_append]; rfl
    have nn : valV (cellsD L n) (Sum.inl (n : Int)) = none := by
      unfold valV cellsD
      have q : ((List.range n).map fun (i : Nat) => ((Sum.inl (i : Int) : Key), V.ref (L (.cell i)))).find? (fun kv => decide (kv.1 = Sum.inl (n : Int))) = none := by
        rw [List.find?_eq_none]
        intro x hx
        obtain ⟨j, hj, rfl⟩ := List.mem_map.mp hx
        have := List.mem_range.mp hj
        simp
        omega
      rw [q]; rfl
    rw [e, valV_snoc _ _ _ _ nn]
    by_cases z : i = n
    · subst z; rw [if_pos rfl]
    · rw [if_neg (by intro q; injection q with q; omega)]
      exact valV_cells (by omega)
theorem ixN_nat {n j : Nat} (hj : j < n) : ixN n (j : Int) = some j := by
  unfold ixN
  rw [if_pos (by omega), if_pos (by omega)]
  simp
/-! ### cells -/
def WS.setCell (R : WS) (i : Nat) (c : Cell) : WS := { R with cells := R.cells.set i c }
theorem lt_of {α : Type} {xs : List α} {i : Nat} {c : α} (h : xs[i]? = some c) : i < xs.length := (List.getElem?_eq_some_iff.mp h).1
section
variable {K : PySem.W.Frag} {C : Addr} {H : Hp} {L : Lab → Addr} {R : WS}
theorem WorldAt.cellL (W : WorldAt K C H L R) {i : Nat} {c : Cell} (hc : R.cells[i]? = some c) : H (L (.cell i)) = some (c.con L i) := by
  have z := W.at_ (.cell i) (lt_of hc)
  simp only [con, hc] at z
  exact z
theorem WorldAt.valsL (W : WorldAt K C H L R) {i : Nat} {c : Cell} (hc : R.cells[i]? = some c) : H (L (.vals i)) = some (.lst (c.vs.map (·.1))) := by
  have z := W.at_ (.vals i) (lt_of hc)
  simp only [con, hc] at z
  exact z
theorem setCell_get {i j : Nat} {c : Cell} (hi : i < R.cells.length) : (R.setCell i c).cells[j]? = if i = j then some c else R.cells[j]? := by
  show (R.cells.set i c)[j]? = _
  rw [List.getElem?_set]
  by_cases z : i = j
  · subst z; rw [if_pos rfl, if_pos rfl, if_pos hi]
  · rw [if_neg z, if_neg z]
theorem con_setCell {i : Nat} {c c' : Cell} (hc : R.cells[i]? = some c) (m : Lab) (h1 : m = .cell i → c'.con L i = c.con L i) (h2 : m = .vals i → c'.vs.map (·.1) = c.vs.map (·.1)) : con C L (R.setCell i c') m = con C L R m := by
  have hl : (R.setCell i c').cells.length = R.cells.length := List.length_set
  cases m with
  | inst => show HO.ins _ _ (flds L (R.setCell i c').cells.length) = _; rw [hl]; rfl
  | cells => show HO.dK (cellsD L (R.setCell i c').cells.length) = _; rw [hl]; rfl
  | cell j =>
    simp only [con, setCell_get (lt_of hc)]
    by_cases z : i = j
    · subst z; rw [if_pos rfl, hc]; exact h1 rfl
    · rw [if_neg z]
  | vals j =>
    simp only [con, setCell_get (lt_of hc)]
    by_cases z : i = j
    · subst z; rw [if_pos rfl, hc]; show HO.lst _ = HO.lst _; rw [h2 rfl]
    · rw [if_neg z]
  | _ => rfl
theorem setCell_vs {i : Nat} {c' : Cell} {G : VV → Prop} (h : ∀ c ∈ R.cells, ∀ p ∈ c.vs, G p) (h' : ∀ p ∈ c'.vs, G p) : ∀ c ∈ (R.setCell i c').cells, ∀ p ∈ c.vs, G p := fun c hc p hp => by
  rcases List.mem_or_eq_of_mem_set hc with z | z
  · exact h c z p hp
  · subst z; exact h' p hp
theorem WorldAt.putVals (W : WorldAt K C H L R) {i : Nat} {c c' : Cell} {xs : List V} (hc : R.cells[i]? = some c) (e : c'.con L i = c.con L i) (hx : c'.vs.map (·.1) = xs) (hv : ∀ p ∈ c'.vs, Vl K H p.1 p.2) : WorldAt K C (upd H (L (.vals i)) (.lst xs)) L (R.setCell i c') := by
  refine W.put (l := .vals i) (lt_of hc) List.length_set ?_ (fun m hm _ => con_setCell hc m (fun _ => e) (fun z => absurd z hm)) W.sh (setCell_vs W.vs hv)
  simp only [con, setCell_get (lt_of hc), if_pos]
  rw [hx]
theorem WorldAt.putCell (W : WorldAt K C H L R) {i : Nat} {c c' : Cell} {xs : List V} (hc : R.cells[i]? = some c) (e : c'.vs = c.vs) (hx : c'.con L i = .lst xs) : WorldAt K C (upd H (L (.cell i)) (.lst xs)) L (R.setCell i c') := by
  refine W.put (l := .cell i) (lt_of hc) List.length_set ?_ (fun m hm _ => con_setCell hc m (fun z => absurd z hm) (fun _ => by rw [e])) W.sh (setCell_vs W.vs fun p hp => W.vs c (List.mem_of_getElem? hc) p (by rw [e] at hp; exact hp))
  simp only [con, setCell_get (lt_of hc), if_pos]
  exact hx
end
def WS.kindOf (R : WS) : Val → Str
  | .ref n => ((R.cells[n.toNat]?).map Cell.word).getD ""
  | d => d.word
def Val.In (R : WS) (d : Val) : Prop := ∀ n, d = .ref n → ∃ i c, n = ((i : Nat) : Int) ∧ R.cells[i]? = some c
theorem kindOf_ref {R : WS} {i : Nat} {c : Cell} (hc : R.cells[i]? = some c) : R.kindOf (.ref (i : Int)) = c.word := by
  show ((R.cells[((i : Nat) : Int).toNat]?).map Cell.word).getD "" = _
  rw [Int.toNat_natCast, hc]; rfl
end My
namespace My
open PySem PySem.Spec PyProof.Rows L2
abbrev sW (j : Nat) : Stmt := inClass (topS 15) j
/-- how a def of the module is called, how a method is -/
structure Fc (K : PySem.W.Frag) (mg : Str → Option Value) (x : Str) (f : Addr) (fd : FuncData) (ps : List Str) : Prop where
  g : mg x = some (.ref f)
  kp : PySem.W.keepIn K (.ref f) = true
  b : Binds K fd ps []
structure Mc (K : PySem.W.Frag) (C : Addr) (m : Str) (f : Addr) (fd : FuncData) (ps : List Str) : Prop where
  m : Meth K C m f
  b : Binds K fd ps []
theorem scNote : FnScope ["self", "shape", "value"] ["self", "shape", "value"] (defScope (sW 6)) := ⟨rfl, rfl, rfl, by decide +kernel, rfl, by decide +kernel, by decide +kernel⟩
def WS.note (R : WS) (i : Nat) (d : Val) : WS := if R.small[i]? = some true ∧ d.small = false then { R with small := R.small.set i false, widened := R.widened ++ [i] } else R
def spNote (K : PySem.W.Frag) (C : Addr) : Sp := fun vs H Q _ => ∃ (L : Lab → Addr) (R : WS) (i : Nat) (v : V) (d : Val), vs = [.ref (L .inst), .int (i : Int), v] ∧ WorldAt K C H L R ∧ i < R.small.length ∧ Vl K H v d ∧ R.widened.length < 1000 ∧
  ∀ H', WorldAt K C H' L (R.note i d) → Kept R.cells.length L H H' → Q .non H'
theorem kw_small : ∀ b : Bool, decide (V.str (kw b) = V.str "small") = b
  | true => show decide (V.str "small" = V.str "small") = true by decide +kernel
  | false => show decide (V.str "any" = V.str "small") = false by decide +kernel
section
variable {P : Program} {w : World} {K : PySem.W.Frag} {mg : Str → Option Value} {base : Heap} {C : Addr}
theorem ok_note {f fS : Addr} {fd fdS : FuncData} (F : Fun K "note" "World.note" (sW 6) f fd) (T : WT K mg C) (GS : FnOk P w K mg base CX0 1 fS fdS ["value"] (spSmall K)) (cS : Fc K mg "is_small" fS fdS ["value"]) :
    FnOk P w K mg base CX0 2 f fd ["self", "shape", "value"] (spNote K C) := by
  refine F.ok scNote (fun vs H Q E h => ?_) (fun cdv A outer s H vs Q E hr h => ?_)
  · obtain ⟨L, R, i, v, d, rfl, _⟩ := h; rfl
  · refine ⟨_, pss_one (ps_if (PW.pt (pw_and (pt_cmpR op_eq (pe_ix ix_list (pe_fld (pv 0) rfl) (pv 1) (fun _ _ => rfl)) pe_str (nomark _)) (pw_and1 (pt_not (pt_val (pe_call GS hr rfl cS.g cS.kp cS.b .nil pass0 (pa_cons (pv 2) pa_nil)))))))
      (pss_cons (ps_asg pe_str (pg_sub (pe_fld (pv 0) rfl) (pv 1) set_list)) (pss_one (ps_expr (pe_bm PySem.F.plainAttrs_list PySem.F.slot_list_append PySem.F.type_list_append mt_append (pe_fld (pv 0) rfl) (pa_cons (pv 1) pa_nil))))) pss_nil), ?_⟩
    obtain ⟨L, R, i, v, d, rfl, W, hi, hv, hw, kQ⟩ := h
    have gi : (R.small.map fun b => V.str (kw b))[i]? = some (.str (kw R.small[i])) := by rw [List.getElem?_map, List.getElem?_eq_getElem hi]; rfl
    refine tAnd_ok (a := R.small[i]) (b := !d.small) (fun Q q => ⟨_, rfl, L .inst, C, L .own, _, _, rfl, W.at_ .inst trivial, T.cl, T.nKinds, f_kinds, _, rfl, L .kinds, _, (i : Int), _, rfl, rfl, SqL.of (W.at_ .kinds trivial), atI_nat gi, rfl, _, congrArg V.bl (kw_small _), q⟩)
      (fun _ Q q => ⟨v, rfl, v, d, rfl, hv, d.small, rfl, q⟩) ?_
    cases hb : (R.small[i] && !d.small) with
    | false =>
      refine iteF ?_
      have e : R.note i d = R := by
        refine if_neg fun z => ?_
        obtain ⟨z1, z2⟩ := z
        rw [List.getElem?_eq_getElem hi] at z1
        rw [Option.some.inj z1, z2] at hb
        cases hb
      rw [e] at kQ
      exact kQ H W (Kept.of fun _ _ z => z)
    | true =>
      refine iteT ?_
      obtain ⟨z1, z2⟩ := Bool.and_eq_true_iff.mp hb
      have z3 : d.small = false := by cases q : d.small; rfl; rw [q] at z2; cases z2
      have e : R.note i d = { R with small := R.small.set i false, widened := R.widened ++ [i] } := if_pos ⟨by rw [List.getElem?_eq_getElem hi, z1], z3⟩
      rw [e] at kQ
      let R1 : WS := { R with small := R.small.set i false }
      have W1 : WorldAt K C (upd H (L .kinds) (.lst ((R.small.map fun b => V.str (kw b)).set i (.str "any")))) L R1 := by
        refine W.put (l := .kinds) trivial rfl ?_ (fun m hm _ => ?_) W.sh W.vs
        · show HO.lst ((R.small.set i false).map fun b => V.str (kw b)) = _
          rw [List.map_set]; rfl
        · cases m <;> first | rfl | exact absurd rfl hm
      refine ⟨_, rfl, L .inst, C, L .own, _, _, rfl, W.at_ .inst trivial, T.cl, T.nKinds, f_kinds, _, rfl, L .kinds, _, (i : Int), i, rfl, rfl, W.at_ .kinds trivial, ?_, ?_⟩
      · exact ixN_nat (by rw [List.length_map]; exact hi)
      refine ⟨_, rfl, L .inst, C, L .own, _, _, rfl, W1.at_ .inst trivial, T.cl, T.nWidened, f_widened, .inl ⟨rfl, _, SqL.of (W1.at_ .widened trivial)⟩, _, rfl, _, _, _, rfl, rfl, W1.at_ .widened trivial, ?_, ?_⟩
      · rw [List.length_map]
        have : R1.widened.length < 1000 := hw
        unfold sizeLine
        omega
      refine kQ _ (W1.put (l := .widened) (R' := { R with small := R.small.set i false, widened := R.widened ++ [i] }) trivial rfl ?_ (fun m hm _ => ?_) W1.sh W1.vs) (Kept.put (Kept.put (Kept.of fun _ _ z => z) (l := .kinds) trivial _) (l := .widened) trivial _)
      · show HO.lst ((R.widened ++ [i]).map fun (n : Nat) => V.int (n : Int)) = _
        rw [List.map_append]; rfl
      · cases m <;> first | rfl | exact absurd rfl hm
end
end My
namespace My
open PySem PySem.Spec PyProof.Rows L2
theorem scCell : FnScope ["self", "value"] ["self", "value"] (defScope (sW 8)) := ⟨rfl, rfl, rfl, by decide +kernel, rfl, by decide +kernel, by decide +kernel⟩
theorem scLoad : FnScope ["self", "value", "k"] ["self", "value", "k"] (defScope (sW 12)) := ⟨rfl, rfl, rfl, by decide +kernel, rfl, by decide +kernel, by decide +kernel⟩
theorem scItem : FnScope ["self", "value", "i"] ["self", "value", "i"] (defScope (sW 15)) := ⟨rfl, rfl, rfl, by decide +kernel, rfl, by decide +kernel, by decide +kernel⟩
theorem scSetitem : FnScope ["self", "value", "i", "told"] ["self", "value", "i", "told"] (defScope (sW 16)) := ⟨rfl, rfl, rfl, by decide +kernel, rfl, by decide +kernel, by decide +kernel⟩
theorem scLength : FnScope ["self", "value"] ["self", "value"] (defScope (sW 17)) := ⟨rfl, rfl, rfl, by decide +kernel, rfl, by decide +kernel, by decide +kernel⟩
theorem scAppend : FnScope ["self", "value", "told"] ["self", "value", "told"] (defScope (sW 18)) := ⟨rfl, rfl, rfl, by decide +kernel, rfl, by decide +kernel, by decide +kernel⟩
def spCell (K : PySem.W.Frag) (C : Addr) : Sp := fun vs H Q _ => ∃ (L : Lab → Addr) (R : WS) (i : Nat) (v : V), vs = [.ref (L .inst), v] ∧ WorldAt K C H L R ∧ i < R.cells.length ∧ Vl K H v (.ref (i : Int)) ∧ Q (.ref (L (.cell i))) H
def spLoad (K : PySem.W.Frag) (C : Addr) : Sp := fun vs H Q _ => ∃ (L : Lab → Addr) (R : WS) (i : Nat) (v : V) (sh k : Nat) (ps : List VV) (p : VV), vs = [.ref (L .inst), v, .int (k : Int)] ∧ WorldAt K C H L R ∧ Vl K H v (.ref (i : Int)) ∧ R.cells[i]? = some (.obj sh ps) ∧ ps[k]? = some p ∧ Q p.1 H
def spItem (K : PySem.W.Frag) (C : Addr) : Sp := fun vs H Q _ => ∃ (L : Lab → Addr) (R : WS) (i : Nat) (v : V) (k : Nat) (ps : List VV) (p : VV), vs = [.ref (L .inst), v, .int (k : Int)] ∧ WorldAt K C H L R ∧ Vl K H v (.ref (i : Int)) ∧ R.cells[i]? = some (.lst ps) ∧ ps[k]? = some p ∧ Q p.1 H
def spSetitem (K : PySem.W.Frag) (C : Addr) : Sp := fun vs H Q _ => ∃ (L : Lab → Addr) (R : WS) (i : Nat) (v : V) (k : Nat) (ps : List VV) (p : VV), vs = [.ref (L .inst), v, .int (k : Int), p.1] ∧ WorldAt K C H L R ∧ Vl K H v (.ref (i : Int)) ∧ R.cells[i]? = some (.lst ps) ∧ k < ps.length ∧ Vl K H p.1 p.2 ∧
  ∀ H', WorldAt K C H' L (R.setCell i (.lst (ps.set k p))) → Kept R.cells.length L H H' → Q .non H'
def spLength (K : PySem.W.Frag) (C : Addr) : Sp := fun vs H Q _ => ∃ (L : Lab → Addr) (R : WS) (i : Nat) (v : V) (ps : List VV), vs = [.ref (L .inst), v] ∧ WorldAt K C H L R ∧ Vl K H v (.ref (i : Int)) ∧ R.cells[i]? = some (.lst ps) ∧ Q (.int (ps.length : Int)) H
def spAppend (K : PySem.W.Frag) (C : Addr) : Sp := fun vs H Q _ => ∃ (L : Lab → Addr) (R : WS) (i : Nat) (v : V) (ps : List VV) (p : VV), vs = [.ref (L .inst), v, p.1] ∧ WorldAt K C H L R ∧ Vl K H v (.ref (i : Int)) ∧ R.cells[i]? = some (.lst ps) ∧ ps.length < 40000 ∧ Vl K H p.1 p.2 ∧
  ∀ H', WorldAt K C H' L (R.setCell i (.lst (ps ++ [p]))) → Kept R.cells.length L H H' → Q .non H'
theorem get_fst {ps : List VV} {k : Nat} {p : VV} (h : ps[k]? = some p) : (ps.map (·.1))[k]? = some p.1 := by rw [List.getElem?_map, h]; rfl
section
variable {P : Program} {w : World} {K : PySem.W.Frag} {mg : Str → Option Value} {base : Heap} {C : Addr}
theorem ok_cell {f : Addr} {fd : FuncData} (F : Fun K "cell" "World.cell" (sW 8) f fd) (T : WT K mg C) : FnOk P w K mg base CX0 1 f fd ["self", "value"] (spCell K C) := by
  refine F.ok scCell (fun vs H Q E h => ?_) (fun cdv A outer s H vs Q E hr h => ?_)
  · obtain ⟨L, R, i, v, rfl, _⟩ := h; rfl
  · refine ⟨_, pss_one (ps_ret (pe_dget (hu_of hr) (pe_fld (pv 0) rfl) (pe_ix ix_tup (pv 1) pe_int (fun _ _ => rfl)) (fun _ _ => rfl))), ?_⟩
    obtain ⟨L, R, i, v, rfl, W, hi, ⟨a, rfl, t⟩, kQ⟩ := h
    refine ⟨_, rfl, L .inst, C, L .own, _, _, rfl, W.at_ .inst trivial, T.cl, T.nCells, f_cells, .ref a, rfl, a, _, 1, .int (i : Int), rfl, rfl, t.sq, atI_nat (j := 1) rfl, L .cells, .ref (L (.cell i)), rfl, ?_, kQ⟩
    rw [← valV_cells (L := L) hi]
    exact DGet.k (k := Sum.inl (i : Int)) (W.at_ .cells trivial)
theorem ok_load {f fC : Addr} {fd fdC : FuncData} (F : Fun K "load" "World.load" (sW 12) f fd) (T : WT K mg C) (GC : FnOk P w K mg base CX0 1 fC fdC ["self", "value"] (spCell K C)) (cC : Mc K C "cell" fC fdC ["self", "value"]) :
    FnOk P w K mg base CX0 2 f fd ["self", "value", "k"] (spLoad K C) := by
  refine F.ok scLoad (fun vs H Q E h => ?_) (fun cdv A outer s H vs Q E hr h => ?_)
  · obtain ⟨L, R, i, v, sh, k, ps, p, rfl, _⟩ := h; rfl
  · refine ⟨_, pss_one (ps_ret (pe_ix ix_list (pe_ix ix_list (pe_meth (pv 0) T.cl cC.m GC hr cC.b .nil pass0 (pa_cons (pv 1) pa_nil)) pe_int (fun _ _ => rfl)) (pv 2) (fun _ _ => rfl))), ?_⟩
    obtain ⟨L, R, i, v, sh, k, ps, p, rfl, W, hv, hc, hp, kQ⟩ := h
    exact ⟨_, rfl, L .inst, L .own, _, rfl, W.at_ .inst trivial, f_no (by decide +kernel), v, rfl, L, R, i, v, rfl, W, lt_of hc, hv, L (.cell i), _, 2, .ref (L (.vals i)), rfl, rfl, SqL.of (W.cellL hc), atI_nat (j := 2) rfl, _, rfl, L (.vals i), _, (k : Int), p.1, rfl, rfl, SqL.of (W.valsL hc), atI_nat (get_fst hp), kQ⟩
theorem ok_item {f fC : Addr} {fd fdC : FuncData} (F : Fun K "item" "World.item" (sW 15) f fd) (T : WT K mg C) (GC : FnOk P w K mg base CX0 1 fC fdC ["self", "value"] (spCell K C)) (cC : Mc K C "cell" fC fdC ["self", "value"]) :
    FnOk P w K mg base CX0 2 f fd ["self", "value", "i"] (spItem K C) := by
  refine F.ok scItem (fun vs H Q E h => ?_) (fun cdv A outer s H vs Q E hr h => ?_)
  · obtain ⟨L, R, i, v, k, ps, p, rfl, _⟩ := h; rfl
  · refine ⟨_, pss_one (ps_ret (pe_ix ix_list (pe_ix ix_list (pe_meth (pv 0) T.cl cC.m GC hr cC.b .nil pass0 (pa_cons (pv 1) pa_nil)) pe_int (fun _ _ => rfl)) (pv 2) (fun _ _ => rfl))), ?_⟩
    obtain ⟨L, R, i, v, k, ps, p, rfl, W, hv, hc, hp, kQ⟩ := h
    exact ⟨_, rfl, L .inst, L .own, _, rfl, W.at_ .inst trivial, f_no (by decide +kernel), v, rfl, L, R, i, v, rfl, W, lt_of hc, hv, L (.cell i), _, 1, .ref (L (.vals i)), rfl, rfl, SqL.of (W.cellL hc), atI_nat (j := 1) rfl, _, rfl, L (.vals i), _, (k : Int), p.1, rfl, rfl, SqL.of (W.valsL hc), atI_nat (get_fst hp), kQ⟩
theorem ok_setitem {f fC : Addr} {fd fdC : FuncData} (F : Fun K "setitem" "World.setitem" (sW 16) f fd) (T : WT K mg C) (GC : FnOk P w K mg base CX0 1 fC fdC ["self", "value"] (spCell K C)) (cC : Mc K C "cell" fC fdC ["self", "value"]) :
    FnOk P w K mg base CX0 2 f fd ["self", "value", "i", "told"] (spSetitem K C) := by
  refine F.ok scSetitem (fun vs H Q E h => ?_) (fun cdv A outer s H vs Q E hr h => ?_)
  · obtain ⟨L, R, i, v, k, ps, p, rfl, _⟩ := h; rfl
  · refine ⟨_, pss_one (ps_asg (pv 3) (pg_sub (pe_ix ix_list (pe_meth (pv 0) T.cl cC.m GC hr cC.b .nil pass0 (pa_cons (pv 1) pa_nil)) pe_int (fun _ _ => rfl)) (pv 2) set_list)), ?_⟩
    obtain ⟨L, R, i, v, k, ps, p, rfl, W, hv, hc, hk, hp, kQ⟩ := h
    refine ⟨p.1, rfl, _, rfl, L .inst, L .own, _, rfl, W.at_ .inst trivial, f_no (by decide +kernel), v, rfl, L, R, i, v, rfl, W, lt_of hc, hv, L (.cell i), _, 1, .ref (L (.vals i)), rfl, rfl, SqL.of (W.cellL hc), atI_nat (j := 1) rfl, _, rfl, L (.vals i), _, (k : Int), k, rfl, rfl, W.valsL hc, ixN_nat (by rw [List.length_map]; exact hk), ?_⟩
    refine kQ _ (W.putVals hc (c' := .lst (ps.set k p)) rfl ?_ fun q hq => ?_) (Kept.put (Kept.of fun _ _ z => z) (l := .vals i) (lt_of hc) _)
    · show (ps.set k p).map (·.1) = _
      rw [List.map_set]; rfl
    · rcases List.mem_or_eq_of_mem_set hq with z | z
      · exact W.vs _ (List.mem_of_getElem? hc) q z
      · subst z; exact hp
theorem ok_length {f fC : Addr} {fd fdC : FuncData} (F : Fun K "length" "World.length" (sW 17) f fd) (T : WT K mg C) (hlen : mg "len" = none) (GC : FnOk P w K mg base CX0 1 fC fdC ["self", "value"] (spCell K C)) (cC : Mc K C "cell" fC fdC ["self", "value"]) :
    FnOk P w K mg base CX0 2 f fd ["self", "value"] (spLength K C) := by
  refine F.ok scLength (fun vs H Q E h => ?_) (fun cdv A outer s H vs Q E hr h => ?_)
  · obtain ⟨L, R, i, v, ps, rfl, _⟩ := h; rfl
  · refine ⟨_, pss_one (ps_ret (pe_callB call_len_seq (by rfl) hlen PySem.boot_len (pa_cons (pe_ix ix_list (pe_meth (pv 0) T.cl cC.m GC hr cC.b .nil pass0 (pa_cons (pv 1) pa_nil)) pe_int (fun _ _ => rfl)) pa_nil))), ?_⟩
    obtain ⟨L, R, i, v, ps, rfl, W, hv, hc, kQ⟩ := h
    refine ⟨_, rfl, L .inst, L .own, _, rfl, W.at_ .inst trivial, f_no (by decide +kernel), v, rfl, L, R, i, v, rfl, W, lt_of hc, hv, L (.cell i), _, 1, .ref (L (.vals i)), rfl, rfl, SqL.of (W.cellL hc), atI_nat (j := 1) rfl, L (.vals i), _, rfl, .inl (SqL.of (W.valsL hc)), ?_⟩
    have e : (((Cell.lst ps).vs.map (·.1)).length : Int) = (ps.length : Int) := by rw [List.length_map]; rfl
    rw [e]
    exact kQ
theorem ok_append {f fC : Addr} {fd fdC : FuncData} (F : Fun K "append" "World.append" (sW 18) f fd) (T : WT K mg C) (GC : FnOk P w K mg base CX0 1 fC fdC ["self", "value"] (spCell K C)) (cC : Mc K C "cell" fC fdC ["self", "value"]) :
    FnOk P w K mg base CX0 2 f fd ["self", "value", "told"] (spAppend K C) := by
  refine F.ok scAppend (fun vs H Q E h => ?_) (fun cdv A outer s H vs Q E hr h => ?_)
  · obtain ⟨L, R, i, v, ps, p, rfl, _⟩ := h; rfl
  · refine ⟨_, pss_one (ps_expr (pe_bm PySem.F.plainAttrs_list PySem.F.slot_list_append PySem.F.type_list_append mt_append (pe_ix ix_list (pe_meth (pv 0) T.cl cC.m GC hr cC.b .nil pass0 (pa_cons (pv 1) pa_nil)) pe_int (fun _ _ => rfl)) (pa_cons (pv 2) pa_nil))), ?_⟩
    obtain ⟨L, R, i, v, ps, p, rfl, W, hv, hc, hl, hp, kQ⟩ := h
    refine ⟨_, rfl, L .inst, L .own, _, rfl, W.at_ .inst trivial, f_no (by decide +kernel), v, rfl, L, R, i, v, rfl, W, lt_of hc, hv, L (.cell i), _, 1, .ref (L (.vals i)), rfl, rfl, SqL.of (W.cellL hc), atI_nat (j := 1) rfl, .inl ⟨rfl, _, SqL.of (W.valsL hc)⟩, p.1, rfl, L (.vals i), _, p.1, rfl, rfl, W.valsL hc, ?_, ?_⟩
    · rw [List.length_map]
      have : (Cell.lst ps).vs.length < 40000 := hl
      unfold sizeLine
      omega
    refine kQ _ (W.putVals hc (c' := .lst (ps ++ [p])) rfl ?_ fun q hq => ?_) (Kept.put (Kept.of fun _ _ z => z) (l := .vals i) (lt_of hc) _)
    · show (ps ++ [p]).map (·.1) = _
      rw [List.map_append]; rfl
    · rcases List.mem_append.mp hq with z | z
      · exact W.vs _ (List.mem_of_getElem? hc) q z
      · obtain rfl := List.mem_singleton.mp z; exact hp
end
end My
namespace My
open PySem PySem.Spec PyProof.Rows L2
/-- the names of a shape, the last one ahead -/
inductive Chain (S : List Sh) : Nat → List Str → Prop
  | root {s : Sh} : S[0]? = some s → s.frm = none → s.slot = -1 → Chain S 0 []
  | step {i p : Nat} {x : Str} {s : Sh} {rs : List Str} : 0 < i → S[i]? = some s → s.frm = some (p, x) → s.slot = (rs.length : Int) → Chain S p rs → Chain S i (x :: rs)
def slotR : List Str → Str → Option Nat
  | [], _ => none
  | y :: r, x => if y = x then some r.length else slotR r x
def optV : Option Nat → V
  | none => .non
  | some k => .int (k : Int)
theorem scSlotOf : FnScope ["self", "shape", "name", "here", "parent", "other", "slot"] ["self", "shape", "name"] (defScope (sW 1)) := ⟨rfl, rfl, rfl, by decide +kernel, rfl, by decide +kernel, by decide +kernel⟩
theorem scOwner : FnScope ["self", "shape", "k", "here"] ["self", "shape", "k"] (defScope (sW 2)) := ⟨rfl, rfl, rfl, by decide +kernel, rfl, by decide +kernel, by decide +kernel⟩
theorem scNamesOf : FnScope ["self", "shape", "found", "here"] ["self", "shape"] (defScope (sW 4)) := ⟨rfl, rfl, rfl, by decide +kernel, rfl, by decide +kernel, by decide +kernel⟩
/-- the shapes of a world, its cells may be locked -/
def hot : Lab → Prop
  | .inst => True | .shapes => True | .kinds => True | _ => False
structure ShAt (K : PySem.W.Frag) (C : Addr) (H : Hp) (L : Lab → Addr) (R : WS) : Prop where
  at_ : ∀ l, hot l → H (L l) = some (con C L R l)
  sh : ∀ s ∈ R.shapes, ∃ a, s.v = .ref a ∧ TupAt K H a s.enc
theorem WorldAt.shAt {K : PySem.W.Frag} {C : Addr} {H : Hp} {L : Lab → Addr} {R : WS} (W : WorldAt K C H L R) : ShAt K C H L R := ⟨fun l hl => W.at_ l (by cases l <;> first | trivial | exact False.elim hl), W.sh⟩
theorem ShAt.shapeAt {K : PySem.W.Frag} {C : Addr} {H : Hp} {L : Lab → Addr} {R : WS} (W : ShAt K C H L R) {i : Nat} {s : Sh} (h : R.shapes[i]? = some s) : ∃ a, (R.shapes.map (·.v))[i]? = some (.ref a) ∧ TupAt K H a s.enc := by
  obtain ⟨a, e, t⟩ := W.sh s (List.mem_of_getElem? h)
  exact ⟨a, by rw [List.getElem?_map, h]; exact congrArg some e, t⟩
def spSlotOf (K : PySem.W.Frag) (C : Addr) : Sp := fun vs H Q _ => ∃ (L : Lab → Addr) (R : WS) (i : Nat) (x : Str) (rs : List Str), vs = [.ref (L .inst), .int (i : Int), .str x] ∧ WorldAt K C H L R ∧ Chain R.shapes i rs ∧ Q (optV (slotR rs x)) H
def spOwner (K : PySem.W.Frag) (C : Addr) : Sp := fun vs H Q _ => ∃ (L : Lab → Addr) (R : WS) (i k : Nat) (rs : List Str), vs = [.ref (L .inst), .int (i : Int), .int (k : Int)] ∧ ShAt K C H L R ∧ Chain R.shapes i rs ∧ k < rs.length ∧
  ∀ j : Nat, Chain R.shapes j (rs.drop (rs.length - (k + 1))) → Q (.int (j : Int)) H
def spNamesOf (K : PySem.W.Frag) (C : Addr) : Sp := fun vs H Q _ => ∃ (L : Lab → Addr) (R : WS) (i : Nat) (rs : List Str), vs = [.ref (L .inst), .int (i : Int)] ∧ WorldAt K C H L R ∧ Chain R.shapes i rs ∧ rs.length < 1000 ∧
  ∀ H' p, Same H H' → H p = none → H' p = some (.lst (rs.reverse.map V.str)) → Q (.ref p) H'
theorem WorldAt.shapeAt {K : PySem.W.Frag} {C : Addr} {H : Hp} {L : Lab → Addr} {R : WS} (W : WorldAt K C H L R) {i : Nat} {s : Sh} (h : R.shapes[i]? = some s) : ∃ a, (R.shapes.map (·.v))[i]? = some (.ref a) ∧ TupAt K H a s.enc := by
  obtain ⟨a, e, t⟩ := W.sh s (List.mem_of_getElem? h)
  exact ⟨a, by rw [List.getElem?_map, h]; exact congrArg some e, t⟩
section
variable {P : Program} {w : World} {K : PySem.W.Frag} {mg : Str → Option Value} {base : Heap} {C : Addr}
theorem ok_slotOf {f : Addr} {fd : FuncData} (F : Fun K "slot_of" "World.slot_of" (sW 1) f fd) (T : WT K mg C) : FnOk P w K mg base CX0 1 f fd ["self", "shape", "name"] (spSlotOf K C) := by
  refine F.ok scSlotOf (fun vs H Q E h => ?_) (fun cdv A outer s H vs Q E hr h => ?_)
  · obtain ⟨L, R, i, x, rs, rfl, _⟩ := h; rfl
  · refine ⟨_, pss_cons (ps_set (i := 3) scSlotOf.nd rfl (.inl rfl) (pv 1))
      (pss_cons (ps_while PassesOwn.never (pt_cmpR op_gt (pv 3) pe_int (nomark _))
        (pss_cons (ps_asg (pe_ix ix_list (pe_fld (pv 0) rfl) (pv 3) (fun _ _ => rfl)) (pg_tup rfl (pgs_cons (pg_name (i := 4) scSlotOf.nd rfl (.inl rfl)) (pgs_cons (pg_name (i := 5) scSlotOf.nd rfl (.inl rfl)) (pgs_cons (pg_name (i := 6) scSlotOf.nd rfl (.inl rfl)) pgs_nil)))))
        (pss_cons (ps_if (pt_cmpR op_eq (pv 5) (pv 2) (nomark _)) (pss_one (ps_ret (pv 6))) pss_nil)
        (pss_one (ps_set (i := 3) scSlotOf.nd rfl (.inl rfl) (pv 4))))))
      (pss_one (ps_ret pe_non))), ?_⟩
    obtain ⟨L, R, i, x, rs, rfl, W, ch, kQ⟩ := h
    refine ⟨_, rfl, fun m σ H' => ∃ (j : Nat) (r : List Str) (o4 o5 o6 : Option V), m = r.length ∧ Chain R.shapes j r ∧ slotR r x = slotR rs x ∧ H' = H ∧ σ = [some (.ref (L .inst)), some (.int (i : Int)), some (.str x), some (.int (j : Int)), o4, o5, o6],
      ⟨_, i, rs, none, none, none, rfl, ch, rfl, rfl, rfl⟩, ?_⟩
    rintro m σ H' ⟨j, r, o4, o5, o6, rfl, cj, er, rfl, rfl⟩
    refine ⟨_, rfl, _, _, rfl, rfl, _, rfl, ?_⟩
    cases cj with
    | root _ _ _ =>
      refine iteF ?_
      rw [← er] at kQ
      exact kQ
    | step h0 hs hf hsl cp =>
      rename_i p y sh rs'
      rw [decide_eq_true (show ((j : Nat) : Int) > 0 by omega)]
      refine iteT ⟨fun σ' H' => ∃ m', m' < (y :: rs').length ∧ _, fun _ _ z => z, ?_⟩
      obtain ⟨a, ga, ta⟩ := W.shapeAt hs
      have ee : sh.enc = [.int (p : Int), .str y, .int (rs'.length : Int)] := by unfold Sh.enc; rw [hf, hsl]
      rw [ee] at ta
      refine ⟨_, rfl, L .inst, C, L .own, _, _, rfl, W.at_ .inst trivial, T.cl, T.nShapes, f_shapes, _, rfl, L .shapes, _, (j : Int), _, rfl, rfl, SqL.of (W.at_ .shapes trivial), atI_nat ga, a, _, rfl, ta.sq, rfl, ?_⟩
      refine ⟨_, _, rfl, _, _, rfl, _, _, rfl, rfl, .str y, rfl, .str x, rfl, rfl, _, rfl, ite2 (fun c => ?_) (fun c => ?_)⟩
      · have e : y = x := V.str.inj (of_decide_eq_true c)
        have er' : slotR rs x = some rs'.length := by rw [← er]; show (if y = x then _ else _) = _; rw [if_pos e]
        rw [er'] at kQ
        exact ⟨_, rfl, kQ⟩
      · have e : y ≠ x := fun z => c (by rw [z]; exact decide_eq_true rfl)
        have er' : slotR rs' x = slotR rs x := by rw [← er]; show _ = (if y = x then _ else _); rw [if_neg e]
        exact ⟨_, rfl, rs'.length, Nat.lt_succ_self _, p, rs', _, _, _, rfl, cp, er', rfl, rfl⟩
theorem Chain.slot {S : List Sh} {i : Nat} {rs : List Str} (h : Chain S i rs) : ∃ s, S[i]? = some s ∧ s.slot = (rs.length : Int) - 1 := by
  cases h with
  | root a b c => exact ⟨_, a, by rw [c]; rfl⟩
  | step h0 hs hf hsl cp => exact ⟨_, hs, by rw [hsl, List.length_cons]; omega⟩
theorem Sh.enc2 (s : Sh) : ∃ x y, s.enc = [x, y, .int s.slot] := by
  unfold Sh.enc
  split
  · exact ⟨_, _, rfl⟩
  · exact ⟨_, _, rfl⟩
theorem ok_owner {f : Addr} {fd : FuncData} (F : Fun K "owner" "World.owner" (sW 2) f fd) (T : WT K mg C) : FnOk P w K mg base CX0 1 f fd ["self", "shape", "k"] (spOwner K C) := by
  refine F.ok scOwner (fun vs H Q E h => ?_) (fun cdv A outer s H vs Q E hr h => ?_)
  · obtain ⟨L, R, i, k, rs, rfl, _⟩ := h; rfl
  · refine ⟨_, pss_cons (ps_set (i := 3) scOwner.nd rfl (.inl rfl) (pv 1))
      (pss_cons (ps_while PassesOwn.never (pt_cmpR op_ne (pe_ix ix_tup (pe_ix ix_list (pe_fld (pv 0) rfl) (pv 3) (fun _ _ => rfl)) pe_int (fun _ _ => rfl)) (pv 2) (nomark _))
        (pss_one (ps_set (i := 3) scOwner.nd rfl (.inl rfl) (pe_ix ix_tup (pe_ix ix_list (pe_fld (pv 0) rfl) (pv 3) (fun _ _ => rfl)) pe_int (fun _ _ => rfl)))))
      (pss_one (ps_ret (pv 3)))), ?_⟩
    obtain ⟨L, R, i, k, rs, rfl, W, ch, hk, kQ⟩ := h
    refine ⟨_, rfl, fun m σ H' => ∃ (j : Nat), Chain R.shapes j (rs.drop (rs.length - m)) ∧ k < m ∧ m ≤ rs.length ∧ H' = H ∧ σ = [some (.ref (L .inst)), some (.int (i : Int)), some (.int (k : Int)), some (.int (j : Int))],
      ⟨rs.length, i, by rw [Nat.sub_self]; exact ch, hk, Nat.le_refl _, rfl, rfl⟩, ?_⟩
    rintro m σ H' ⟨j, cj, km, ml, rfl, rfl⟩
    have hl : (rs.drop (rs.length - m)).length = m := by rw [List.length_drop]; omega
    obtain ⟨sh, hs, hsl⟩ := cj.slot
    rw [hl] at hsl
    obtain ⟨a, ga, ta⟩ := W.shapeAt hs
    obtain ⟨x, y, ee⟩ := sh.enc2
    have ta' := ta
    rw [ee, hsl] at ta
    refine ⟨_, rfl, L .inst, C, L .own, _, _, rfl, W.at_ .inst trivial, T.cl, T.nShapes, f_shapes, _, rfl, L .shapes, _, (j : Int), _, rfl, rfl, SqL.of (W.at_ .shapes trivial), atI_nat ga, a, _, 2, _, rfl, rfl, ta.sq, atI_nat (j := 2) rfl, _, rfl, rfl, _, rfl, ite2 (fun c => ?_) (fun c => ?_)⟩
    · have ne : ((m : Nat) : Int) - 1 ≠ (k : Int) := by
        intro z
        rw [z] at c
        simp at c
      refine ⟨fun σ' H' => ∃ m', m' < m ∧ _, fun _ _ z => z, ?_⟩
      have em : rs.drop (rs.length - m) = rs[rs.length - m]'(by omega) :: rs.drop (rs.length - (m - 1)) := by
        rw [List.drop_eq_getElem_cons (by omega)]
        congr 2
        omega
      rw [em] at cj
      cases cj with
      | step h0 hs2 hf hsl2 cp =>
        rename_i p sh2
        rw [hs] at hs2
        obtain rfl := Option.some.inj hs2
        have ee2 : sh.enc = [.int (p : Int), .str (rs[rs.length - m]'(by omega)), .int sh.slot] := by unfold Sh.enc; rw [hf]
        rw [ee2] at ta'
        exact ⟨_, rfl, L .inst, C, L .own, _, _, rfl, W.at_ .inst trivial, T.cl, T.nShapes, f_shapes, _, rfl, L .shapes, _, (j : Int), _, rfl, rfl, SqL.of (W.at_ .shapes trivial), atI_nat ga, a, _, 0, _, rfl, rfl, ta'.sq, atI_nat (j := 0) rfl, m - 1, by omega, p, cp, by omega, by omega, rfl, rfl⟩
    · have e : m = k + 1 := by
        have c' : ¬ (((m : Nat) : Int) - 1 ≠ (k : Int)) := fun z => c (by simp [z])
        omega
      subst e
      exact ⟨_, rfl, kQ j cj⟩
end
end My
namespace My
open PySem PySem.Spec PyProof.Rows L2
theorem scChild : FnScope ["self", "shape", "name"] ["self", "shape", "name"] (defScope (sW 3)) := ⟨rfl, rfl, rfl, by decide +kernel, rfl, by decide +kernel, by decide +kernel⟩
theorem scGrown : FnScope ["self", "shape", "name", "value", "key"] ["self", "shape", "name", "value"] (defScope (sW 5)) := ⟨rfl, rfl, rfl, by decide +kernel, rfl, by decide +kernel, by decide +kernel⟩
def WS.kid (R : WS) (i : Nat) (x : Str) : Option Nat := (R.kids.find? fun e => decide (e.1 = (i, x))).map (·.2)
def WS.addShape (R : WS) (v : V) (i : Nat) (x : Str) (k : Nat) (d : Val) : WS := { R with shapes := R.shapes ++ [⟨v, some (i, x), (k : Int)⟩], small := R.small ++ [d.small], kids := R.kids ++ [((i, x), R.shapes.length)] }
theorem kid_val (i : Nat) (x : Str) : ∀ ks : List ((Nat × Str) × Nat), valV (ks.map kidKey) [Sum.inl (i : Int), Sum.inr x] = ((ks.find? fun e => decide (e.1 = (i, x))).map (·.2)).map fun (n : Nat) => V.int (n : Int)
  | [] => rfl
  | e :: r => by
    rw [List.map_cons, List.find?_cons]
    by_cases z : e.1 = (i, x)
    · rw [valV_pos (by rw [show e = ((i, x), e.2) from by rw [← z]]; rfl), decide_eq_true z]
      rfl
    · rw [valV_neg (fun q => z ?_), decide_eq_false z]
      · exact kid_val i x r
      · have q1 : ([Sum.inl ((e.1.1 : Nat) : Int), Sum.inr e.1.2] : List Key) = [Sum.inl (i : Int), Sum.inr x] := q
        injection q1 with a b
        injection b with b _
        injection a with a
        injection b with b
        exact Prod.ext (by omega) b
def spChild (K : PySem.W.Frag) (C : Addr) : Sp := fun vs H Q _ => ∃ (L : Lab → Addr) (R : WS) (i : Nat) (x : Str), vs = [.ref (L .inst), .int (i : Int), .str x] ∧ WorldAt K C H L R ∧ ∀ H', Same H H' → Q (optV (R.kid i x)) H'
def spGrown (K : PySem.W.Frag) (C : Addr) : Sp := fun vs H Q _ => ∃ (L : Lab → Addr) (R : WS) (i : Nat) (x : Str) (v : V) (d : Val) (rs : List Str), vs = [.ref (L .inst), .int (i : Int), .str x, v] ∧ WorldAt K C H L R ∧ Vl K H v d ∧ Chain R.shapes i rs ∧ R.shapes.length < 1000 ∧ R.kids.length < 1000 ∧ R.small.length < 1000 ∧
  (∀ j, R.kid i x = some j → ∀ H', Same H H' → Q (.int (j : Int)) H') ∧ (R.kid i x = none → ∀ H' v', WorldAt K C H' L (R.addShape v' i x rs.length d) → Kept R.cells.length L H H' → Q (.int (R.shapes.length : Int)) H')
section
variable {P : Program} {w : World} {K : PySem.W.Frag} {mg : Str → Option Value} {base : Heap} {C : Addr}
theorem ok_child {f : Addr} {fd : FuncData} (F : Fun K "child" "World.child" (sW 3) f fd) (T : WT K mg C) : FnOk P w K mg base CX0 1 f fd ["self", "shape", "name"] (spChild K C) := by
  refine F.ok scChild (fun vs H Q E h => ?_) (fun cdv A outer s H vs Q E hr h => ?_)
  · obtain ⟨L, R, i, x, rfl, _⟩ := h; rfl
  · refine ⟨_, pss_one (ps_ret (pe_dget1 (hu_of hr) (pe_fld (pv 0) rfl) (pe_tup (pa_cons (pv 1) (pa_cons (pv 2) pa_nil))) ⟨rfl, rfl, rfl, rfl⟩)), ?_⟩
    obtain ⟨L, R, i, x, rfl, W, kQ⟩ := h
    refine ⟨_, rfl, L .inst, C, L .own, _, _, rfl, W.at_ .inst trivial, T.cl, T.nChildren, f_children, L .children, rfl, .inr ⟨_, .inl (W.at_ .children trivial)⟩, _, rfl, _, rfl, by show 2 ≤ sizeLine; decide, fun t ht => ?_⟩
    have W1 := W.same (same_new (o := .tup [.int (i : Int), .str x]) ht)
    refine ⟨_, DGet.t (k := [Sum.inl (i : Int), Sum.inr x]) (W1.at_ .children trivial) upd_same, ?_⟩
    have q := kQ _ (same_new (o := .tup [.int (i : Int), .str x]) ht)
    have e : (valV (R.kids.map kidKey) [Sum.inl (i : Int), Sum.inr x]).getD .non = optV (R.kid i x) := by
      rw [kid_val]
      show _ = optV ((R.kids.find? fun e => decide (e.1 = (i, x))).map (·.2))
      cases (R.kids.find? fun e => decide (e.1 = (i, x))).map (·.2) <;> rfl
    rw [e]
    exact q
theorem ok_grown {f fS : Addr} {fd fdS : FuncData} (F : Fun K "grown" "World.grown" (sW 5) f fd) (T : WT K mg C) (hlen : mg "len" = none) (GS : FnOk P w K mg base CX0 1 fS fdS ["value"] (spSmall K)) (cS : Fc K mg "is_small" fS fdS ["value"]) :
    FnOk P w K mg base CX0 2 f fd ["self", "shape", "name", "value"] (spGrown K C) := by
  refine F.ok scGrown (fun vs H Q E h => ?_) (fun cdv A outer s H vs Q E hr h => ?_)
  · obtain ⟨L, R, i, x, v, d, rs, rfl, _⟩ := h; rfl
  · refine ⟨_, pss_cons (ps_set (i := 4) scGrown.nd rfl (.inl rfl) (pe_tup (pa_cons (pv 1) (pa_cons (pv 2) pa_nil))))
      (pss_cons (ps_if (pt_cmp (pc_dnotin (hu_of hr) (pv 4) (pe_fld (pv 0) rfl)))
        (pss_cons (ps_dput (hu_of hr) (pe_fld (pv 0) rfl) (pv 4) (pe_callB call_len_seq (by rfl) hlen PySem.boot_len (pa_cons (pe_fld (pv 0) rfl) pa_nil)) rfl)
        (pss_cons (ps_expr (pe_bm PySem.F.plainAttrs_list PySem.F.slot_list_append PySem.F.type_list_append mt_append (pe_fld (pv 0) rfl) (pa_cons (pe_tup (pa_cons (pv 1) (pa_cons (pv 2) (pa_cons (pe_op op_add (pe_ix ix_tup (pe_ix ix_list (pe_fld (pv 0) rfl) (pv 1) (fun _ _ => rfl)) pe_int (fun _ _ => rfl)) pe_int) pa_nil)))) pa_nil)))
        (pss_one (ps_expr (pe_bm PySem.F.plainAttrs_list PySem.F.slot_list_append PySem.F.type_list_append mt_append (pe_fld (pv 0) rfl) (pa_cons (pe_ifExp (pt_val (pe_call GS hr rfl cS.g cS.kp cS.b .nil pass0 (pa_cons (pv 3) pa_nil))) pe_str pe_str) pa_nil)))))) pss_nil)
      (pss_one (ps_ret (pe_dget (hu_of hr) (pe_fld (pv 0) rfl) (pv 4) (fun _ _ => rfl))))), ?_⟩
    obtain ⟨L, R, i, x, v, d, rs, rfl, W, hv, ch, b1, b2, b3, k1, k2⟩ := h
    refine ⟨_, rfl, _, rfl, by show 2 ≤ sizeLine; decide, fun t ht => ?_⟩
    have sm : Same H (upd H t (.tup [.int (i : Int), .str x])) := same_new ht
    have W1 := W.same sm
    refine ⟨_, rfl, _, rfl, L .inst, C, L .own, _, _, rfl, W1.at_ .inst trivial, T.cl, T.nChildren, f_children, L .children, _, rfl, DGet.t (k := [Sum.inl (i : Int), Sum.inr x]) (W1.at_ .children trivial) upd_same, _, rfl, ?_⟩
    have ek := kid_val i x R.kids
    cases hk : R.kid i x with
    | some j =>
      have e : valV (R.kids.map kidKey) [Sum.inl (i : Int), Sum.inr x] = some (.int (j : Int)) := by rw [ek]; exact congrArg (Option.map fun (n : Nat) => V.int (n : Int)) hk
      have e' : (!(valV (R.kids.map kidKey) [Sum.inl (i : Int), Sum.inr x]).isSome) = false := by rw [e]; rfl
      refine iteF' e' ?_
      refine ⟨_, rfl, L .inst, C, L .own, _, _, rfl, W1.at_ .inst trivial, T.cl, T.nChildren, f_children, _, rfl, L .children, .int (j : Int), rfl, ?_, k1 j hk _ sm⟩
      rw [← e]
      exact DGet.t (W1.at_ .children trivial) upd_same
    | none =>
      have e : valV (R.kids.map kidKey) [Sum.inl (i : Int), Sum.inr x] = none := by rw [ek]; exact congrArg (Option.map fun (n : Nat) => V.int (n : Int)) hk
      have e' : (!(valV (R.kids.map kidKey) [Sum.inl (i : Int), Sum.inr x]).isSome) = true := by rw [e]; rfl
      refine iteT' e' ?_
      let k := rs.length
      let R2 : WS := { R with kids := R.kids ++ [((i, x), R.shapes.length)] }
      -- self.children[key] = len(self.shapes)
      refine ⟨_, rfl, L .inst, C, L .own, _, _, rfl, W1.at_ .inst trivial, T.cl, T.nShapes, f_shapes, L .shapes, _, rfl, .inl (SqL.of (W1.at_ .shapes trivial)), _, rfl, L .inst, C, L .own, _, _, rfl, W1.at_ .inst trivial, T.cl, T.nChildren, f_children, _, rfl, L .children, _, rfl, DPut.t (k := [Sum.inl (i : Int), Sum.inr x]) (W1.at_ .children trivial) upd_same ?_, ?_⟩
      · rw [List.length_map]; unfold sizeLine; omega
      have W2 : WorldAt K C (upd (upd H t (.tup [.int (i : Int), .str x])) (L .children) (.dT (putK (R.kids.map kidKey) [Sum.inl (i : Int), Sum.inr x] (.int ((R.shapes.map (·.v)).length : Int))))) L R2 := by
        refine W1.put (l := .children) trivial rfl ?_ (fun m hm _ => ?_) W1.sh W1.vs
        · show HO.dT ((R.kids ++ [((i, x), R.shapes.length)]).map kidKey) = _
          rw [putK_new _ e, List.map_append, List.length_map]; rfl
        · cases m <;> first | rfl | exact absurd rfl hm
      have kt2 := W1.tup_put (l := .children) trivial (.dT (putK (R.kids.map kidKey) [Sum.inl (i : Int), Sum.inr x] (.int ((R.shapes.map (·.v)).length : Int))))
      have kp2 : Kept R.cells.length L H (upd (upd H t (.tup [.int (i : Int), .str x])) (L .children) (.dT (putK (R.kids.map kidKey) [Sum.inl (i : Int), Sum.inr x] (.int ((R.shapes.map (·.v)).length : Int))))) := Kept.put (Kept.of sm) (l := .children) trivial _
      have ht2 := kt2 t _ upd_same
      have hv2 := (hv.keep (KeepT.of sm)).keep kt2
      generalize upd (upd H t (.tup [.int (i : Int), .str x])) (L .children) (.dT (putK (R.kids.map kidKey) [Sum.inl (i : Int), Sum.inr x] (.int ((R.shapes.map (·.v)).length : Int)))) = H2 at W2 kp2 ht2 hv2
      -- self.shapes.append(..)
      obtain ⟨sh, hs, hsl⟩ := ch.slot
      obtain ⟨a, ga, ta⟩ := W2.shapeAt (i := i) (s := sh) hs
      obtain ⟨y, z, ee⟩ := sh.enc2
      have e4 : (rs.length : Int) - 1 + 1 = (rs.length : Int) := by omega
      rw [ee, hsl] at ta
      refine ⟨_, rfl, L .inst, C, L .own, _, _, rfl, W2.at_ .inst trivial, T.cl, T.nShapes, f_shapes, .inl ⟨rfl, _, SqL.of (W2.at_ .shapes trivial)⟩, _, rfl, _, rfl, _, rfl, L .inst, C, L .own, _, _, rfl, W2.at_ .inst trivial, T.cl, T.nShapes, f_shapes, _, rfl, L .shapes, _, (i : Int), _, rfl, rfl, SqL.of (W2.at_ .shapes trivial), atI_nat ga, a, _, 2, _, rfl, rfl, ta.sq, atI_nat (j := 2) rfl, _, _, rfl, rfl, by show 3 ≤ sizeLine; decide, fun u hu => ?_⟩
      have sm3 : Same H2 (upd H2 u (.tup [.int (i : Int), .str x, .int ((rs.length : Int) - 1 + 1)])) := same_new hu
      have W3 := W2.same sm3
      refine ⟨L .shapes, _, _, rfl, rfl, W3.at_ .shapes trivial, ?_, ?_⟩
      · show (R.shapes.map (·.v)).length < _
        rw [List.length_map]; unfold sizeLine; omega
      let R3 : WS := { R with shapes := R.shapes ++ [⟨.ref u, some (i, x), (rs.length : Int)⟩], kids := R.kids ++ [((i, x), R.shapes.length)] }
      have W4 : WorldAt K C (upd (upd H2 u (.tup [.int (i : Int), .str x, .int ((rs.length : Int) - 1 + 1)])) (L .shapes) (.lst (R.shapes.map (·.v) ++ [.ref u]))) L R3 := by
        refine W3.put (l := .shapes) trivial rfl ?_ (fun m hm _ => ?_) (fun q hq => ?_) W3.vs
        · show HO.lst ((R.shapes ++ [(⟨.ref u, some (i, x), (rs.length : Int)⟩ : Sh)]).map (·.v)) = _
          rw [List.map_append]; rfl
        · cases m <;> first | rfl | exact absurd rfl hm
        · rcases List.mem_append.mp hq with z | z
          · exact W3.sh q z
          · obtain rfl := List.mem_singleton.mp z
            refine ⟨u, rfl, .inl ?_⟩
            rw [upd_same, e4]; rfl
      have kt4 := W3.tup_put (l := .shapes) trivial (.lst (R.shapes.map (·.v) ++ [.ref u]))
      have kp4 : Kept R.cells.length L H (upd (upd H2 u (.tup [.int (i : Int), .str x, .int ((rs.length : Int) - 1 + 1)])) (L .shapes) (.lst (R.shapes.map (·.v) ++ [.ref u]))) := Kept.put (kp2.same sm3) (l := .shapes) trivial _
      have ht4 := kt4 t _ (sm3 t _ ht2)
      have hv4 := (hv2.keep (KeepT.of sm3)).keep kt4
      generalize upd (upd H2 u (.tup [.int (i : Int), .str x, .int ((rs.length : Int) - 1 + 1)])) (L .shapes) (.lst (R.shapes.map (·.v) ++ [.ref u])) = H4 at W4 kp4 ht4 hv4
      -- self.kinds.append(..)
      refine ⟨_, rfl, L .inst, C, L .own, _, _, rfl, W4.at_ .inst trivial, T.cl, T.nKinds, f_kinds, .inl ⟨rfl, _, SqL.of (W4.at_ .kinds trivial)⟩, v, rfl, v, d, rfl, hv4, d.small, rfl, ?_⟩
      cases hd : d.small
      all_goals
        first
          | refine iteT ?_
          | refine iteF ?_
        refine ⟨L .kinds, _, _, rfl, rfl, W4.at_ .kinds trivial, ?_, ?_⟩
        · rw [List.length_map]
          have : R3.small.length < 1000 := b3
          unfold sizeLine; omega
        have W5 : WorldAt K C (upd H4 (L .kinds) (.lst ((R.small.map fun b => V.str (kw b)) ++ [.str (kw d.small)]))) L (R.addShape (.ref u) i x rs.length d) := by
          refine W4.put (l := .kinds) trivial rfl ?_ (fun m hm _ => ?_) W4.sh W4.vs
          · show HO.lst ((R.small ++ [d.small]).map fun b => V.str (kw b)) = _
            rw [List.map_append]; rfl
          · cases m <;> first | rfl | exact absurd rfl hm
        have kt5 := W4.tup_put (l := .kinds) trivial (.lst ((R.small.map fun b => V.str (kw b)) ++ [.str (kw d.small)]))
        have ht5 := kt5 t _ ht4
        have q := k2 hk _ _ W5 (Kept.put kp4 (l := .kinds) trivial _)
        rw [hd] at W5 ht5 q
        refine ⟨_, rfl, L .inst, C, L .own, _, _, rfl, W5.at_ .inst trivial, T.cl, T.nChildren, f_children, _, rfl, L .children, .int (R.shapes.length : Int), rfl, ?_, q⟩
        have e6 : valV ((R.kids ++ [((i, x), R.shapes.length)]).map kidKey) [Sum.inl (i : Int), Sum.inr x] = some (.int (R.shapes.length : Int)) := by
          rw [List.map_append]
          show valV (R.kids.map kidKey ++ [([Sum.inl (i : Int), Sum.inr x], V.int (R.shapes.length : Int))]) _ = _
          rw [valV_snoc _ _ _ _ e, if_pos rfl]
        rw [← e6]
        exact DGet.t (W5.at_ .children trivial) ht5
end
end My
namespace My
open PySem PySem.Spec PyProof.Rows L2
theorem scTextOf : FnScope ["value", "kind"] ["value", "kind"] (defScope (sTextOf)) := ⟨rfl, rfl, rfl, by decide +kernel, rfl, by decide +kernel, by decide +kernel⟩
theorem scKind : FnScope ["self", "value"] ["self", "value"] (defScope (sW 19)) := ⟨rfl, rfl, rfl, by decide +kernel, rfl, by decide +kernel, by decide +kernel⟩
theorem scFunctionOf : FnScope ["self", "value"] ["self", "value"] (defScope (sW 20)) := ⟨rfl, rfl, rfl, by decide +kernel, rfl, by decide +kernel, by decide +kernel⟩
theorem scShapeOf : FnScope ["self", "value"] ["self", "value"] (defScope (sW 22)) := ⟨rfl, rfl, rfl, by decide +kernel, rfl, by decide +kernel, by decide +kernel⟩
theorem scOut : FnScope ["self", "value"] ["self", "value"] (defScope (sW 23)) := ⟨rfl, rfl, rfl, by decide +kernel, rfl, by decide +kernel, by decide +kernel⟩
def textOf (d : Val) (kd : Str) : Str := match d with
  | .int n => (toString n : String)
  | .text s => s
  | .bool b => if b then "true" else "false"
  | _ => kd
theorem log_mid {n : Int} (h1 : -2000000000 < n) (h2 : n < 2000000000) : n.natAbs.log2 < 1920 := by
  by_cases z : n.natAbs = 0
  · rw [z]; decide
  · rw [Nat.log2_lt z]
    exact Nat.lt_of_lt_of_le (show n.natAbs < 2 ^ 31 by omega) (Nat.pow_le_pow_right (by decide) (by decide))
def KdOf (d : Val) (kd : Str) : Prop := kd = d.word ∨ (∃ n, d = .ref n) ∧ (kd = "object" ∨ kd = "list")
def spTextOf (K : PySem.W.Frag) : Sp := fun vs H Q _ => ∃ v d kd, vs = [v, .str kd] ∧ Vl K H v d ∧ d.mid ∧ KdOf d kd ∧ Q (.str (textOf d kd)) H
def spKind (K : PySem.W.Frag) (C : Addr) : Sp := fun vs H Q _ => ∃ (L : Lab → Addr) (R : WS) (v : V) (d : Val), vs = [.ref (L .inst), v] ∧ WorldAt K C H L R ∧ Vl K H v d ∧ d.In R ∧ ∀ H', Same H H' → Q (.str (R.kindOf d)) H'
def fnV : Val → V
  | .fn n => .int n | _ => .non
def WS.shapeV (R : WS) : Val → V
  | .ref n => match R.cells[n.toNat]? with | some (.obj sh _) => .int (sh : Int) | _ => .non
  | _ => .non
def Cell.shV : Cell → V
  | .obj sh _ => .int (sh : Int) | .lst _ => .non
def spFunctionOf (K : PySem.W.Frag) (C : Addr) : Sp := fun vs H Q _ => ∃ (L : Lab → Addr) (R : WS) (v : V) (d : Val), vs = [.ref (L .inst), v] ∧ WorldAt K C H L R ∧ Vl K H v d ∧ d.In R ∧ Q (fnV d) H
def spShapeOf (K : PySem.W.Frag) (C : Addr) : Sp := fun vs H Q _ => ∃ (L : Lab → Addr) (R : WS) (v : V) (d : Val), vs = [.ref (L .inst), v] ∧ WorldAt K C H L R ∧ Vl K H v d ∧ d.In R ∧ Q (R.shapeV d) H
def spOut (K : PySem.W.Frag) (C : Addr) : Sp := fun vs H Q _ => ∃ (L : Lab → Addr) (R : WS) (v : V) (d : Val), vs = [.ref (L .inst), v] ∧ WorldAt K C H L R ∧ Vl K H v d ∧ d.In R ∧ d.mid ∧ R.printed.length < 1000 ∧
  ∀ H', WorldAt K C H' L { R with printed := R.printed ++ [textOf d (R.kindOf d)] } → Kept R.cells.length L H H' → Q .non H'
def Val.isRef : Val → Bool
  | .ref _ => true | _ => false
theorem Val.word_ref : ∀ d : Val, decide (V.str d.word = V.str "ref") = d.isRef
  | .int _ => show decide (V.str "int" = V.str "ref") = false by decide +kernel
  | .bool _ => show decide (V.str "bool" = V.str "ref") = false by decide +kernel
  | .nul => show decide (V.str "null" = V.str "ref") = false by decide +kernel
  | .text _ => show decide (V.str "text" = V.str "ref") = false by decide +kernel
  | .fn _ => show decide (V.str "fun" = V.str "ref") = false by decide +kernel
  | .ref _ => show decide (V.str "ref" = V.str "ref") = true by decide +kernel
def Val.isFn : Val → Bool
  | .fn _ => true | _ => false
theorem Val.word_fn : ∀ d : Val, decide (V.str d.word = V.str "fun") = d.isFn
  | .int _ => show decide (V.str "int" = V.str "fun") = false by decide +kernel
  | .bool _ => show decide (V.str "bool" = V.str "fun") = false by decide +kernel
  | .nul => show decide (V.str "null" = V.str "fun") = false by decide +kernel
  | .text _ => show decide (V.str "text" = V.str "fun") = false by decide +kernel
  | .fn _ => show decide (V.str "fun" = V.str "fun") = true by decide +kernel
  | .ref _ => show decide (V.str "ref" = V.str "fun") = false by decide +kernel
def Val.isBool : Val → Bool
  | .bool _ => true | _ => false
theorem Val.word_bool : ∀ d : Val, decide (V.str d.word = V.str "bool") = d.isBool
  | .int _ => show decide (V.str "int" = V.str "bool") = false by decide +kernel
  | .bool _ => show decide (V.str "bool" = V.str "bool") = true by decide +kernel
  | .nul => show decide (V.str "null" = V.str "bool") = false by decide +kernel
  | .text _ => show decide (V.str "text" = V.str "bool") = false by decide +kernel
  | .fn _ => show decide (V.str "fun" = V.str "bool") = false by decide +kernel
  | .ref _ => show decide (V.str "ref" = V.str "bool") = false by decide +kernel
theorem Cell.word_closure : ∀ c : Cell, decide (V.str c.word = V.str "closure") = false
  | .obj _ _ => show decide (V.str "object" = V.str "closure") = false by decide +kernel
  | .lst _ => show decide (V.str "list" = V.str "closure") = false by decide +kernel
/-- the kind told is the word, or that of a cell: is it this word? -/
theorem kd_test {d : Val} {kd x : Str} {b : Bool} (h : KdOf d kd) (h1 : decide (V.str d.word = V.str x) = b) (h2 : d.isRef = true → b = false) (h3 : x ≠ "object" ∧ x ≠ "list") : decide (V.str kd = V.str x) = b := by
  rcases h with rfl | ⟨⟨n, rfl⟩, z⟩
  · exact h1
  · rw [h2 rfl]
    refine decide_eq_false fun q => ?_
    have q' : kd = x := V.str.inj q
    rcases z with z | z
    · exact h3.1 (q'.symm.trans z)
    · exact h3.2 (q'.symm.trans z)
theorem WorldAt.con0 {c : Cell} {L : Lab → Addr} {i : Nat} : ∃ t, c.con L i = .lst (.str c.word :: t) := by
  cases c with
  | obj sh vs => exact ⟨_, rfl⟩
  | lst vs => exact ⟨_, rfl⟩
section
variable {P : Program} {w : World} {K : PySem.W.Frag} {mg : Str → Option Value} {base : Heap} {C : Addr}
theorem ok_textOf {f : Addr} {fd : FuncData} (F : Fun K "text_of" "text_of" sTextOf f fd) (hstr : mg "str" = none) : FnOk P w K mg base CX0 1 f fd ["value", "kind"] (spTextOf K) := by
  refine F.ok scTextOf (fun vs H Q E h => ?_) (fun cdv A outer s H vs Q E hr h => ?_)
  · obtain ⟨v, d, kd, rfl, _⟩ := h; rfl
  · refine ⟨_, pss_cons (ps_if (pt_cmpR op_eq (pv 1) pe_str (nomark _)) (pss_one (ps_ret (pe_callTy call_str_int (by rfl) hstr (by decide +kernel) (pa_cons (pe_ix ix_tup (pv 0) pe_int (fun _ _ => rfl)) pa_nil)))) pss_nil)
      (pss_cons (ps_if (pt_cmpR op_eq (pv 1) pe_str (nomark _)) (pss_one (ps_ret (pe_ix ix_tup (pv 0) pe_int (fun _ _ => rfl)))) pss_nil)
      (pss_cons (ps_if (pt_cmpR op_eq (pv 1) pe_str (nomark _)) (pss_one (ps_ret (pe_ifExp (pt_val (pe_ix ix_tup (pv 0) pe_int (fun _ _ => rfl))) pe_str pe_str))) pss_nil)
      (pss_one (ps_ret (pv 1))))), ?_⟩
    obtain ⟨v, d, kd, rfl, ⟨a, rfl, t⟩, hm, hk, kQ⟩ := h
    refine ⟨_, rfl, rfl, d.isInt, congrArg V.bl (kd_test hk d.word_int (fun z => by cases d <;> first | rfl | cases z) (by decide +kernel)), ?_⟩
    cases d with
    | int n =>
      obtain ⟨m1, m2⟩ : -2000000000 < n ∧ n < 2000000000 := hm
      exact iteT ⟨.ref a, rfl, a, _, 1, .int n, rfl, rfl, t.sq, atI_nat (j := 1) rfl, n, rfl, log_mid m1 m2, kQ⟩
    | text s =>
      refine iteF ⟨_, rfl, rfl, true, congrArg V.bl (kd_test hk (Val.word_text _) (fun z => by cases z) (by decide +kernel)), iteT ⟨.ref a, rfl, a, _, 1, .str s, rfl, rfl, t.sq, atI_nat (j := 1) rfl, kQ⟩⟩
    | bool b =>
      refine iteF ⟨_, rfl, rfl, false, congrArg V.bl (kd_test hk (Val.word_text _) (fun z => by cases z) (by decide +kernel)), iteF ⟨_, rfl, rfl, true, congrArg V.bl (kd_test hk (Val.word_bool _) (fun z => by cases z) (by decide +kernel)), iteT ⟨.ref a, rfl, a, _, 1, .bl b, rfl, rfl, t.sq, atI_nat (j := 1) rfl, b, rfl, ?_⟩⟩⟩
      cases b with
      | true => exact iteT kQ
      | false => exact iteF kQ
    | _ =>
      exact iteF ⟨_, rfl, rfl, false, congrArg V.bl (kd_test hk (Val.word_text _) (fun z => rfl) (by decide +kernel)), iteF ⟨_, rfl, rfl, false, congrArg V.bl (kd_test hk (Val.word_bool _) (fun z => rfl) (by decide +kernel)), iteF ⟨_, rfl, kQ⟩⟩⟩
theorem ok_kind {f fC fO : Addr} {fd fdC fdO : FuncData} (F : Fun K "kind" "World.kind" (sW 19) f fd) (T : WT K mg C) (GC : FnOk P w K mg base CX0 1 fC fdC ["self", "value"] (spCell K C)) (cC : Mc K C "cell" fC fdC ["self", "value"])
    (GO : FnOk P w K mg base CX0 1 fO fdO ["value"] (spKindOf K)) (cO : Fc K mg "kind_of" fO fdO ["value"]) : FnOk P w K mg base CX0 2 f fd ["self", "value"] (spKind K C) := by
  refine F.ok scKind (fun vs H Q E h => ?_) (fun cdv A outer s H vs Q E hr h => ?_)
  · obtain ⟨L, R, v, d, rfl, _⟩ := h; rfl
  · refine ⟨_, pss_one (ps_ret (pe_ifExp (pt_cmpR op_ne (pe_ix ix_tup (pv 1) pe_int (fun _ _ => rfl)) pe_str (nomark _)) (pe_call GO hr rfl cO.g cO.kp cO.b .nil pass0 (pa_cons (pv 1) pa_nil))
      (pe_dget2 (hu_of hr) (pe_disp (pps_cons pe_str pe_str pps_nil) (by rfl) (by rfl) (fun z => by cases z) (by decide)) (pe_ix ix_list (pe_meth (pv 0) T.cl cC.m GC hr cC.b .nil pass0 (pa_cons (pv 1) pa_nil)) pe_int (fun _ _ => rfl)) (pe_ix ix_list (pe_meth (pv 0) T.cl cC.m GC hr cC.b .nil pass0 (pa_cons (pv 1) pa_nil)) pe_int (fun _ _ => rfl)) ⟨rfl, rfl, rfl, rfl⟩))), ?_⟩
    obtain ⟨L, R, v, d, rfl, W, hv, hin, kQ⟩ := h
    obtain ⟨a, rfl, t⟩ := id hv
    refine ⟨.ref a, rfl, a, _, 0, .str d.word, rfl, rfl, t.sq, atI_nat (j := 0) rfl, rfl, _, congrArg V.bl (by rw [d.word_ref]), ?_⟩
    cases hd : d.isRef with
    | false =>
      refine iteT ⟨.ref a, rfl, .ref a, d, rfl, hv, ?_⟩
      have e : R.kindOf d = d.word := by cases d <;> first | rfl | cases hd
      rw [← e]
      exact kQ H fun _ _ z => z
    | true =>
      refine iteF (fun dd ndd => ?_)
      obtain ⟨n, rfl⟩ : ∃ n, d = .ref n := by cases d <;> first | exact ⟨_, rfl⟩ | cases hd
      obtain ⟨i, c, rfl, hc⟩ := hin n rfl
      have sm : Same H (upd (upd H dd (.dK [])) dd (.dK (mergeK [] [(Sum.inr "closure", .str "fun")]))) := same_put (same_new ndd) ndd
      have W1 := W.same sm
      have hv1 := hv.keep (KeepT.of sm)
      obtain ⟨tl, ec⟩ := WorldAt.con0 (c := c) (L := L) (i := i)
      have hcl := W1.cellL hc
      rw [ec] at hcl
      refine ⟨upd_same, [(Sum.inr "closure", .str "fun")], rfl, (by show 1 ≤ 15; decide), dd, rfl, .inl ⟨_, .inl upd_same⟩, _, rfl, L .inst, L .own, _, rfl, W1.at_ .inst trivial, f_no (by decide +kernel), .ref a, rfl, L, R, i, .ref a, rfl, W1, lt_of hc, hv1, L (.cell i), _, 0, .str c.word, rfl, rfl, SqL.of hcl, atI_nat (j := 0) rfl,
        _, rfl, L .inst, L .own, _, rfl, W1.at_ .inst trivial, f_no (by decide +kernel), .ref a, rfl, L, R, i, .ref a, rfl, W1, lt_of hc, hv1, L (.cell i), _, 0, .str c.word, rfl, rfl, SqL.of hcl, atI_nat (j := 0) rfl, none, ?_, ?_⟩
      · have e : valV (mergeK [] [((Sum.inr "closure" : Key), V.str "fun")]) (Sum.inr c.word : Key) = none := by cases c <;> rfl
        rw [← e]
        exact DGet.k (k := Sum.inr c.word) upd_same
      · have q := kQ _ sm
        rw [kindOf_ref hc] at q
        exact q
theorem ok_functionOf {f fC : Addr} {fd fdC : FuncData} (F : Fun K "function_of" "World.function_of" (sW 20) f fd) (T : WT K mg C) (GC : FnOk P w K mg base CX0 1 fC fdC ["self", "value"] (spCell K C)) (cC : Mc K C "cell" fC fdC ["self", "value"]) :
    FnOk P w K mg base CX0 2 f fd ["self", "value"] (spFunctionOf K C) := by
  refine F.ok scFunctionOf (fun vs H Q E h => ?_) (fun cdv A outer s H vs Q E hr h => ?_)
  · obtain ⟨L, R, v, d, rfl, _⟩ := h; rfl
  · refine ⟨_, pss_cons (ps_if (pt_cmpR op_eq (pe_ix ix_tup (pv 1) pe_int (fun _ _ => rfl)) pe_str (nomark _)) (pss_one (ps_ret (pe_ix ix_tup (pv 1) pe_int (fun _ _ => rfl)))) pss_nil)
      (pss_cons (ps_if (PW.pt (pw_and (pt_cmpR op_eq (pe_ix ix_tup (pv 1) pe_int (fun _ _ => rfl)) pe_str (nomark _)) (pw_and1 (pt_cmpR op_eq (pe_ix ix_list (pe_meth (pv 0) T.cl cC.m GC hr cC.b .nil pass0 (pa_cons (pv 1) pa_nil)) pe_int (fun _ _ => rfl)) pe_str (nomark _)))))
        (pss_one (ps_ret (pe_ix ix_list (pe_meth (pv 0) T.cl cC.m GC hr cC.b .nil pass0 (pa_cons (pv 1) pa_nil)) pe_int (fun _ _ => rfl)))) pss_nil)
      (pss_one (ps_ret pe_non))), ?_⟩
    obtain ⟨L, R, v, d, rfl, W, hv, hin, kQ⟩ := h
    obtain ⟨a, rfl, t⟩ := id hv
    refine ⟨.ref a, rfl, a, _, 0, .str d.word, rfl, rfl, t.sq, atI_nat (j := 0) rfl, rfl, d.isFn, congrArg V.bl d.word_fn, ?_⟩
    cases hf : d.isFn with
    | true =>
      obtain ⟨n, rfl⟩ : ∃ n, d = .fn n := by cases d <;> first | exact ⟨_, rfl⟩ | cases hf
      exact iteT ⟨.ref a, rfl, a, _, 1, .int n, rfl, rfl, t.sq, atI_nat (j := 1) rfl, kQ⟩
    | false =>
      have e : fnV d = .non := by cases d <;> first | rfl | cases hf
      rw [e] at kQ
      refine iteF ⟨.ref a, rfl, a, _, 0, .str d.word, rfl, rfl, t.sq, atI_nat (j := 0) rfl, rfl, d.isRef, congrArg V.bl d.word_ref, ?_⟩
      cases z : d.isRef with
      | false => exact iteF (iteF kQ)
      | true =>
        obtain ⟨n, rfl⟩ : ∃ n, d = .ref n := by cases d <;> first | exact ⟨_, rfl⟩ | cases z
        obtain ⟨i, c, rfl, hc⟩ := hin n rfl
        obtain ⟨tl, ec⟩ := WorldAt.con0 (c := c) (L := L) (i := i)
        have hcl := W.cellL hc
        rw [ec] at hcl
        exact iteT ⟨_, rfl, L .inst, L .own, _, rfl, W.at_ .inst trivial, f_no (by decide +kernel), .ref a, rfl, L, R, i, .ref a, rfl, W, lt_of hc, hv, L (.cell i), _, 0, .str c.word, rfl, rfl, SqL.of hcl, atI_nat (j := 0) rfl, rfl, false, congrArg V.bl c.word_closure, iteF kQ⟩
theorem ok_shapeOf {f fC : Addr} {fd fdC : FuncData} (F : Fun K "shape_of" "World.shape_of" (sW 22) f fd) (T : WT K mg C) (GC : FnOk P w K mg base CX0 1 fC fdC ["self", "value"] (spCell K C)) (cC : Mc K C "cell" fC fdC ["self", "value"]) :
    FnOk P w K mg base CX0 2 f fd ["self", "value"] (spShapeOf K C) := by
  refine F.ok scShapeOf (fun vs H Q E h => ?_) (fun cdv A outer s H vs Q E hr h => ?_)
  · obtain ⟨L, R, v, d, rfl, _⟩ := h; rfl
  · refine ⟨_, pss_cons (ps_if (PW.pt (pw_and (pt_cmpR op_eq (pe_ix ix_tup (pv 1) pe_int (fun _ _ => rfl)) pe_str (nomark _)) (pw_and1 (pt_cmpR op_eq (pe_ix ix_list (pe_meth (pv 0) T.cl cC.m GC hr cC.b .nil pass0 (pa_cons (pv 1) pa_nil)) pe_int (fun _ _ => rfl)) pe_str (nomark _)))))
        (pss_one (ps_ret (pe_ix ix_list (pe_meth (pv 0) T.cl cC.m GC hr cC.b .nil pass0 (pa_cons (pv 1) pa_nil)) pe_int (fun _ _ => rfl)))) pss_nil)
      (pss_one (ps_ret pe_non)), ?_⟩
    obtain ⟨L, R, v, d, rfl, W, hv, hin, kQ⟩ := h
    obtain ⟨a, rfl, t⟩ := id hv
    cases hd : d.isRef with
    | false =>
      have e : R.shapeV d = .non := by cases d <;> first | rfl | cases hd
      rw [e] at kQ
      refine tAnd_ok (a := false) (b := false) (fun Q q => ?_) (fun z Q q => by cases z) (iteF kQ)
      exact ⟨.ref a, rfl, a, _, 0, .str d.word, rfl, rfl, t.sq, atI_nat (j := 0) rfl, rfl, _, congrArg V.bl (d.word_ref.trans hd), q⟩
    | true =>
      obtain ⟨n, rfl⟩ : ∃ n, d = .ref n := by cases d <;> first | exact ⟨_, rfl⟩ | cases hd
      obtain ⟨i, c, rfl, hc⟩ := hin n rfl
      have e : R.shapeV (.ref (i : Int)) = (some c).elim .non Cell.shV := by
        rw [← hc]
        show (match R.cells[((i : Nat) : Int).toNat]? with | some (.obj sh _) => V.int (sh : Int) | _ => .non) = _
        rw [Int.toNat_natCast]
        cases R.cells[i]? with
        | none => rfl
        | some c => cases c <;> rfl
      rw [e] at kQ
      have hcl := W.cellL hc
      cases c with
      | obj sh ps =>
        refine tAnd_ok (a := true) (b := true) (fun Q q => ⟨.ref a, rfl, a, _, 0, .str "ref", rfl, rfl, t.sq, atI_nat (j := 0) rfl, rfl, _, rfl, q⟩) (fun z Q q => ?_) (iteT ?_)
        · exact ⟨_, rfl, L .inst, L .own, _, rfl, W.at_ .inst trivial, f_no (by decide +kernel), .ref a, rfl, L, R, i, .ref a, rfl, W, lt_of hc, hv, L (.cell i), _, 0, .str "object", rfl, rfl, SqL.of hcl, atI_nat (j := 0) rfl, rfl, true, rfl, q⟩
        · exact ⟨_, rfl, L .inst, L .own, _, rfl, W.at_ .inst trivial, f_no (by decide +kernel), .ref a, rfl, L, R, i, .ref a, rfl, W, lt_of hc, hv, L (.cell i), _, 1, .int (sh : Int), rfl, rfl, SqL.of hcl, atI_nat (j := 1) rfl, kQ⟩
      | lst ps =>
        refine tAnd_ok (a := true) (b := false) (fun Q q => ⟨.ref a, rfl, a, _, 0, .str "ref", rfl, rfl, t.sq, atI_nat (j := 0) rfl, rfl, _, rfl, q⟩) (fun z Q q => ?_) (iteF kQ)
        exact ⟨_, rfl, L .inst, L .own, _, rfl, W.at_ .inst trivial, f_no (by decide +kernel), .ref a, rfl, L, R, i, .ref a, rfl, W, lt_of hc, hv, L (.cell i), _, 0, .str "list", rfl, rfl, SqL.of hcl, atI_nat (j := 0) rfl, rfl, false, by rfl, q⟩
theorem kindOf_kd {R : WS} {d : Val} (h : d.In R) : KdOf d (R.kindOf d) := by
  cases d with
  | ref n =>
    obtain ⟨i, c, rfl, hc⟩ := h n rfl
    refine .inr ⟨⟨_, rfl⟩, ?_⟩
    rw [kindOf_ref hc]
    cases c
    · exact .inl rfl
    · exact .inr rfl
  | _ => exact .inl rfl
theorem ok_out {f fK fX : Addr} {fd fdK fdX : FuncData} (F : Fun K "out" "World.out" (sW 23) f fd) (T : WT K mg C) (GK : FnOk P w K mg base CX0 2 fK fdK ["self", "value"] (spKind K C)) (cK : Mc K C "kind" fK fdK ["self", "value"])
    (GX : FnOk P w K mg base CX0 1 fX fdX ["value", "kind"] (spTextOf K)) (cX : Fc K mg "text_of" fX fdX ["value", "kind"]) : FnOk P w K mg base CX0 3 f fd ["self", "value"] (spOut K C) := by
  refine F.ok scOut (fun vs H Q E h => ?_) (fun cdv A outer s H vs Q E hr h => ?_)
  · obtain ⟨L, R, v, d, rfl, _⟩ := h; rfl
  · refine ⟨_, pss_one (ps_expr (pe_bm PySem.F.plainAttrs_list PySem.F.slot_list_append PySem.F.type_list_append mt_append (pe_fld (pv 0) rfl) (pa_cons (pe_call GX (hr.mono (by decide)) rfl cX.g cX.kp cX.b .nil pass0 (pa_cons (pv 1) (pa_cons (pe_meth (pv 0) T.cl cK.m GK hr cK.b .nil pass0 (pa_cons (pv 1) pa_nil)) pa_nil))) pa_nil))), ?_⟩
    obtain ⟨L, R, v, d, rfl, W, hv, hin, hm, hp, kQ⟩ := h
    refine ⟨_, rfl, L .inst, C, L .own, _, _, rfl, W.at_ .inst trivial, T.cl, T.nPrinted, f_printed, .inl ⟨rfl, _, SqL.of (W.at_ .printed trivial)⟩, v, rfl, _, rfl, L .inst, L .own, _, rfl, W.at_ .inst trivial, f_no (by decide +kernel), v, rfl, L, R, v, d, rfl, W, hv, hin, fun H1 sm => ?_⟩
    have W1 := W.same sm
    refine ⟨v, d, _, rfl, hv.keep (KeepT.of sm), hm, kindOf_kd hin, L .printed, _, _, rfl, rfl, W1.at_ .printed trivial, ?_, ?_⟩
    · rw [List.length_map]; unfold sizeLine; omega
    refine kQ _ (W1.put (l := .printed) trivial rfl ?_ (fun m hm _ => ?_) W1.sh W1.vs) (Kept.put (Kept.of sm) (l := .printed) trivial _)
    · show HO.lst ((R.printed ++ [_]).map V.str) = _
      rw [List.map_append]; rfl
    · cases m <;> first | rfl | exact absurd rfl hm
end
end My
namespace My
open PySem PySem.Spec PyProof.Rows L2
theorem scPutCell : FnScope ["self", "cell"] ["self", "cell"] (defScope (sW 7)) := ⟨rfl, rfl, rfl, by decide +kernel, rfl, by decide +kernel, by decide +kernel⟩
theorem scNewObject : FnScope ["self"] ["self"] (defScope (sW 9)) := ⟨rfl, rfl, rfl, by decide +kernel, rfl, by decide +kernel, by decide +kernel⟩
theorem scNewList : FnScope ["self", "values"] ["self", "values"] (defScope (sW 10)) := ⟨rfl, rfl, rfl, by decide +kernel, rfl, by decide +kernel, by decide +kernel⟩
theorem scInitW : FnScope ["self"] ["self"] (defScope (sW 0)) := ⟨rfl, rfl, rfl, by decide +kernel, rfl, by decide +kernel, by decide +kernel⟩
def WS.addCell (R : WS) (c : Cell) : WS := { R with cells := R.cells ++ [c] }
def lay (L : Lab → Addr) (n : Nat) (l z : Addr) : Lab → Addr := fun m => if m = .cell n then l else if m = .vals n then z else L m
theorem lay_old {L : Lab → Addr} {n : Nat} {l z : Addr} {m : Lab} (h : live n m) : lay L n l z m = L m := by
  unfold lay
  rw [if_neg (fun q => by subst q; exact Nat.lt_irrefl _ h), if_neg (fun q => by subst q; exact Nat.lt_irrefl _ h)]
theorem lay_cell {L : Lab → Addr} {n : Nat} {l z : Addr} : lay L n l z (.cell n) = l := if_pos rfl
theorem lay_vals {L : Lab → Addr} {n : Nat} {l z : Addr} : lay L n l z (.vals n) = z := by unfold lay; rw [if_neg (by intro q; cases q), if_pos rfl]
theorem live_succ {n : Nat} {m : Lab} (h : live (n + 1) m) : live n m ∨ m = .cell n ∨ m = .vals n := by
  cases m with
  | cell i =>
    have h' : i < n + 1 := h
    by_cases q : i = n
    · subst q; exact .inr (.inl rfl)
    · exact .inl (show i < n by omega)
  | vals i =>
    have h' : i < n + 1 := h
    by_cases q : i = n
    · subst q; exact .inr (.inr rfl)
    · exact .inl (show i < n by omega)
  | _ => exact .inl trivial
theorem cellsD_lay {L : Lab → Addr} {n : Nat} {l z : Addr} : cellsD (lay L n l z) (n + 1) = cellsD L n ++ [(Sum.inl (n : Int), V.ref l)] := by
  unfold cellsD
  rw [List.range_succ, List.map_append]
  congr 1
  · refine List.map_congr_left fun i hi => ?_
    rw [lay_old (m := .cell i) (List.mem_range.mp hi)]
  · show [((Sum.inl (n : Int) : Key), V.ref (lay L n l z (.cell n)))] = _
    rw [lay_cell]
theorem con_lay {C : Addr} {L : Lab → Addr} {R : WS} {c : Cell} {l z : Addr} {m : Lab} (h : live R.cells.length m) (h1 : m ≠ .inst) (h2 : m ≠ .cells) : con C (lay L R.cells.length l z) (R.addCell c) m = con C L R m := by
  cases m with
  | inst => exact absurd rfl h1
  | cells => exact absurd rfl h2
  | own => show HO.own (lay L R.cells.length l z .inst) = _; rw [lay_old (m := .inst) trivial]; rfl
  | cell i =>
    have hi : i < R.cells.length := h
    have e : (R.addCell c).cells[i]? = R.cells[i]? := List.getElem?_append_left hi
    simp only [con, e]
    cases q : R.cells[i]? with
    | none => rfl
    | some c' => cases c' <;> (simp only [Cell.con]; rw [lay_old (m := .vals i) hi])
  | vals i =>
    have hi : i < R.cells.length := h
    have e : (R.addCell c).cells[i]? = R.cells[i]? := List.getElem?_append_left hi
    simp only [con, e]
  | _ => rfl
/-- a cell more -/
theorem WorldAt.ext {K : PySem.W.Frag} {C : Addr} {H : Hp} {L : Lab → Addr} {R : WS} (W : WorldAt K C H L R) {c : Cell} {l z : Addr} (hl : H l = none) (hz : H z = some (.lst (c.vs.map (·.1)))) (out : ∀ m, live R.cells.length m → L m ≠ z) (hv : ∀ p ∈ c.vs, Vl K H p.1 p.2)
    (rest : List V) (hr : c.con (fun _ => z) R.cells.length = .lst rest) (hn : R.cells.length < 1000) :
    WorldAt K C (upd (upd (upd H l (.lst rest)) (L .cells) (.dK (putK (cellsD L R.cells.length) (Sum.inl (R.cells.length : Int)) (.ref l)))) (L .inst) (.ins C (L .own) (putF "fresh" (.int ((R.cells.length : Int) + 1)) (flds L R.cells.length)))) (lay L R.cells.length l z) (R.addCell c) := by
  have hlen : (R.addCell c).cells.length = R.cells.length + 1 := by show (R.cells ++ [c]).length = _; rw [List.length_append]; rfl
  have nl : ∀ m, live R.cells.length m → L m ≠ l := fun m hm q => by have := W.at_ m hm; rw [q, hl] at this; cases this
  have nzl : z ≠ l := ne_of_none hz hl
  have nic : L .cells ≠ L .inst := fun q => by have := W.inj .cells .inst trivial trivial q; cases this
  have kt : KeepT H (upd (upd (upd H l (.lst rest)) (L .cells) (.dK (putK (cellsD L R.cells.length) (Sum.inl (R.cells.length : Int)) (.ref l)))) (L .inst) (.ins C (L .own) (putF "fresh" (.int ((R.cells.length : Int) + 1)) (flds L R.cells.length)))) := fun b xs e => by
    have n1 : b ≠ L .inst := fun q => by subst q; rw [W.at_ .inst trivial] at e; exact absurd (Option.some.inj e) (con_notup _ xs)
    have n2 : b ≠ L .cells := fun q => by subst q; rw [W.at_ .cells trivial] at e; exact absurd (Option.some.inj e) (con_notup _ xs)
    rw [upd_ne n1, upd_ne n2, upd_ne (ne_of_none e hl)]
    exact e
  refine ⟨fun m hm => ?_, fun a b ha hb q => ?_, fun s hs => by obtain ⟨a, e, t⟩ := W.sh s hs; exact ⟨a, e, t.keep kt⟩, fun c' hc' p hp => ?_⟩
  · rw [hlen] at hm
    rcases live_succ hm with hm | rfl | rfl
    · rw [lay_old hm]
      by_cases h1 : m = .inst
      · subst h1
        rw [upd_same]
        show some (HO.ins C (L .own) _) = some (HO.ins C (lay L R.cells.length l z .own) (flds (lay L R.cells.length l z) (R.addCell c).cells.length))
        rw [lay_old (m := .own) trivial, f_put, hlen]
        unfold flds
        rw [lay_old (m := .shapes) trivial, lay_old (m := .kinds) trivial, lay_old (m := .children) trivial, lay_old (m := .widened) trivial, lay_old (m := .cells) trivial, lay_old (m := .printed) trivial]
        rfl
      · have n1 : L m ≠ L .inst := fun q => h1 (W.inj m .inst hm trivial q)
        rw [upd_ne n1]
        by_cases h2 : m = .cells
        · subst h2
          rw [upd_same]
          show some (HO.dK _) = some (HO.dK (cellsD (lay L R.cells.length l z) (R.addCell c).cells.length))
          rw [hlen, cellsD_lay, putK_new]
          unfold valV cellsD
          have q : ((List.range R.cells.length).map fun (i : Nat) => ((Sum.inl (i : Int) : Key), V.ref (L (.cell i)))).find? (fun kv => decide (kv.1 = Sum.inl (R.cells.length : Int))) = none := by
            rw [List.find?_eq_none]
            intro x hx
            obtain ⟨j, hj, rfl⟩ := List.mem_map.mp hx
            have := List.mem_range.mp hj
            simp
            omega
          rw [q]; rfl
        · rw [upd_ne (fun q => h2 (W.inj m .cells hm trivial q)), upd_ne (nl m hm), W.at_ m hm, con_lay hm h1 h2]
    · rw [lay_cell, upd_ne (fun q => nl .inst trivial q.symm), upd_ne (fun q => nl .cells trivial q.symm), upd_same]
      have e : (R.addCell c).cells[R.cells.length]? = some c := by show (R.cells ++ [c])[R.cells.length]? = _; rw [List.getElem?_append_right (Nat.le_refl _), Nat.sub_self]; rfl
      simp only [con, e]
      rw [← hr]
      cases c <;> (simp only [Cell.con]; rw [lay_vals])
    · rw [lay_vals, upd_ne (fun q => out .inst trivial q.symm), upd_ne (fun q => out .cells trivial q.symm), upd_ne nzl, hz]
      have e : (R.addCell c).cells[R.cells.length]? = some c := by show (R.cells ++ [c])[R.cells.length]? = _; rw [List.getElem?_append_right (Nat.le_refl _), Nat.sub_self]; rfl
      simp only [con, e]
  · rw [hlen] at ha hb
    rcases live_succ ha with ha | rfl | rfl <;> rcases live_succ hb with hb | rfl | rfl
    · rw [lay_old ha, lay_old hb] at q; exact W.inj a b ha hb q
    · rw [lay_old ha, lay_cell] at q; exact absurd q (nl a ha)
    · rw [lay_old ha, lay_vals] at q; exact absurd q (out a ha)
    · rw [lay_old hb, lay_cell] at q; exact absurd q.symm (nl b hb)
    · rfl
    · rw [lay_cell, lay_vals] at q; exact absurd q.symm nzl
    · rw [lay_old hb, lay_vals] at q; exact absurd q.symm (out b hb)
    · rw [lay_cell, lay_vals] at q; exact absurd q nzl
    · rfl
  · rcases List.mem_append.mp hc' with q | q
    · exact (W.vs c' q p hp).keep kt
    · obtain rfl := List.mem_singleton.mp q; exact (hv p hp).keep kt
/-- what follows a new cell -/
def NewCell (K : PySem.W.Frag) (C : Addr) (H : Hp) (L : Lab → Addr) (R : WS) (c : Cell) (z : Addr) (Q : VK) : Prop := ∀ H' L' v, WorldAt K C H' L' (R.addCell c) → (∀ m, live R.cells.length m → L' m = L m) → (∀ m, live (R.cells.length + 1) m → live R.cells.length m ∨ L' m = z ∨ H (L' m) = none) →
  Kept R.cells.length L H H' → Vl K H' v (.ref (R.cells.length : Int)) → Q v H'
def spPutCell0 (K : PySem.W.Frag) (C : Addr) : Sp := fun vs H Q _ => ∃ (L : Lab → Addr) (R : WS) (c : Cell) (z t : Addr) (rest : List V), vs = [.ref (L .inst), .ref t] ∧ WorldAt K C H L R ∧ SqT K H t rest ∧ c.con (fun _ => z) R.cells.length = .lst rest ∧ H z = some (.lst (c.vs.map (·.1))) ∧
  (∀ m, live R.cells.length m → L m ≠ z) ∧ (∀ p ∈ c.vs, Vl K H p.1 p.2) ∧ R.cells.length < 1000 ∧ NewCell K C H L R c z Q
def spPutCell (K : PySem.W.Frag) (C : Addr) : Sp := fun vs H Q _ => ∃ (L : Lab → Addr) (R : WS) (c : Cell) (z : Addr) (rest : List V), vs = .ref (L .inst) :: rest ∧ WorldAt K C H L R ∧ rest.length ≤ 3 ∧ c.con (fun _ => z) R.cells.length = .lst rest ∧ H z = some (.lst (c.vs.map (·.1))) ∧
  (∀ m, live R.cells.length m → L m ≠ z) ∧ (∀ p ∈ c.vs, Vl K H p.1 p.2) ∧ R.cells.length < 1000 ∧ NewCell K C H L R c z Q
def spNewObject (K : PySem.W.Frag) (C : Addr) : Sp := fun vs H Q _ => ∃ (L : Lab → Addr) (R : WS), vs = [.ref (L .inst)] ∧ WorldAt K C H L R ∧ R.cells.length < 1000 ∧
  ∀ H' L' v, WorldAt K C H' L' (R.addCell (.obj 0 [])) → (∀ m, live R.cells.length m → L' m = L m) → (∀ m, live (R.cells.length + 1) m → live R.cells.length m ∨ H (L' m) = none) → Kept R.cells.length L H H' → Vl K H' v (.ref (R.cells.length : Int)) → Q v H'
def spNewList (K : PySem.W.Frag) (C : Addr) : Sp := fun vs H Q _ => ∃ (L : Lab → Addr) (R : WS) (a : Addr) (ps : List VV), vs = [.ref (L .inst), .ref a] ∧ WorldAt K C H L R ∧ SqL K H a (ps.map (·.1)) ∧ (∀ p ∈ ps, Vl K H p.1 p.2) ∧ R.cells.length < 1000 ∧
  ∀ H' L' v, WorldAt K C H' L' (R.addCell (.lst ps)) → (∀ m, live R.cells.length m → L' m = L m) → (∀ m, live (R.cells.length + 1) m → live R.cells.length m ∨ H (L' m) = none) → Kept R.cells.length L H H' → Vl K H' v (.ref (R.cells.length : Int)) → Q v H'
section
variable {P : Program} {w : World} {K : PySem.W.Frag} {mg : Str → Option Value} {base : Heap} {C : Addr}
theorem ok_putCell {f : Addr} {fd : FuncData} (F : Fun K "put_cell" "World.put_cell" (sW 7) f fd) (T : WT K mg C) (hlist : mg "list" = none) : FnR P w K mg base CX0 2 f (spPutCell K C) := by
  obtain ⟨oc, od, kV, doc, pm, an, cdv, ct, osl, rfl, lk, hcd⟩ := F.ex
  refine FnR.imp (sp := fun vs H Q E => ∃ ws rest, vs = ws ++ rest ∧ ws.length = (["self"] : List Str).length ∧ rest.length ≤ sizeLine ∧ ∀ p, H p = none → spPutCell0 K C (ws ++ [V.ref p]) (upd H p (.tup rest)) Q E)
    (StX.fn_star (ps := ["self"]) lk hcd scPutCell StX.cxUp_none (fun us rest hl => match us, rest, hl with | [_], [], _ => rfl | [_], _ :: _, _ => rfl) fun A outer s H vs Q E hr h => ?_) fun vs H Q E h => ?_
  · obtain ⟨L, R, c, z, t, rest, rfl, W, ht, hrest, hz, out, hv, hn, k⟩ := h
    have key : ∃ t', PSs (cxOf CX0 P w K mg base ["self", "cell"] "World.put_cell" (defScope (sW 7)) f cdv A outer s H E).nox (defBody (sW 7)) t' ∧ t' { nx := fun _ H' => Q .non H', rt := Q } (start ["self", "cell"] [.ref (L .inst), .ref t]) H := by
      refine ⟨_, pss_cons (ps_dput (hu_of hr) (pe_fld (pv 0) rfl) (pe_fld (pv 0) rfl) (pe_callTy call_list_of (by rfl) hlist (by decide +kernel) (pa_cons (pv 1) pa_nil)) rfl)
        (pss_cons (ps_fld (pv 0) (pe_op op_add (pe_fld (pv 0) rfl) pe_int) rfl)
        (pss_one (ps_ret (pe_tup (pa_cons pe_str (pa_cons (pe_op op_sub (pe_fld (pv 0) rfl) pe_int) pa_nil)))))), ?_⟩
      refine ⟨.ref t, rfl, t, rest, rfl, .inr ht, fun l hl => ?_⟩
      have W1 := W.same (same_new (o := .lst rest) hl)
      have nic : L .inst ≠ L .cells := fun q => by have := W.inj .inst .cells trivial trivial q; cases this
      have W3 := W.ext hl hz out hv rest hrest hn
      have hi2 : (upd (upd H l (.lst rest)) (L .cells) (.dK (putK (cellsD L R.cells.length) (Sum.inl (R.cells.length : Int)) (.ref l)))) (L .inst) = some (.ins C (L .own) (flds L R.cells.length)) := by rw [upd_ne nic]; exact W1.at_ .inst trivial
      refine ⟨_, rfl, L .inst, C, L .own, _, _, rfl, W1.at_ .inst trivial, T.cl, T.nCells, f_cells, _, rfl, L .inst, C, L .own, _, _, rfl, W1.at_ .inst trivial, T.cl, T.nFresh, f_fresh, L .cells, _, rfl, DPut.k (k := Sum.inl (R.cells.length : Int)) (W1.at_ .cells trivial) (by show (cellsD L R.cells.length).length < _; unfold cellsD; rw [List.length_map, List.length_range]; unfold sizeLine; omega), ?_⟩
      refine ⟨_, rfl, L .inst, C, L .own, _, _, rfl, hi2, T.cl, T.nFresh, f_fresh, _, _, rfl, rfl, _, rfl, L .inst, C, L .own, _, rfl, hi2, T.cl, T.nFresh, by show 7 < 1000; decide, ?_⟩
      refine ⟨_, rfl, L .inst, C, L .own, _, .int ((R.cells.length : Int) + 1), rfl, upd_same, T.cl, T.nFresh, ?_, _, _, rfl, rfl, by show 2 ≤ sizeLine; decide, fun u hu => ?_⟩
      · rw [lookup_putF, if_pos rfl]
      have sm := same_new (o := .tup [.str "ref", .int ((R.cells.length : Int) + 1 - 1)]) hu
      refine k _ (lay L R.cells.length l z) _ (W3.same sm) (fun m hm => lay_old hm) (fun m hm => ?_) (Kept.same (Kept.put (Kept.put (Kept.of (same_new hl)) (l := .cells) trivial _) (l := .inst) trivial _) sm) ⟨u, rfl, .inl ?_⟩
      · rcases live_succ hm with q | rfl | rfl
        · exact .inl q
        · exact .inr (.inr (by rw [lay_cell]; exact hl))
        · exact .inr (.inl lay_vals)
      · rw [upd_same]
        show some (HO.tup [V.str "ref", V.int ((R.cells.length : Int) + 1 - 1)]) = _
        rw [Int.add_sub_cancel]; rfl
    obtain ⟨t', h1, h2⟩ := key
    exact ⟨t', h1.nox, h2⟩
  · obtain ⟨L, R, c, z, rest, rfl, W, hl, hrest, hz, out, hv, hn, k⟩ := h
    refine ⟨[.ref (L .inst)], rest, rfl, rfl, by unfold sizeLine; omega, fun p hp => ?_⟩
    have sm : Same H (upd H p (.tup rest)) := same_new hp
    refine ⟨L, R, c, z, p, rest, rfl, W.same sm, SqT.of upd_same, hrest, sm z _ hz, out, fun q hq => (hv q hq).keep (KeepT.of sm), hn, fun H' L' v a1 a2 a3 a4 a5 => k H' L' v a1 a2 (fun m hm => ?_) (Kept.trans (Kept.of sm) a4) a5⟩
    rcases a3 m hm with q | q | q
    · exact .inl q
    · exact .inr (.inl q)
    · exact .inr (.inr (sm.free q))
theorem ok_newObject {f fP : Addr} {fd : FuncData} (F : Fun K "new_object" "World.new_object" (sW 9) f fd) (T : WT K mg C) (GP : FnR P w K mg base CX0 2 fP (spPutCell K C)) (mP : Meth K C "put_cell" fP) : FnOk P w K mg base CX0 3 f fd ["self"] (spNewObject K C) := by
  refine F.ok scNewObject (fun vs H Q E h => ?_) (fun cdv A outer s H vs Q E hr h => ?_)
  · obtain ⟨L, R, rfl, _⟩ := h; rfl
  · refine ⟨_, pss_one (ps_ret (pe_methR (pv 0) T.cl mP GP hr pass0 (pa_cons pe_str (pa_cons pe_int (pa_cons (pe_lst pa_nil) pa_nil))))), ?_⟩
    obtain ⟨L, R, rfl, W, hn, k⟩ := h
    refine ⟨_, rfl, L .inst, L .own, _, rfl, W.at_ .inst trivial, f_no (by decide +kernel), by show 0 ≤ sizeLine; omega, fun z hz => ?_⟩
    have sm : Same H (upd H z (.lst [])) := same_new hz
    have out : ∀ m, live R.cells.length m → L m ≠ z := fun m hm q => by subst q; rw [W.at_ m hm] at hz; cases hz
    refine ⟨L, R, .obj 0 [], z, _, rfl, W.same sm, by show 3 ≤ 3; decide, rfl, upd_same, out, (fun p hp => (nomatch hp)), hn, fun H' L' v a1 a2 a3 a4 a5 => k H' L' v a1 a2 (fun m hm => ?_) (Kept.trans (Kept.of sm) a4) a5⟩
    rcases a3 m hm with q | q | q
    · exact .inl q
    · exact .inr (by rw [q]; exact hz)
    · exact .inr (sm.free q)
theorem ok_newList {f fP : Addr} {fd : FuncData} (F : Fun K "new_list" "World.new_list" (sW 10) f fd) (T : WT K mg C) (hlist : mg "list" = none) (GP : FnR P w K mg base CX0 2 fP (spPutCell K C)) (mP : Meth K C "put_cell" fP) : FnOk P w K mg base CX0 3 f fd ["self", "values"] (spNewList K C) := by
  refine F.ok scNewList (fun vs H Q E h => ?_) (fun cdv A outer s H vs Q E hr h => ?_)
  · obtain ⟨L, R, a, ps, rfl, _⟩ := h; rfl
  · refine ⟨_, pss_one (ps_ret (pe_methR (pv 0) T.cl mP GP hr pass0 (pa_cons pe_str (pa_cons (pe_callTy call_list_of (by rfl) hlist (by decide +kernel) (pa_cons (pv 1) pa_nil)) pa_nil)))), ?_⟩
    obtain ⟨L, R, a, ps, rfl, W, hS, hv, hn, k⟩ := h
    refine ⟨_, rfl, L .inst, L .own, _, rfl, W.at_ .inst trivial, f_no (by decide +kernel), .ref a, rfl, a, _, rfl, .inl hS, fun z hz => ?_⟩
    have sm : Same H (upd H z (.lst (ps.map (·.1)))) := same_new hz
    have out : ∀ m, live R.cells.length m → L m ≠ z := fun m hm q => by subst q; rw [W.at_ m hm] at hz; cases hz
    refine ⟨L, R, .lst ps, z, _, rfl, W.same sm, by show 2 ≤ 3; decide, rfl, upd_same, out, fun p hp => (hv p hp).keep (KeepT.of sm), hn, fun H' L' v a1 a2 a3 a4 a5 => k H' L' v a1 a2 (fun m hm => ?_) (Kept.trans (Kept.of sm) a4) a5⟩
    rcases a3 m hm with q | q | q
    · exact .inl q
    · exact .inr (by rw [q]; exact hz)
    · exact .inr (sm.free q)
end
end My
namespace My
open PySem PySem.Spec PyProof.Rows L2
theorem scStore : FnScope ["self", "value", "k", "told", "cell"] ["self", "value", "k", "told"] (defScope (sW 13)) := ⟨rfl, rfl, rfl, by decide +kernel, rfl, by decide +kernel, by decide +kernel⟩
theorem scGrow : FnScope ["self", "value", "shape", "told", "cell"] ["self", "value", "shape", "told"] (defScope (sW 14)) := ⟨rfl, rfl, rfl, by decide +kernel, rfl, by decide +kernel, by decide +kernel⟩
theorem Chain.lt {S : List Sh} {i : Nat} {rs : List Str} (h : Chain S i rs) : i < S.length := by
  cases h with
  | root a _ _ => exact lt_of a
  | step _ a _ _ _ => exact lt_of a
theorem WS.note_small {R : WS} {i : Nat} {d : Val} : (R.note i d).small.length = R.small.length := by
  unfold WS.note
  split
  · exact List.length_set
  · rfl
theorem WS.note_cells {R : WS} {i : Nat} {d : Val} : (R.note i d).cells = R.cells := by unfold WS.note; split <;> rfl
theorem WS.note_shapes {R : WS} {i : Nat} {d : Val} : (R.note i d).shapes = R.shapes := by unfold WS.note; split <;> rfl
def spStore (K : PySem.W.Frag) (C : Addr) : Sp := fun vs H Q _ => ∃ (L : Lab → Addr) (R : WS) (i : Nat) (v : V) (sh k : Nat) (ps : List VV) (p : VV) (rs : List Str), vs = [.ref (L .inst), v, .int (k : Int), p.1] ∧ WorldAt K C H L R ∧ Vl K H v (.ref (i : Int)) ∧ R.cells[i]? = some (.obj sh ps) ∧ Chain R.shapes sh rs ∧ k < rs.length ∧ ps.length = rs.length ∧ Vl K H p.1 p.2 ∧ R.small.length = R.shapes.length ∧ R.widened.length < 1000 ∧
  ∀ j H', Chain R.shapes j (rs.drop (rs.length - (k + 1))) → WorldAt K C H' L ((R.note j p.2).setCell i (.obj sh (ps.set k p))) → Kept R.cells.length L H H' → Q .non H'
def spGrow (K : PySem.W.Frag) (C : Addr) : Sp := fun vs H Q _ => ∃ (L : Lab → Addr) (R : WS) (i : Nat) (v : V) (sh j : Nat) (ps : List VV) (p : VV), vs = [.ref (L .inst), v, .int (j : Int), p.1] ∧ WorldAt K C H L R ∧ Vl K H v (.ref (i : Int)) ∧ R.cells[i]? = some (.obj sh ps) ∧ j < R.small.length ∧ ps.length < 1000 ∧ Vl K H p.1 p.2 ∧ R.widened.length < 1000 ∧
  ∀ H', WorldAt K C H' L ((R.note j p.2).setCell i (.obj j (ps ++ [p]))) → Kept R.cells.length L H H' → Q .non H'
section
variable {P : Program} {w : World} {K : PySem.W.Frag} {mg : Str → Option Value} {base : Heap} {C : Addr}
theorem ok_store {f fC fN fW : Addr} {fd fdC fdN fdW : FuncData} (F : Fun K "store" "World.store" (sW 13) f fd) (T : WT K mg C) (GC : FnOk P w K mg base CX0 1 fC fdC ["self", "value"] (spCell K C)) (cC : Mc K C "cell" fC fdC ["self", "value"])
    (GN : FnOk P w K mg base CX0 2 fN fdN ["self", "shape", "value"] (spNote K C)) (cN : Mc K C "note" fN fdN ["self", "shape", "value"]) (GW : FnOk P w K mg base CX0 1 fW fdW ["self", "shape", "k"] (spOwner K C)) (cW : Mc K C "owner" fW fdW ["self", "shape", "k"]) :
    FnOk P w K mg base CX0 3 f fd ["self", "value", "k", "told"] (spStore K C) := by
  refine F.ok scStore (fun vs H Q E h => ?_) (fun cdv A outer s H vs Q E hr h => ?_)
  · obtain ⟨L, R, i, v, sh, k, ps, p, rs, rfl, _⟩ := h; rfl
  · refine ⟨_, pss_cons (ps_set (i := 4) scStore.nd rfl (.inl rfl) (pe_meth (pv 0) T.cl cC.m GC (hr.mono (by decide)) cC.b .nil pass0 (pa_cons (pv 1) pa_nil)))
      (pss_cons (ps_expr (pe_meth (pv 0) T.cl cN.m GN hr cN.b .nil pass0 (pa_cons (pe_meth (pv 0) T.cl cW.m GW (hr.mono (by decide)) cW.b .nil pass0 (pa_cons (pe_ix ix_list (pv 4) pe_int (fun _ _ => rfl)) (pa_cons (pv 2) pa_nil))) (pa_cons (pv 3) pa_nil))))
      (pss_one (ps_asg (pv 3) (pg_sub (pe_ix ix_list (pv 4) pe_int (fun _ _ => rfl)) (pv 2) set_list)))), ?_⟩
    obtain ⟨L, R, i, v, sh, k, ps, p, rs, rfl, W, hv, hc, ch, hk, hps, hp, hsm, hw, kQ⟩ := h
    have hcl := W.cellL hc
    refine ⟨_, rfl, L .inst, L .own, _, rfl, W.at_ .inst trivial, f_no (by decide +kernel), v, rfl, L, R, i, v, rfl, W, lt_of hc, hv, ?_⟩
    refine ⟨_, rfl, L .inst, L .own, _, rfl, W.at_ .inst trivial, f_no (by decide +kernel), _, rfl, L .inst, L .own, _, rfl, W.at_ .inst trivial, f_no (by decide +kernel), _, rfl, L (.cell i), _, 1, .int (sh : Int), rfl, rfl, SqL.of hcl, atI_nat (j := 1) rfl, _, rfl, L, R, sh, k, rs, rfl, W.shAt, ch, hk, fun j cj => ?_⟩
    refine ⟨p.1, rfl, L, R, j, p.1, p.2, rfl, W, by rw [hsm]; exact cj.lt, hp, hw, fun H1 W1 K1 => ?_⟩
    have hc1 : (R.note j p.2).cells[i]? = some (.obj sh ps) := by rw [WS.note_cells]; exact hc
    have hcl1 := W1.cellL hc1
    refine ⟨p.1, rfl, .ref (L (.cell i)), rfl, L (.cell i), _, 2, .ref (L (.vals i)), rfl, rfl, SqL.of hcl1, atI_nat (j := 2) rfl, _, rfl, L (.vals i), _, (k : Int), k, rfl, rfl, W1.valsL hc1, ixN_nat ?_, ?_⟩
    · show k < (ps.map (·.1)).length
      rw [List.length_map, hps]; exact hk
    refine kQ j _ cj (W1.putVals hc1 (c' := .obj sh (ps.set k p)) rfl ?_ fun q hq => ?_) (Kept.put K1 (l := .vals i) (lt_of hc) _)
    · show (ps.set k p).map (·.1) = _
      rw [List.map_set]; rfl
    · rcases List.mem_or_eq_of_mem_set hq with z | z
      · exact W1.vs _ (List.mem_of_getElem? hc1) q z
      · subst z; exact hp.keep (K1.tups W)
theorem ok_grow {f fC fN : Addr} {fd fdC fdN : FuncData} (F : Fun K "grow" "World.grow" (sW 14) f fd) (T : WT K mg C) (GC : FnOk P w K mg base CX0 1 fC fdC ["self", "value"] (spCell K C)) (cC : Mc K C "cell" fC fdC ["self", "value"])
    (GN : FnOk P w K mg base CX0 2 fN fdN ["self", "shape", "value"] (spNote K C)) (cN : Mc K C "note" fN fdN ["self", "shape", "value"]) : FnOk P w K mg base CX0 3 f fd ["self", "value", "shape", "told"] (spGrow K C) := by
  refine F.ok scGrow (fun vs H Q E h => ?_) (fun cdv A outer s H vs Q E hr h => ?_)
  · obtain ⟨L, R, i, v, sh, j, ps, p, rfl, _⟩ := h; rfl
  · refine ⟨_, pss_cons (ps_set (i := 4) scGrow.nd rfl (.inl rfl) (pe_meth (pv 0) T.cl cC.m GC (hr.mono (by decide)) cC.b .nil pass0 (pa_cons (pv 1) pa_nil)))
      (pss_cons (ps_expr (pe_meth (pv 0) T.cl cN.m GN hr cN.b .nil pass0 (pa_cons (pv 2) (pa_cons (pv 3) pa_nil))))
      (pss_cons (ps_asg (pv 2) (pg_sub (pv 4) pe_int set_list))
      (pss_one (ps_expr (pe_bm PySem.F.plainAttrs_list PySem.F.slot_list_append PySem.F.type_list_append mt_append (pe_ix ix_list (pv 4) pe_int (fun _ _ => rfl)) (pa_cons (pv 3) pa_nil)))))), ?_⟩
    obtain ⟨L, R, i, v, sh, j, ps, p, rfl, W, hv, hc, hj, hps, hp, hw, kQ⟩ := h
    refine ⟨_, rfl, L .inst, L .own, _, rfl, W.at_ .inst trivial, f_no (by decide +kernel), v, rfl, L, R, i, v, rfl, W, lt_of hc, hv, ?_⟩
    refine ⟨_, rfl, L .inst, L .own, _, rfl, W.at_ .inst trivial, f_no (by decide +kernel), _, rfl, p.1, rfl, L, R, j, p.1, p.2, rfl, W, hj, hp, hw, fun H1 W1 K1 => ?_⟩
    have hc1 : (R.note j p.2).cells[i]? = some (.obj sh ps) := by rw [WS.note_cells]; exact hc
    have hp1 : Vl K H1 p.1 p.2 := hp.keep (K1.tups W)
    have W2 := W1.putCell hc1 (c' := .obj j ps) (xs := [.str "object", .int (j : Int), .ref (L (.vals i))]) rfl rfl
    have kt2 := W1.tup_put (l := .cell i) (lt_of hc1) (.lst [.str "object", .int (j : Int), .ref (L (.vals i))])
    have hc2 : ((R.note j p.2).setCell i (.obj j ps)).cells[i]? = some (.obj j ps) := by rw [setCell_get (lt_of hc1), if_pos rfl]
    refine ⟨_, rfl, .ref (L (.cell i)), rfl, L (.cell i), _, 1, 1, rfl, rfl, W1.cellL hc1, ixN_nat (j := 1) (by show 1 < 3; decide), ?_⟩
    refine ⟨.ref (L (.cell i)), rfl, L (.cell i), _, 2, .ref (L (.vals i)), rfl, rfl, SqL.of (W2.cellL hc2), atI_nat (j := 2) rfl, .inl ⟨rfl, _, SqL.of (W2.valsL hc2)⟩, p.1, rfl, L (.vals i), _, _, rfl, rfl, W2.valsL hc2, ?_, ?_⟩
    · show (ps.map (·.1)).length < _
      rw [List.length_map]; unfold sizeLine; omega
    have W3 := W2.putVals hc2 (c' := .obj j (ps ++ [p])) (xs := ps.map (·.1) ++ [p.1]) rfl (by show (ps ++ [p]).map (·.1) = _; rw [List.map_append]; rfl) fun q hq => by
      rcases List.mem_append.mp hq with z | z
      · exact W2.vs _ (List.mem_of_getElem? hc2) q z
      · obtain rfl := List.mem_singleton.mp z; exact hp1.keep kt2
    have e : (((R.note j p.2).setCell i (.obj j ps)).setCell i (.obj j (ps ++ [p]))) = (R.note j p.2).setCell i (.obj j (ps ++ [p])) := by
      unfold WS.setCell
      simp
    rw [e] at W3
    exact kQ _ W3 (Kept.put (Kept.put K1 (l := .cell i) (lt_of hc) _) (l := .vals i) (lt_of hc) _)
theorem ok_namesOf {f : Addr} {fd : FuncData} (F : Fun K "names_of" "World.names_of" (sW 4) f fd) (T : WT K mg C) : FnOk P w K mg base CX0 1 f fd ["self", "shape"] (spNamesOf K C) := by
  refine F.ok scNamesOf (fun vs H Q E h => ?_) (fun cdv A outer s H vs Q E hr h => ?_)
  · obtain ⟨L, R, i, rs, rfl, _⟩ := h; rfl
  · refine ⟨_, pss_cons (ps_set (i := 2) scNamesOf.nd rfl (.inl rfl) (pe_lst pa_nil))
      (pss_cons (ps_set (i := 3) scNamesOf.nd rfl (.inl rfl) (pv 1))
      (pss_cons (ps_while PassesOwn.never (pt_cmpR op_gt (pv 3) pe_int (nomark _))
        (pss_cons (ps_expr (pe_bm PySem.F.plainAttrs_list PySem.F.slot_list_append PySem.F.type_list_append mt_append (pv 2) (pa_cons (pe_ix ix_tup (pe_ix ix_list (pe_fld (pv 0) rfl) (pv 3) (fun _ _ => rfl)) pe_int (fun _ _ => rfl)) pa_nil)))
        (pss_one (ps_set (i := 3) scNamesOf.nd rfl (.inl rfl) (pe_ix ix_tup (pe_ix ix_list (pe_fld (pv 0) rfl) (pv 3) (fun _ _ => rfl)) pe_int (fun _ _ => rfl))))))
      (pss_one (ps_ret (pe_revL (pv 2)))))), ?_⟩
    obtain ⟨L, R, i, rs, rfl, W, ch, hl, kQ⟩ := h
    refine ⟨by show 0 ≤ sizeLine; omega, fun q hq => ⟨_, rfl, fun m σ H' => ∃ (j : Nat) (r a : List Str), m = r.length ∧ Chain R.shapes j r ∧ a ++ r = rs ∧ Same H H' ∧ H' q = some (.lst (a.map V.str)) ∧ σ = [some (.ref (L .inst)), some (.int (i : Int)), some (.ref q), some (.int (j : Int))],
      ⟨_, i, rs, [], rfl, ch, rfl, same_new hq, upd_same, rfl⟩, ?_⟩⟩
    rintro m σ H' ⟨j, r, a, rfl, cj, er, sm, eq, rfl⟩
    refine ⟨_, rfl, _, _, rfl, rfl, _, rfl, ?_⟩
    cases cj with
    | root _ _ _ =>
      refine iteF ⟨_, rfl, q, _, rfl, SqL.of eq, fun p hp => ?_⟩
      have e : a = rs := by rw [← er]; simp
      subst e
      refine kQ _ p (fun b o z => same_new hp b o (sm b o z)) (sm.free hp) ?_
      rw [upd_same, List.map_reverse]
    | step h0 hs hf hsl cp =>
      rename_i p y sh rs'
      rw [decide_eq_true (show ((j : Nat) : Int) > 0 by omega)]
      refine iteT ⟨fun σ' H' => ∃ m', m' < (y :: rs').length ∧ _, fun _ _ z => z, ?_⟩
      have W1 := W.same sm
      obtain ⟨b, ga, ta⟩ := W1.shapeAt hs
      have ee : sh.enc = [.int (p : Int), .str y, .int (rs'.length : Int)] := by unfold Sh.enc; rw [hf, hsl]
      rw [ee] at ta
      have sm2 : Same H (upd H' q (.lst (a.map V.str ++ [.str y]))) := same_put sm hq
      have W2 := W.same sm2
      obtain ⟨b2, ga2, ta2⟩ := W2.shapeAt hs
      rw [ee] at ta2
      have hal : a.length ≤ rs.length := by rw [← er, List.length_append]; omega
      refine ⟨_, rfl, .inl ⟨rfl, _, SqL.of eq⟩, _, rfl, L .inst, C, L .own, _, _, rfl, W1.at_ .inst trivial, T.cl, T.nShapes, f_shapes, _, rfl, L .shapes, _, (j : Int), _, rfl, rfl, SqL.of (W1.at_ .shapes trivial), atI_nat ga, b, _, 1, _, rfl, rfl, ta.sq, atI_nat (j := 1) rfl, q, _, _, rfl, rfl, eq, ?_, ?_⟩
      · rw [List.length_map]; unfold sizeLine; omega
      exact ⟨_, rfl, L .inst, C, L .own, _, _, rfl, W2.at_ .inst trivial, T.cl, T.nShapes, f_shapes, _, rfl, L .shapes, _, (j : Int), _, rfl, rfl, SqL.of (W2.at_ .shapes trivial), atI_nat ga2, b2, _, 0, _, rfl, rfl, ta2.sq, atI_nat (j := 0) rfl, rs'.length, Nat.lt_succ_self _, p, rs', a ++ [y], rfl, cp, by rw [← er]; simp, sm2, by rw [upd_same, List.map_append]; rfl, rfl⟩
end
end My
namespace My
open PySem PySem.Spec PyProof.Rows L2
theorem scGet : FnScope ["self", "value", "name", "shape", "k"] ["self", "value", "name"] (defScope (sW 24)) := ⟨rfl, rfl, rfl, by decide +kernel, rfl, by decide +kernel, by decide +kernel⟩
theorem scPut : FnScope ["self", "value", "name", "told", "shape", "k"] ["self", "value", "name", "told"] (defScope (sW 25)) := ⟨rfl, rfl, rfl, by decide +kernel, rfl, by decide +kernel, by decide +kernel⟩
theorem scAtIndex : FnScope ["self", "value", "index"] ["self", "value", "index"] (defScope (sW 26)) := ⟨rfl, rfl, rfl, by decide +kernel, rfl, by decide +kernel, by decide +kernel⟩
theorem raise_ok {K : PySem.W.Frag} {CT : Addr} {H H1 : Hp} {Q : VK} {E : XK} {x : Str} (k : Res.then_ K CT H Q E (.thrown x)) (sm : Same H H1) (p : Addr) (np : H1 p = none) (d' : Addr) (nd : upd H1 p (.tup [.str "text", .str x]) d' = none) :
    E (.ref CT) (some d') (upd (upd H1 p (.tup [.str "text", .str x])) d' (.xd [(("value" : Str), .ref p)])) := k _ d' _ (fun b o q => same_new np b o (sm b o q)) nd ⟨p, rfl, .inl upd_same⟩
theorem slotR_lt : ∀ {rs : List Str} {x : Str} {k : Nat}, slotR rs x = some k → k < rs.length
  | [], _, _, h => by cases h
  | y :: r, x, k, h => by
    unfold slotR at h
    by_cases e : y = x
    · rw [if_pos e] at h; obtain rfl := Option.some.inj h; exact Nat.lt_succ_self _
    · rw [if_neg e] at h; exact Nat.lt_succ_of_lt (slotR_lt h)
def spGet (K : PySem.W.Frag) (C CT : Addr) : Sp := fun vs H Q E => ∃ (L : Lab → Addr) (R : WS) (v : V) (d : Val) (x : Str), vs = [.ref (L .inst), v, .str x] ∧ WorldAt K C H L R ∧ Vl K H v d ∧ d.In R ∧
  ((R.shapeV d = .non ∧ Res.then_ K CT H Q E (.thrown "kind")) ∨ ∃ (i sh : Nat) (ps : List VV) (rs : List Str), d = .ref (i : Int) ∧ R.cells[i]? = some (.obj sh ps) ∧ Chain R.shapes sh rs ∧ ps.length = rs.length ∧
    (slotR rs x = none → Res.then_ K CT H Q E (.val .nul)) ∧ ∀ k p, slotR rs x = some k → ps[k]? = some p → Q p.1 H)
def spPut (K : PySem.W.Frag) (C : Addr) : Sp := fun vs H Q E => ∃ (L : Lab → Addr) (R : WS) (v : V) (x : Str) (i sh : Nat) (ps : List VV) (p : VV) (rs : List Str), vs = [.ref (L .inst), v, .str x, p.1] ∧ WorldAt K C H L R ∧ Vl K H v (.ref (i : Int)) ∧ R.cells[i]? = some (.obj sh ps) ∧ Chain R.shapes sh rs ∧ ps.length = rs.length ∧ Vl K H p.1 p.2 ∧
  R.small.length = R.shapes.length ∧ R.widened.length < 1000 ∧ R.shapes.length < 1000 ∧ R.kids.length < 1000 ∧ rs.length < 1000 ∧ (∀ j, R.kid sh x = some j → j < R.small.length) ∧
  (∀ k, slotR rs x = some k → ∀ j H', Chain R.shapes j (rs.drop (rs.length - (k + 1))) → WorldAt K C H' L ((R.note j p.2).setCell i (.obj sh (ps.set k p))) → Kept R.cells.length L H H' → Q v H') ∧
  (slotR rs x = none → (∀ j, R.kid sh x = some j → ∀ H', WorldAt K C H' L ((R.note j p.2).setCell i (.obj j (ps ++ [p]))) → Kept R.cells.length L H H' → Q v H') ∧
    (R.kid sh x = none → ∀ H' v', WorldAt K C H' L ((R.addShape v' sh x rs.length p.2).setCell i (.obj R.shapes.length (ps ++ [p]))) → Kept R.cells.length L H H' → Q v H'))
def spAtIndex (K : PySem.W.Frag) (C CT : Addr) : Sp := fun vs H Q E => ∃ (L : Lab → Addr) (R : WS) (v u : V) (d e : Val), vs = [.ref (L .inst), v, u] ∧ WorldAt K C H L R ∧ Vl K H v d ∧ d.In R ∧ Vl K H u e ∧
  (((R.kindOf d ≠ "list" ∨ e.isInt = false) ∧ Res.then_ K CT H Q E (.thrown "kind")) ∨ ∃ (i : Nat) (ps : List VV) (n : Int), d = .ref (i : Int) ∧ R.cells[i]? = some (.lst ps) ∧ e = .int n ∧
    ((0 ≤ n ∧ n < (ps.length : Int)) → ∀ H', Same H H' → Q (.int n) H') ∧ (¬ (0 ≤ n ∧ n < (ps.length : Int)) → Res.then_ K CT H Q E (.thrown "index")))
section
variable {P : Program} {w : World} {K : PySem.W.Frag} {mg : Str → Option Value} {base : Heap} {C CT fI : Addr}
theorem ok_get {f fH fO fD : Addr} {fd fdH fdO fdD : FuncData} (F : Fun K "get" "World.get" (sW 24) f fd) (T : WT K mg C) (B : Th P K mg CT fI) (N : Kd K mg) (GH : FnOk P w K mg base CX0 2 fH fdH ["self", "value"] (spShapeOf K C)) (cH : Mc K C "shape_of" fH fdH ["self", "value"])
    (GO : FnOk P w K mg base CX0 1 fO fdO ["self", "shape", "name"] (spSlotOf K C)) (cO : Mc K C "slot_of" fO fdO ["self", "shape", "name"]) (GD : FnOk P w K mg base CX0 2 fD fdD ["self", "value", "k"] (spLoad K C)) (cD : Mc K C "load" fD fdD ["self", "value", "k"]) :
    FnOk P w K mg base (L2.CX P w) 3 f fd ["self", "value", "name"] (spGet K C CT) := by
  obtain ⟨an, gn, hn⟩ := N.nul
  refine F.okX scGet (fun vs H Q E h => ?_) (fun cdv A outer s H vs Q E hr h => ?_)
  · obtain ⟨L, R, v, d, x, rfl, _⟩ := h; rfl
  · refine ⟨_, pss_cons (ps_set (i := 3) scGet.nd rfl (.inl rfl) (pe_meth (pv 0) T.cl cH.m GH hr cH.b .nil pass0 (pa_cons (pv 1) pa_nil)))
      (pss_cons (ps_if (pt_cmpR op_isN (pv 3) pe_non (nomark _)) (pss_one (ps_raiseVal rfl B.tx ⟨B.sup⟩ B.g (show Room 1 _ from hr.mono (by decide)) (takes_of rfl rfl rfl rfl) (pa_cons (pe_tup (pa_cons pe_str (pa_cons pe_str pa_nil))) pa_nil) (by rfl))) pss_nil)
      (pss_cons (ps_set (i := 4) scGet.nd rfl (.inl rfl) (pe_meth (pv 0) T.cl cO.m GO (hr.mono (by decide)) cO.b .nil pass0 (pa_cons (pv 3) (pa_cons (pv 2) pa_nil))))
      (pss_one (ps_ret (pe_ifExp (pt_cmpR op_isN (pv 4) pe_non (nomark _)) (pe_glob (v := .ref an) (by rfl) gn rfl) (pe_meth (pv 0) T.cl cD.m GD hr cD.b .nil pass0 (pa_cons (pv 1) (pa_cons (pv 4) pa_nil)))))))), ?_⟩
    obtain ⟨L, R, v, d, x, rfl, W, hv, hin, hk⟩ := h
    refine ⟨_, rfl, L .inst, L .own, _, rfl, W.at_ .inst trivial, f_no (by decide +kernel), v, rfl, L, R, v, d, rfl, W, hv, hin, ?_⟩
    rcases hk with ⟨e, k⟩ | ⟨i, sh, ps, rs, rfl, hc, ch, hl, k1, k2⟩
    · rw [e]
      exact ⟨_, rfl, rfl, _, rfl, iteT ⟨by decide, fun p np => ⟨_, rfl, fun d' nd => raise_ok k (fun _ _ z => z) p np d' nd⟩⟩⟩
    · have e : R.shapeV (.ref (i : Int)) = .int (sh : Int) := by
        show (match R.cells[((i : Nat) : Int).toNat]? with | some (.obj sh _) => V.int (sh : Int) | _ => .non) = _
        rw [Int.toNat_natCast, hc]
      rw [e]
      refine ⟨_, rfl, rfl, _, rfl, iteF ⟨_, rfl, L .inst, L .own, _, rfl, W.at_ .inst trivial, f_no (by decide +kernel), _, rfl, _, rfl, L, R, sh, x, rs, rfl, W, ch, ?_⟩⟩
      cases hs : slotR rs x with
      | none =>
        exact ⟨_, rfl, rfl, _, rfl, iteT (k1 hs H _ (fun _ _ z => z) ⟨an, rfl, hn H⟩)⟩
      | some k =>
        have hk : k < ps.length := by rw [hl]; exact slotR_lt hs
        have hp := List.getElem?_eq_getElem hk
        exact ⟨_, rfl, rfl, _, rfl, iteF ⟨_, rfl, L .inst, L .own, _, rfl, W.at_ .inst trivial, f_no (by decide +kernel), v, rfl, _, rfl, L, R, i, v, sh, k, ps, _, rfl, W, hv, hc, hp, k2 k _ hs hp⟩⟩
theorem addShape_note {R : WS} {v : V} {i k : Nat} {x : Str} {d : Val} (h : R.small.length = R.shapes.length) : (R.addShape v i x k d).note R.shapes.length d = R.addShape v i x k d := by
  refine if_neg fun z => ?_
  obtain ⟨z1, z2⟩ := z
  have e : (R.addShape v i x k d).small[R.shapes.length]? = some d.small := by
    show (R.small ++ [d.small])[R.shapes.length]? = _
    rw [← h, List.getElem?_append_right (Nat.le_refl _), Nat.sub_self]; rfl
  rw [e, z2] at z1
  cases z1
theorem ok_put {f fH fO fS fG fN : Addr} {fd fdH fdO fdS fdG fdN : FuncData} (F : Fun K "put" "World.put" (sW 25) f fd) (T : WT K mg C) (B : Th P K mg CT fI) (GH : FnOk P w K mg base CX0 2 fH fdH ["self", "value"] (spShapeOf K C)) (cH : Mc K C "shape_of" fH fdH ["self", "value"])
    (GO : FnOk P w K mg base CX0 1 fO fdO ["self", "shape", "name"] (spSlotOf K C)) (cO : Mc K C "slot_of" fO fdO ["self", "shape", "name"]) (GS : FnOk P w K mg base CX0 3 fS fdS ["self", "value", "k", "told"] (spStore K C)) (cS : Mc K C "store" fS fdS ["self", "value", "k", "told"])
    (GG : FnOk P w K mg base CX0 3 fG fdG ["self", "value", "shape", "told"] (spGrow K C)) (cG : Mc K C "grow" fG fdG ["self", "value", "shape", "told"]) (GN : FnOk P w K mg base CX0 2 fN fdN ["self", "shape", "name", "value"] (spGrown K C)) (cN : Mc K C "grown" fN fdN ["self", "shape", "name", "value"]) :
    FnOk P w K mg base (L2.CX P w) 4 f fd ["self", "value", "name", "told"] (spPut K C) := by
  refine F.okX scPut (fun vs H Q E h => ?_) (fun cdv A outer s H vs Q E hr h => ?_)
  · obtain ⟨L, R, v, x, i, sh, ps, p, rs, rfl, _⟩ := h; rfl
  · refine ⟨_, pss_cons (ps_set (i := 4) scPut.nd rfl (.inl rfl) (pe_meth (pv 0) T.cl cH.m GH (hr.mono (by decide)) cH.b .nil pass0 (pa_cons (pv 1) pa_nil)))
      (pss_cons (ps_if (pt_cmpR op_isN (pv 4) pe_non (nomark _)) (pss_one (ps_raiseVal rfl B.tx ⟨B.sup⟩ B.g (show Room 1 _ from hr.mono (by decide)) (takes_of rfl rfl rfl rfl) (pa_cons (pe_tup (pa_cons pe_str (pa_cons pe_str pa_nil))) pa_nil) (by rfl))) pss_nil)
      (pss_cons (ps_set (i := 5) scPut.nd rfl (.inl rfl) (pe_meth (pv 0) T.cl cO.m GO (hr.mono (by decide)) cO.b .nil pass0 (pa_cons (pv 4) (pa_cons (pv 2) pa_nil))))
      (pss_cons (ps_if (pt_cmpR op_notN (pv 5) pe_non (nomark _))
        (pss_one (ps_expr (pe_meth (pv 0) T.cl cS.m GS hr cS.b .nil pass0 (pa_cons (pv 1) (pa_cons (pv 5) (pa_cons (pv 3) pa_nil))))))
        (pss_one (ps_expr (pe_meth (pv 0) T.cl cG.m GG hr cG.b .nil pass0 (pa_cons (pv 1) (pa_cons (pe_meth (pv 0) T.cl cN.m GN (hr.mono (by decide)) cN.b .nil pass0 (pa_cons (pv 4) (pa_cons (pv 2) (pa_cons (pv 3) pa_nil)))) (pa_cons (pv 3) pa_nil)))))))
      (pss_one (ps_ret (pv 1)))))), ?_⟩
    obtain ⟨L, R, v, x, i, sh, ps, p, rs, rfl, W, hv, hc, ch, hl, hp, hsm, hw, hs1, hs2, hs3, hkid, k1, k2⟩ := h
    have hin : Val.In R (.ref (i : Int)) := fun n e => ⟨i, _, by injection e with e; exact e.symm, hc⟩
    have e : R.shapeV (.ref (i : Int)) = .int (sh : Int) := by
      show (match R.cells[((i : Nat) : Int).toNat]? with | some (.obj sh _) => V.int (sh : Int) | _ => .non) = _
      rw [Int.toNat_natCast, hc]
    refine ⟨_, rfl, L .inst, L .own, _, rfl, W.at_ .inst trivial, f_no (by decide +kernel), v, rfl, L, R, v, _, rfl, W, hv, hin, ?_⟩
    rw [e]
    refine ⟨_, rfl, rfl, _, rfl, iteF ⟨_, rfl, L .inst, L .own, _, rfl, W.at_ .inst trivial, f_no (by decide +kernel), _, rfl, _, rfl, L, R, sh, x, rs, rfl, W, ch, ?_⟩⟩
    cases hs : slotR rs x with
    | some k =>
      refine ⟨_, rfl, rfl, _, rfl, iteT ⟨_, rfl, L .inst, L .own, _, rfl, W.at_ .inst trivial, f_no (by decide +kernel), v, rfl, _, rfl, p.1, rfl, L, R, i, v, sh, k, ps, p, rs, rfl, W, hv, hc, ch, slotR_lt hs, hl, hp, hsm, hw, fun j H' cj W' K' => ?_⟩⟩
      exact ⟨v, rfl, k1 k hs j H' cj W' K'⟩
    | none =>
      obtain ⟨k2, k3⟩ := k2 hs
      refine ⟨_, rfl, rfl, _, rfl, iteF ⟨_, rfl, L .inst, L .own, _, rfl, W.at_ .inst trivial, f_no (by decide +kernel), v, rfl, _, rfl, L .inst, L .own, _, rfl, W.at_ .inst trivial, f_no (by decide +kernel), _, rfl, _, rfl, p.1, rfl, L, R, sh, x, p.1, p.2, rs, rfl, W, hp, ch, hs1, hs2, by rw [hsm]; exact hs1, fun j hj H1 sm => ?_, fun hk H1 v' W1 K1 => ?_⟩⟩
      · have W1 := W.same sm
        exact ⟨p.1, rfl, L, R, i, v, sh, j, ps, p, rfl, W1, hv.keep (KeepT.of sm), hc, hkid j hj, by rw [hl]; exact hs3, hp.keep (KeepT.of sm), hw, fun H2 W2 K2 => ⟨v, rfl, k2 j hj H2 W2 (Kept.trans (Kept.of sm) K2)⟩⟩
      · have kt := K1.tups W
        refine ⟨p.1, rfl, L, _, i, v, sh, R.shapes.length, ps, p, rfl, W1, hv.keep kt, hc, ?_, by rw [hl]; exact hs3, hp.keep kt, hw, fun H2 W2 K2 => ⟨v, rfl, ?_⟩⟩
        · show R.shapes.length < (R.small ++ [p.2.small]).length
          rw [List.length_append, hsm]; exact Nat.lt_succ_self _
        · rw [addShape_note hsm] at W2
          exact k3 hk H2 v' W2 (Kept.trans K1 K2)
theorem ok_atIndex {f fK fL : Addr} {fd fdK fdL : FuncData} (F : Fun K "at_index" "World.at_index" (sW 26) f fd) (T : WT K mg C) (B : Th P K mg CT fI) (GK : FnOk P w K mg base CX0 2 fK fdK ["self", "value"] (spKind K C)) (cK : Mc K C "kind" fK fdK ["self", "value"])
    (GL : FnOk P w K mg base CX0 2 fL fdL ["self", "value"] (spLength K C)) (cL : Mc K C "length" fL fdL ["self", "value"]) : FnOk P w K mg base (L2.CX P w) 3 f fd ["self", "value", "index"] (spAtIndex K C CT) := by
  refine F.okX scAtIndex (fun vs H Q E h => ?_) (fun cdv A outer s H vs Q E hr h => ?_)
  · obtain ⟨L, R, v, u, d, e, rfl, _⟩ := h; rfl
  · refine ⟨_, pss_cons (ps_if (PW.pt (pw_or (pt_cmpR op_ne (pe_meth (pv 0) T.cl cK.m GK hr cK.b .nil pass0 (pa_cons (pv 1) pa_nil)) pe_str (nomark _)) (pw_or1 (pt_cmpR op_ne (pe_ix ix_tup (pv 2) pe_int (fun _ _ => rfl)) pe_str (nomark _)))))
        (pss_one (ps_raiseVal rfl B.tx ⟨B.sup⟩ B.g (show Room 1 _ from hr.mono (by decide)) (takes_of rfl rfl rfl rfl) (pa_cons (pe_tup (pa_cons pe_str (pa_cons pe_str pa_nil))) pa_nil) (by rfl))) pss_nil)
      (pss_cons (ps_if (pt_not (pt_chain op_le op_lt pe_int (pe_ix ix_tup (pv 2) pe_int (fun _ _ => rfl)) (pe_meth (pv 0) T.cl cL.m GL hr cL.b .nil pass0 (pa_cons (pv 1) pa_nil))))
        (pss_one (ps_raiseVal rfl B.tx ⟨B.sup⟩ B.g (show Room 1 _ from hr.mono (by decide)) (takes_of rfl rfl rfl rfl) (pa_cons (pe_tup (pa_cons pe_str (pa_cons pe_str pa_nil))) pa_nil) (by rfl))) pss_nil)
      (pss_one (ps_ret (pe_ix ix_tup (pv 2) pe_int (fun _ _ => rfl))))), ?_⟩
    obtain ⟨L, R, v, u, d, e, rfl, W, hv, hin, hu, hk⟩ := h
    refine ⟨_, rfl, L .inst, L .own, _, rfl, W.at_ .inst trivial, f_no (by decide +kernel), v, rfl, L, R, v, d, rfl, W, hv, hin, fun H1 sm => ?_⟩
    have hu1 := hu.keep (KeepT.of sm)
    obtain ⟨b, rfl, tb⟩ := id hu1
    have W1 := W.same sm
    rcases hk with ⟨ne, k⟩ | ⟨i, ps, n, rfl, hc, rfl, k1, k2⟩
    · refine ⟨rfl, _, rfl, ite2 (fun c => ?_) (fun c => ?_)⟩
      · exact iteT ⟨by decide, fun p np => ⟨_, rfl, fun d' nd => raise_ok k sm p np d' nd⟩⟩
      · refine ⟨.ref b, rfl, b, _, 0, .str e.word, rfl, rfl, tb.sq, atI_nat (j := 0) rfl, rfl, _, congrArg V.bl (by rw [e.word_int]), ?_⟩
        have z : e.isInt = false := by
          rcases ne with q | q
          · exact absurd (by simpa using c) q
          · exact q
        rw [z]
        exact iteT ⟨by decide, fun p np => ⟨_, rfl, fun d' nd => raise_ok k sm p np d' nd⟩⟩
    · have hv1 := hv.keep (KeepT.of sm)
      rw [kindOf_ref hc]
      refine ⟨rfl, _, rfl, iteF ⟨.ref b, rfl, b, _, 0, .str "int", rfl, rfl, tb.sq, atI_nat (j := 0) rfl, rfl, _, rfl, iteF ?_⟩⟩
      refine ⟨.ref b, rfl, b, _, 1, .int n, rfl, rfl, tb.sq, atI_nat (j := 1) rfl, 0, n, rfl, rfl, decide (0 ≤ n), rfl, ?_⟩
      by_cases h0 : 0 ≤ n
      · rw [decide_eq_true h0]
        refine iteT ⟨_, rfl, L .inst, L .own, _, rfl, W1.at_ .inst trivial, f_no (by decide +kernel), v, rfl, L, R, i, v, ps, rfl, W1, hv1, hc, n, _, rfl, rfl, _, rfl, ?_⟩
        by_cases h1 : n < (ps.length : Int)
        · rw [decide_eq_true h1]
          exact iteF ⟨.ref b, rfl, b, _, 1, .int n, rfl, rfl, tb.sq, atI_nat (j := 1) rfl, k1 ⟨h0, h1⟩ H1 sm⟩
        · rw [decide_eq_false h1]
          exact iteT ⟨by decide, fun p np => ⟨_, rfl, fun d' nd => raise_ok (k2 fun z => h1 z.2) sm p np d' nd⟩⟩
      · rw [decide_eq_false h0]
        refine iteF ⟨_, rfl, ?_⟩
        exact iteT ⟨by decide, fun p np => ⟨_, rfl, fun d' nd => raise_ok (k2 fun z => h0 z.1) sm p np d' nd⟩⟩
end
end My
namespace My
open PySem PySem.Spec PyProof.Rows L2
theorem scOfList : FnScope ["self", "what", "args"] ["self", "what", "args"] (defScope (sW 27)) := ⟨rfl, rfl, rfl, by decide +kernel, rfl, by decide +kernel, by decide +kernel⟩
def dItem (K : PySem.W.Frag) (C CT : Addr) (L : Lab → Addr) (R : WS) (as : List V) (H : Hp) (Q : VK) (E : XK) : Prop := ∃ (v u : V) (d e : Val), as = [v, u] ∧ Vl K H v d ∧ d.In R ∧ Vl K H u e ∧
  (((R.kindOf d ≠ "list" ∨ e.isInt = false) ∧ Res.then_ K CT H Q E (.thrown "kind")) ∨ ∃ (i : Nat) (ps : List VV) (n : Int), d = .ref (i : Int) ∧ R.cells[i]? = some (.lst ps) ∧ e = .int n ∧
    (∀ (k : Nat) p, n = (k : Int) → ps[k]? = some p → ∀ H', Same H H' → Q p.1 H') ∧ (¬ (0 ≤ n ∧ n < (ps.length : Int)) → Res.then_ K CT H Q E (.thrown "index")))
def dSetitem (K : PySem.W.Frag) (C CT : Addr) (L : Lab → Addr) (R : WS) (as : List V) (H : Hp) (Q : VK) (E : XK) : Prop := ∃ (v u : V) (i : Nat) (ps : List VV) (n : Int) (p : VV), as = [v, u, p.1] ∧ Vl K H v (.ref (i : Int)) ∧ R.cells[i]? = some (.lst ps) ∧ Vl K H u (.int n) ∧ Vl K H p.1 p.2 ∧
  (∀ k : Nat, n = (k : Int) → k < ps.length → ∀ H' nv, WorldAt K C H' L (R.setCell i (.lst (ps.set k p))) → Kept R.cells.length L H H' → Vl K H' nv .nul → Q nv H') ∧ (¬ (0 ≤ n ∧ n < (ps.length : Int)) → Res.then_ K CT H Q E (.thrown "index"))
def dLen (K : PySem.W.Frag) (C CT : Addr) (L : Lab → Addr) (R : WS) (as : List V) (H : Hp) (Q : VK) (E : XK) : Prop := ∃ (v : V) (d : Val), as = [v] ∧ Vl K H v d ∧ d.In R ∧ d.isText = false ∧
  ((R.kindOf d ≠ "list" ∧ Res.then_ K CT H Q E (.thrown "kind")) ∨ ∃ (i : Nat) (ps : List VV), d = .ref (i : Int) ∧ R.cells[i]? = some (.lst ps) ∧ Res.then_ K CT H Q E (.val (.int (ps.length : Int))))
def dPush (K : PySem.W.Frag) (C CT : Addr) (L : Lab → Addr) (R : WS) (as : List V) (H : Hp) (Q : VK) (E : XK) : Prop := ∃ (v : V) (i : Nat) (ps : List VV) (p : VV), as = [v, p.1] ∧ Vl K H v (.ref (i : Int)) ∧ R.cells[i]? = some (.lst ps) ∧ Vl K H p.1 p.2 ∧
  (ps.length < 30000 → ∀ H', WorldAt K C H' L (R.setCell i (.lst (ps ++ [p]))) → Kept R.cells.length L H H' → Q v H') ∧ (30000 ≤ ps.length → Res.then_ K CT H Q E (.thrown "long"))
def spOfList (K : PySem.W.Frag) (C CT : Addr) : Sp := fun vs H Q E => ∃ (L : Lab → Addr) (R : WS) (what : Str) (ar : Addr) (as : List V), vs = [.ref (L .inst), .str what, .ref ar] ∧ WorldAt K C H L R ∧ H ar = some (.lst as) ∧ (∀ m, live R.cells.length m → L m ≠ ar) ∧
  ((what = "item" ∧ dItem K C CT L R as H Q E) ∨ (what = "setitem" ∧ dSetitem K C CT L R as H Q E) ∨ (what = "len" ∧ dLen K C CT L R as H Q E) ∨ (what = "push" ∧ dPush K C CT L R as H Q E))
theorem In_ref {R : WS} {i : Nat} {c : Cell} (hc : R.cells[i]? = some c) : Val.In R (.ref (i : Int)) := fun n e => ⟨i, _, by injection e with e; exact e.symm, hc⟩
section
variable {P : Program} {w : World} {K : PySem.W.Frag} {mg : Str → Option Value} {base : Heap} {C CT fI : Addr}
theorem ok_ofList {f fI2 fA fS fK fL fP : Addr} {fd fdI fdA fdS fdK fdL fdP : FuncData} (F : Fun K "of_list" "World.of_list" (sW 27) f fd) (T : WT K mg C) (B : Th P K mg CT fI) (N : Kd K mg) (hmi : ∃ t, mg "MOST_ITEMS" = some (.int 30000 t))
    (GI : FnOk P w K mg base CX0 2 fI2 fdI ["self", "value", "i"] (spItem K C)) (cI : Mc K C "item" fI2 fdI ["self", "value", "i"]) (GA : FnOk P w K mg base (L2.CX P w) 3 fA fdA ["self", "value", "index"] (spAtIndex K C CT)) (cA : Mc K C "at_index" fA fdA ["self", "value", "index"])
    (GS : FnOk P w K mg base CX0 2 fS fdS ["self", "value", "i", "told"] (spSetitem K C)) (cS : Mc K C "setitem" fS fdS ["self", "value", "i", "told"]) (GK : FnOk P w K mg base CX0 2 fK fdK ["self", "value"] (spKind K C)) (cK : Mc K C "kind" fK fdK ["self", "value"])
    (GL : FnOk P w K mg base CX0 2 fL fdL ["self", "value"] (spLength K C)) (cL : Mc K C "length" fL fdL ["self", "value"]) (GP : FnOk P w K mg base CX0 2 fP fdP ["self", "value", "told"] (spAppend K C)) (cP : Mc K C "append" fP fdP ["self", "value", "told"]) :
    FnOk P w K mg base (L2.CX P w) 4 f fd ["self", "what", "args"] (spOfList K C CT) := by
  obtain ⟨an, gn, hn⟩ := N.nul
  obtain ⟨tm, gm⟩ := hmi
  refine F.okX scOfList (fun vs H Q E h => ?_) (fun cdv A outer s H vs Q E hr h => ?_)
  · obtain ⟨L, R, what, ar, as, rfl, _⟩ := h; rfl
  · refine ⟨_, pss_cons (ps_if (pt_cmpR op_eq (pv 1) pe_str (nomark _))
        (pss_one (ps_ret (pe_meth (pv 0) T.cl cI.m GI (hr.mono (by decide)) cI.b .nil pass0 (pa_cons (pe_ix ix_list (pv 2) pe_int (fun _ _ => rfl)) (pa_cons (pe_meth (pv 0) T.cl cA.m GA hr cA.b .nil (passes_call (takes_of rfl rfl rfl rfl) fun _ _ _ _ h => h) (pa_cons (pe_ix ix_list (pv 2) pe_int (fun _ _ => rfl)) (pa_cons (pe_ix ix_list (pv 2) pe_int (fun _ _ => rfl)) pa_nil))) pa_nil))))) pss_nil)
      (pss_cons (ps_if (pt_cmpR op_eq (pv 1) pe_str (nomark _))
        (pss_cons (ps_expr (pe_meth (pv 0) T.cl cS.m GS (hr.mono (by decide)) cS.b .nil pass0 (pa_cons (pe_ix ix_list (pv 2) pe_int (fun _ _ => rfl)) (pa_cons (pe_meth (pv 0) T.cl cA.m GA hr cA.b .nil (passes_call (takes_of rfl rfl rfl rfl) fun _ _ _ _ h => h) (pa_cons (pe_ix ix_list (pv 2) pe_int (fun _ _ => rfl)) (pa_cons (pe_ix ix_list (pv 2) pe_int (fun _ _ => rfl)) pa_nil))) (pa_cons (pe_ix ix_list (pv 2) pe_int (fun _ _ => rfl)) pa_nil)))))
          (pss_one (ps_ret (pe_glob (v := .ref an) (by rfl) gn rfl)))) pss_nil)
      (pss_cons (ps_if (PW.pt (pw_and (pt_cmpR op_eq (pv 1) pe_str (nomark _)) (pw_and1 (pt_cmpR op_eq (pe_ix ix_tup (pe_ix ix_list (pv 2) pe_int (fun _ _ => rfl)) pe_int (fun _ _ => rfl)) pe_str (nomark _)))))
        (pss_one (ps_ret (pe_tup (pa_cons pe_str (pa_cons (pe_callB call_len_str (by rfl) B.len PySem.boot_len (pa_cons (pe_ix ix_tup (pe_ix ix_list (pv 2) pe_int (fun _ _ => rfl)) pe_int (fun _ _ => rfl)) pa_nil)) pa_nil))))) pss_nil)
      (pss_cons (ps_if (pt_cmpR op_ne (pe_meth (pv 0) T.cl cK.m GK (hr.mono (by decide)) cK.b .nil pass0 (pa_cons (pe_ix ix_list (pv 2) pe_int (fun _ _ => rfl)) pa_nil)) pe_str (nomark _))
        (pss_one (ps_raiseVal rfl B.tx ⟨B.sup⟩ B.g (show Room 1 _ from hr.mono (by decide)) (takes_of rfl rfl rfl rfl) (pa_cons (pe_tup (pa_cons pe_str (pa_cons pe_str pa_nil))) pa_nil) (by rfl))) pss_nil)
      (pss_cons (ps_if (pt_cmpR op_eq (pv 1) pe_str (nomark _))
        (pss_one (ps_ret (pe_tup (pa_cons pe_str (pa_cons (pe_meth (pv 0) T.cl cL.m GL (hr.mono (by decide)) cL.b .nil pass0 (pa_cons (pe_ix ix_list (pv 2) pe_int (fun _ _ => rfl)) pa_nil)) pa_nil))))) pss_nil)
      (pss_cons (ps_if (pt_cmpR op_ge (pe_meth (pv 0) T.cl cL.m GL (hr.mono (by decide)) cL.b .nil pass0 (pa_cons (pe_ix ix_list (pv 2) pe_int (fun _ _ => rfl)) pa_nil)) (pe_glob (v := .int 30000) (by rfl) gm ⟨tm, rfl⟩) (nomark _))
        (pss_one (ps_raiseVal rfl B.tx ⟨B.sup⟩ B.g (show Room 1 _ from hr.mono (by decide)) (takes_of rfl rfl rfl rfl) (pa_cons (pe_tup (pa_cons pe_str (pa_cons pe_str pa_nil))) pa_nil) (by rfl))) pss_nil)
      (pss_cons (ps_expr (pe_meth (pv 0) T.cl cP.m GP (hr.mono (by decide)) cP.b .nil pass0 (pa_cons (pe_ix ix_list (pv 2) pe_int (fun _ _ => rfl)) (pa_cons (pe_ix ix_list (pv 2) pe_int (fun _ _ => rfl)) pa_nil))))
      (pss_one (ps_ret (pe_ix ix_list (pv 2) pe_int (fun _ _ => rfl)))))))))), ?_⟩
    obtain ⟨L, R, what, ar, as, rfl, W, har, out, hk⟩ := h
    rcases hk with ⟨rfl, v, u, d, e, rfl, hv, hin, hu, hk⟩ | ⟨rfl, v, u, i, ps, n, p, rfl, hv, hc, hu, hp, k1, k2⟩ | ⟨rfl, v, d, rfl, hv, hin, hnt, hk⟩ | ⟨rfl, v, i, ps, p, rfl, hv, hc, hp, k1, k2⟩
    · refine ⟨_, rfl, rfl, true, rfl, iteT ⟨_, rfl, L .inst, L .own, _, rfl, W.at_ .inst trivial, f_no (by decide +kernel), _, rfl, ar, _, 0, v, rfl, rfl, SqL.of har, atI_nat (j := 0) rfl, _, rfl, L .inst, L .own, _, rfl, W.at_ .inst trivial, f_no (by decide +kernel), _, rfl, ar, _, 0, v, rfl, rfl, SqL.of har, atI_nat (j := 0) rfl, _, rfl, ar, _, 1, u, rfl, rfl, SqL.of har, atI_nat (j := 1) rfl, L, R, v, u, d, e, rfl, W, hv, hin, hu, ?_⟩⟩
      rcases hk with ⟨ne, k⟩ | ⟨i, ps, n, rfl, hc, rfl, k1, k2⟩
      · exact .inl ⟨ne, k⟩
      · refine .inr ⟨i, ps, n, rfl, hc, rfl, fun hb H1 sm => ?_, fun hb => k2 hb⟩
        obtain ⟨k, rfl⟩ : ∃ k : Nat, n = (k : Int) := ⟨n.toNat, by omega⟩
        have hk : k < ps.length := by omega
        exact ⟨L, R, i, v, k, ps, _, rfl, W.same sm, hv.keep (KeepT.of sm), hc, List.getElem?_eq_getElem hk, k1 k _ rfl (List.getElem?_eq_getElem hk) H1 sm⟩
    · refine ⟨_, rfl, rfl, false, rfl, iteF ⟨_, rfl, rfl, true, rfl, iteT ⟨_, rfl, L .inst, L .own, _, rfl, W.at_ .inst trivial, f_no (by decide +kernel), _, rfl, ar, _, 0, v, rfl, rfl, SqL.of har, atI_nat (j := 0) rfl, _, rfl, L .inst, L .own, _, rfl, W.at_ .inst trivial, f_no (by decide +kernel), _, rfl, ar, _, 0, v, rfl, rfl, SqL.of har, atI_nat (j := 0) rfl, _, rfl, ar, _, 1, u, rfl, rfl, SqL.of har, atI_nat (j := 1) rfl, L, R, v, u, _, _, rfl, W, hv, In_ref hc, hu, .inr ⟨i, ps, n, rfl, hc, rfl, fun hb H1 sm => ?_, fun hb => k2 hb⟩⟩⟩⟩
      obtain ⟨k, rfl⟩ : ∃ k : Nat, n = (k : Int) := ⟨n.toNat, by omega⟩
      have hk : k < ps.length := by omega
      refine ⟨_, rfl, ar, _, 2, p.1, rfl, rfl, SqL.of (sm _ _ har), atI_nat (j := 2) rfl, L, R, i, v, k, ps, p, rfl, W.same sm, hv.keep (KeepT.of sm), hc, hk, hp.keep (KeepT.of sm), fun H2 W2 K2 => ?_⟩
      exact k1 k rfl hk H2 _ W2 (Kept.trans (Kept.of sm) K2) ⟨an, rfl, hn H2⟩
    · have ht := d.word_text
      rw [hnt] at ht
      obtain ⟨a, rfl, t⟩ := id hv
      refine ⟨_, rfl, rfl, false, rfl, iteF ⟨_, rfl, rfl, false, rfl, iteF ⟨_, rfl, rfl, true, rfl, iteT ⟨_, rfl, ar, _, 0, .ref a, rfl, rfl, SqL.of har, atI_nat (j := 0) rfl, a, _, 0, .str d.word, rfl, rfl, t.sq, atI_nat (j := 0) rfl, rfl, false, congrArg V.bl ht, iteF ?_⟩⟩⟩⟩
      refine ⟨_, rfl, L .inst, L .own, _, rfl, W.at_ .inst trivial, f_no (by decide +kernel), _, rfl, ar, _, 0, .ref a, rfl, rfl, SqL.of har, atI_nat (j := 0) rfl, L, R, .ref a, d, rfl, W, hv, hin, fun H1 sm => ?_⟩
      rcases hk with ⟨ne, k⟩ | ⟨i, ps, rfl, hc, k⟩
      · refine ⟨rfl, true, congrArg V.bl ?_, iteT ⟨by decide, fun p np => ⟨_, rfl, fun d' nd => raise_ok k sm p np d' nd⟩⟩⟩
        rw [decide_eq_false (fun z => ne (V.str.inj z))]; rfl
      · have W1 := W.same sm
        rw [kindOf_ref hc]
        refine ⟨rfl, false, rfl, iteF ⟨_, rfl, rfl, true, rfl, iteT ⟨_, rfl, L .inst, L .own, _, rfl, W1.at_ .inst trivial, f_no (by decide +kernel), _, rfl, ar, _, 0, .ref a, rfl, rfl, SqL.of (sm _ _ har), atI_nat (j := 0) rfl, L, R, i, .ref a, ps, rfl, W1, hv.keep (KeepT.of sm), hc, by show 2 ≤ sizeLine; decide, fun q hq => ?_⟩⟩⟩
        exact k _ _ (fun b o z => same_new hq b o (sm b o z)) ⟨q, rfl, .inl upd_same⟩
    · refine ⟨_, rfl, rfl, false, rfl, iteF ⟨_, rfl, rfl, false, rfl, iteF ⟨_, rfl, rfl, false, rfl, iteF (iteF ?_)⟩⟩⟩
      refine ⟨_, rfl, L .inst, L .own, _, rfl, W.at_ .inst trivial, f_no (by decide +kernel), _, rfl, ar, _, 0, v, rfl, rfl, SqL.of har, atI_nat (j := 0) rfl, L, R, v, _, rfl, W, hv, In_ref hc, fun H1 sm => ?_⟩
      have W1 := W.same sm
      have hv1 := hv.keep (KeepT.of sm)
      have har1 := sm _ _ har
      rw [kindOf_ref hc]
      refine ⟨rfl, false, rfl, iteF ⟨_, rfl, rfl, false, rfl, iteF ⟨_, rfl, L .inst, L .own, _, rfl, W1.at_ .inst trivial, f_no (by decide +kernel), _, rfl, ar, _, 0, v, rfl, rfl, SqL.of har1, atI_nat (j := 0) rfl, L, R, i, v, ps, rfl, W1, hv1, hc, _, _, rfl, rfl, _, rfl, ite2 (fun c => ?_) (fun c => ?_)⟩⟩⟩
      · have c' : 30000 ≤ ps.length := by have := of_decide_eq_true c; omega
        exact ⟨by decide, fun p np => ⟨_, rfl, fun d' nd => raise_ok (k2 c') sm p np d' nd⟩⟩
      · have c' : ps.length < 30000 := by have : ¬ ((ps.length : Int) ≥ 30000) := fun z => c (decide_eq_true z); omega
        refine ⟨_, rfl, L .inst, L .own, _, rfl, W1.at_ .inst trivial, f_no (by decide +kernel), _, rfl, ar, _, 0, v, rfl, rfl, SqL.of har1, atI_nat (j := 0) rfl, _, rfl, ar, _, 1, p.1, rfl, rfl, SqL.of har1, atI_nat (j := 1) rfl, L, R, i, v, ps, p, rfl, W1, hv1, hc, by omega, hp.keep (KeepT.of sm), fun H2 W2 K2 => ?_⟩
        exact ⟨_, rfl, ar, _, 0, v, rfl, rfl, SqL.of (K2 _ _ har1 out), atI_nat (j := 0) rfl, k1 c' H2 W2 (Kept.trans (Kept.of sm) K2)⟩
end
end My
namespace L2
open PySem PySem.Spec PyProof.Rows
section
variable {X : Cx} {CX : CXT} {k : Nat} {f C : Addr} {fd : FuncData} {ps : List Str} {sp : Sp} {E : St → XK} {x m : Str} {p pos apos : Pos} {e o : Expr} {es : List Expr} {ta : TE} {t : TA}
def tMethW (C : Addr) (m : Str) (sp : Sp) (E : St → XK) (ta : TE) (t : TA) : TE := fun σ H Q => ta σ H fun x H1 => ∃ a dx fs, x = .ref a ∧ H1 a = some (.ins C dx fs) ∧ fs.lookup m = none ∧ t σ H1 fun vs H2 => sp (x :: vs) H2 Q (E σ)
theorem pe_methW {pl : Sem Bool} (he : PE X o ta) (c : Cls X.K C) (hm : Meth X.K C m f) (F : FnOk X.prog X.w X.K X.mg X.base CX k f fd ps sp) (hr : Room k X.A) (hb : Binds X.K fd ps []) (hx : ∀ σ, PassesAt CX X σ (E σ)) (ha : PA X (e :: es) t)
    (hst : starEach (e :: es) X.env = (false, eval e X.env) :: starEach es X.env := by rfl) (hpl : (backTo pos (starEach es X.env)).any (·.1) = false := by rfl)
    (ht : eval (.Call (.Attribute o m apos) (e :: es) [] pos) X.env = (do
      let ov ← eval o X.env
      standAt apos.atName
      let (f, first) ← holding [ov] (getMethod ov m pl)
      callWith pos f first (backTo pos (starEach (e :: es) X.env)) (backToKw pos (keywordEach [] X.env))) := by rfl) :
    PE X (.Call (.Attribute o m apos) (e :: es) [] pos) (tMethW C m sp E ta t) := by
  refine ⟨fun pins s σ H Q I h => ?_⟩
  refine PySem.W.methodCall_KW (pl := pl) (thn (he.run pins s σ H _ I h) fun u s1 ⟨x, H1, I1, rx, a, dx, fs, ex, ea, l, q⟩ => ?_) ht
  subst ex
  obtain rfl : u = Value.ref a := rx
  refine getmeth_ok I1 ea c hm l ?_
  refine PySem.W.callWith_K (first := [.ref a]) (h₀ := X.base) I.ok.mod.kin hm.kp (thn (ha.run pos pins s1 σ H1 _ I1 q) fun us s2 ⟨vs, H2, I2, r, q2⟩ => ⟨I2.kIn, ?_⟩) hst hpl
  exact run_fnS (us := .ref a :: us) (vs := .ref a :: vs) F hr hb (hx σ) I2 (.cons rfl r) q2
end
end L2
namespace My
open PySem PySem.Spec PyProof.Rows L2
abbrev sTold : Stmt := topS 25
theorem scGeneric : FnScope ["self", "what", "name", "args"] ["self", "what", "name", "args"] (defScope (sW 28)) := ⟨rfl, rfl, rfl, by decide +kernel, rfl, by decide +kernel, by decide +kernel⟩
theorem scTold : FnScope ["world", "what", "name", "args", "e"] ["world", "what", "name", "args"] (defScope (sTold)) := ⟨rfl, rfl, rfl, by decide +kernel, rfl, by decide +kernel, by decide +kernel⟩
def spGeneric (K : PySem.W.Frag) (C CT : Addr) : Sp := fun vs H Q E => ∃ (L : Lab → Addr) (R : WS) (what : Str) (nm : V) (ar : Addr) (as : List V), vs = [.ref (L .inst), .str what, nm, .ref ar] ∧ WorldAt K C H L R ∧ H ar = some (.lst as) ∧
  ((what = "get" ∧ ∃ v x, as = [v] ∧ nm = .str x ∧ spGet K C CT [.ref (L .inst), v, .str x] H Q E) ∨
   (what = "put" ∧ ∃ v u x, as = [v, u] ∧ nm = .str x ∧ spPut K C [.ref (L .inst), v, .str x, u] H Q E) ∨
   (((what = "item" ∨ what = "setitem") ∨ what = "len" ∨ what = "push") ∧ ∀ H1, Same H H1 → spOfList K C CT [.ref (L .inst), .str what, .ref ar] H1 Q E) ∨
   (what = "!" ∧ ∃ v d, as = [v] ∧ Vl K H v d ∧ ((∃ b, d = .bool b ∧ Res.then_ K CT H Q E (.val (.bool !b))) ∨ (d.isBool = false ∧ Res.then_ K CT H Q E (.thrown "kind")))) ∨
   (what = "==" ∧ ∃ v u d e, as = [v, u] ∧ Vl K H v d ∧ Vl K H u e ∧ d.ok ∧ e.ok ∧ Res.then_ K CT H Q E (.val (.bool (decide (d = e))))) ∨
   (((what = "+" ∨ what = "-") ∨ what = "*" ∨ what = "<") ∧ ∃ v u, as = [v, u] ∧ ∀ H1, Same H H1 → spJoined K CT [.str what, v, u] H1 Q E))
def Caught (CT : Addr) (Q : VK) (E : XK) : Prop := ∀ a v H', H' a = some (.xd [(("value" : Str), v)]) → (∀ t, H' t = none → Q (.ref t) (upd H' t (.tup [.str "thrown", v]))) → E (.ref CT) (some a) H'
def spTold (K : PySem.W.Frag) (C CT : Addr) : Sp := fun vs H Q _ => ∃ (L : Lab → Addr) (R : WS) (rest : List V), vs = .ref (L .inst) :: rest ∧ rest.length = 3 ∧ WorldAt K C H L R ∧ ∀ E, Caught CT Q E → spGeneric K C CT vs H Q E
section
variable {P : Program} {w : World} {K : PySem.W.Frag} {mg : Str → Option Value} {base : Heap} {C CT fI : Addr}
theorem ok_told {f fG : Addr} {fd fdG : FuncData} (F : Fun K "_law_told" "_law_told" sTold f fd) (T : WT K mg C) (B : Th P K mg CT fI) (te : PySem.W.exmOne K (.ref CT) (.ref CT) = some true) (GG : FnOk P w K mg base (L2.CX P w) 5 fG fdG ["self", "what", "name", "args"] (spGeneric K C CT)) (cG : Mc K C "generic" fG fdG ["self", "what", "name", "args"]) :
    FnOk P w K mg base CX0 6 f fd ["world", "what", "name", "args"] (spTold K C CT) := by
  refine F.ok scTold (fun vs H Q E h => ?_) (fun cdv A outer s H vs Q E hr h => ?_)
  · obtain ⟨L, R, rest, rfl, hl, _⟩ := h; simp [hl]
  · refine ⟨_, pss_one (ps_try_as (i := 4) (c := .ref CT) (tb := fun W => tRet (tMethW C "generic" (spGeneric K C CT) (WE W) (tVar 0) (tCons (tVar 1) (tCons (tVar 2) (tCons (tVar 3) tNil))))) (ts := fun a cls d => tRet (tTup (tCons (tC (.str "thrown")) (tCons (tXf a cls d CT "value" (tVar 4)) tNil)))) (Wout := fun _ _ _ _ => False) rfl rfl scTold.nd rfl rfl ⟨rfl, by decide, Or.inl B.g⟩ takes0
        (fun W pn xe tk _ => pss_one (ps_ret (by exact (pe_methW (pv 0) T.cl cG.m GG hr cG.b (fun σ => passAt tk σ) (by exact (pa_cons (pv 1) (pa_cons (pv 2) (pa_cons (pv 3) pa_nil))))))))
        (fun a oe cls d pn hz hf => pss_one (ps_ret (by exact (pe_tup (pa_cons pe_str (pa_cons (pe_xf ⟨B.tx.ga, B.tx.gg, B.tx.exC, B.tx.hdC⟩ B.tx.noN hz hf (pv 4)) pa_nil))))))), ?_⟩
    obtain ⟨L, R, rest, rfl, hl, W, hk⟩ := h
    match rest, hl with
    | [what, nm, ar], _ =>
      refine ⟨_, rfl, L .inst, L .own, _, rfl, W.at_ .inst trivial, f_no (by decide +kernel), what, rfl, nm, rfl, ar, rfl, hk _ fun a v H' ha q => ⟨true, te, fun _ b hb => ⟨_, rfl, rfl, rfl, a, _, v, rfl, ha, lk_hit, by show 2 ≤ sizeLine; decide, fun t ht => q t ht⟩, fun q => (nomatch q)⟩⟩
theorem ok_generic {f fA fB fC fD fE : Addr} {fd fdA fdB fdC fdD fdE : FuncData} (F : Fun K "generic" "World.generic" (sW 28) f fd) (T : WT K mg C) (B : Th P K mg CT fI) (GA : FnOk P w K mg base (L2.CX P w) 3 fA fdA ["self", "value", "name"] (spGet K C CT)) (cA : Mc K C "get" fA fdA ["self", "value", "name"])
    (GB : FnOk P w K mg base (L2.CX P w) 4 fB fdB ["self", "value", "name", "told"] (spPut K C)) (cB : Mc K C "put" fB fdB ["self", "value", "name", "told"]) (GC : FnOk P w K mg base (L2.CX P w) 4 fC fdC ["self", "what", "args"] (spOfList K C CT)) (cC : Mc K C "of_list" fC fdC ["self", "what", "args"])
    (GD : FnOk P w K mg base CX0 1 fD fdD ["one", "two"] (spSame K)) (cD : Fc K mg "same" fD fdD ["one", "two"]) (GE : FnOk P w K mg base (L2.CX P w) 2 fE fdE ["sign", "one", "two"] (spJoined K CT)) (cE : Fc K mg "joined" fE fdE ["sign", "one", "two"]) :
    FnOk P w K mg base (L2.CX P w) 5 f fd ["self", "what", "name", "args"] (spGeneric K C CT) := by
  refine F.okX scGeneric (fun vs H Q E h => ?_) (fun cdv A outer s H vs Q E hr h => ?_)
  · obtain ⟨L, R, what, nm, ar, as, rfl, _⟩ := h; rfl
  · refine ⟨_, pss_cons (ps_if (pt_cmpR op_eq (pv 1) pe_str (nomark _)) (pss_one (ps_ret (pe_meth (pv 0) T.cl cA.m GA (hr.mono (by decide)) cA.b .nil (passes_call (takes_of rfl rfl rfl rfl) fun _ _ _ _ h => h) (pa_cons (pe_ix ix_list (pv 3) pe_int (fun _ _ => rfl)) (pa_cons (pv 2) pa_nil))))) pss_nil)
      (pss_cons (ps_if (pt_cmpR op_eq (pv 1) pe_str (nomark _)) (pss_one (ps_ret (pe_meth (pv 0) T.cl cB.m GB hr cB.b .nil (passes_call (takes_of rfl rfl rfl rfl) fun _ _ _ _ h => h) (pa_cons (pe_ix ix_list (pv 3) pe_int (fun _ _ => rfl)) (pa_cons (pv 2) (pa_cons (pe_ix ix_list (pv 3) pe_int (fun _ _ => rfl)) pa_nil)))))) pss_nil)
      (pss_cons (ps_if (pt_cmpR op_in_seq (pv 1) (pe_tup (pa_cons pe_str (pa_cons pe_str (pa_cons pe_str (pa_cons pe_str pa_nil))))) (by rfl)) (pss_one (ps_ret (pe_meth (pv 0) T.cl cC.m GC hr cC.b .nil (passes_call (takes_of rfl rfl rfl rfl) fun _ _ _ _ h => h) (pa_cons (pv 1) (pa_cons (pv 3) pa_nil))))) pss_nil)
      (pss_cons (ps_if (pt_cmpR op_eq (pv 1) pe_str (nomark _))
        (pss_cons (ps_if (pt_cmpR op_ne (pe_ix ix_tup (pe_ix ix_list (pv 3) pe_int (fun _ _ => rfl)) pe_int (fun _ _ => rfl)) pe_str (nomark _)) (pss_one (ps_raiseVal rfl B.tx ⟨B.sup⟩ B.g (show Room 1 _ from hr.mono (by decide)) (takes_of rfl rfl rfl rfl) (pa_cons (pe_tup (pa_cons pe_str (pa_cons pe_str pa_nil))) pa_nil) (by rfl))) pss_nil)
          (pss_one (ps_ret (pe_tup (pa_cons pe_str (pa_cons (pe_not (pe_ix ix_tup (pe_ix ix_list (pv 3) pe_int (fun _ _ => rfl)) pe_int (fun _ _ => rfl))) pa_nil)))))) pss_nil)
      (pss_cons (ps_if (pt_cmpR op_eq (pv 1) pe_str (nomark _)) (pss_one (ps_ret (pe_tup (pa_cons pe_str (pa_cons (pe_call GD (hr.mono (by decide)) rfl cD.g cD.kp cD.b .nil pass0 (pa_cons (pe_ix ix_list (pv 3) pe_int (fun _ _ => rfl)) (pa_cons (pe_ix ix_list (pv 3) pe_int (fun _ _ => rfl)) pa_nil))) pa_nil))))) pss_nil)
      (pss_one (ps_ret (pe_call GE (hr.mono (by decide)) rfl cE.g cE.kp cE.b .nil (passes_call (takes_of rfl rfl rfl rfl) fun _ _ _ _ h => h) (pa_cons (pv 1) (pa_cons (pe_ix ix_list (pv 3) pe_int (fun _ _ => rfl)) (pa_cons (pe_ix ix_list (pv 3) pe_int (fun _ _ => rfl)) pa_nil)))))))))), ?_⟩
    obtain ⟨L, R, what, nm, ar, as, rfl, W, har, hk⟩ := h
    rcases hk with ⟨rfl, v, x, rfl, rfl, k⟩ | ⟨rfl, v, u, x, rfl, rfl, k⟩ | ⟨hw, k⟩ | ⟨rfl, v, d, rfl, hv, k⟩ | ⟨rfl, v, u, d, e, rfl, hv, hu, od, oe, k⟩ | ⟨hw, v, u, rfl, k⟩
    · exact ⟨_, rfl, rfl, true, rfl, iteT ⟨_, rfl, L .inst, L .own, _, rfl, W.at_ .inst trivial, f_no (by decide +kernel), _, rfl, ar, _, 0, v, rfl, rfl, SqL.of har, atI_nat (j := 0) rfl, _, rfl, k⟩⟩
    · exact ⟨_, rfl, rfl, false, rfl, iteF ⟨_, rfl, rfl, true, rfl, iteT ⟨_, rfl, L .inst, L .own, _, rfl, W.at_ .inst trivial, f_no (by decide +kernel), _, rfl, ar, _, 0, v, rfl, rfl, SqL.of har, atI_nat (j := 0) rfl, _, rfl, _, rfl, ar, _, 1, u, rfl, rfl, SqL.of har, atI_nat (j := 1) rfl, k⟩⟩⟩
    · obtain ⟨n1, n2, n3⟩ : decide (V.str what = V.str "get") = false ∧ decide (V.str what = V.str "put") = false ∧ inV (V.str what) [V.str "item", V.str "setitem", V.str "len", V.str "push"] = true := by
        rcases hw with (rfl | rfl) | rfl | rfl <;> decide +kernel
      refine ⟨_, rfl, rfl, _, congrArg V.bl n1, iteF ⟨_, rfl, rfl, _, congrArg V.bl n2, iteF ⟨_, rfl, by show 4 ≤ sizeLine; decide, fun t ht => ⟨t, _, rfl, .inr (SqT.of upd_same), rfl, (by decide), _, congrArg V.bl n3, ?_⟩⟩⟩⟩
      have W1 := W.same (same_new (o := .tup [V.str "item", V.str "setitem", V.str "len", V.str "push"]) ht)
      exact iteT ⟨_, rfl, L .inst, L .own, _, rfl, W1.at_ .inst trivial, f_no (by decide +kernel), _, rfl, _, rfl, k _ (same_new ht)⟩
    · obtain ⟨a, rfl, ta⟩ := id hv
      refine ⟨_, rfl, rfl, false, rfl, iteF ⟨_, rfl, rfl, false, rfl, iteF ⟨_, rfl, by show 4 ≤ sizeLine; decide, fun t ht => ⟨t, _, rfl, .inr (SqT.of upd_same), rfl, (by decide), false, rfl, iteF ⟨_, rfl, rfl, true, rfl, iteT ?_⟩⟩⟩⟩⟩
      have sm := same_new (o := .tup [V.str "item", V.str "setitem", V.str "len", V.str "push"]) ht
      have ta1 := ta.keep (KeepT.of sm)
      refine ⟨_, rfl, ar, _, 0, .ref a, rfl, rfl, SqL.of (sm _ _ har), atI_nat (j := 0) rfl, a, _, 0, .str d.word, rfl, rfl, ta1.sq, atI_nat (j := 0) rfl, rfl, _, congrArg V.bl (by rw [d.word_bool]), ?_⟩
      rcases k with ⟨b, rfl, k⟩ | ⟨nb, k⟩
      · refine iteF ⟨_, rfl, ar, _, 0, .ref a, rfl, rfl, SqL.of (sm _ _ har), atI_nat (j := 0) rfl, a, _, 1, .bl b, rfl, rfl, ta1.sq, atI_nat (j := 1) rfl, b, rfl, by show 2 ≤ sizeLine; decide, fun q hq => ?_⟩
        exact k _ _ (fun c o z => same_new hq c o (sm c o z)) ⟨q, rfl, .inl upd_same⟩
      · rw [nb]
        exact iteT ⟨by decide, fun p np => ⟨_, rfl, fun d' nd => raise_ok k sm p np d' nd⟩⟩
    · refine ⟨_, rfl, rfl, false, rfl, iteF ⟨_, rfl, rfl, false, rfl, iteF ⟨_, rfl, by show 4 ≤ sizeLine; decide, fun t ht => ⟨t, _, rfl, .inr (SqT.of upd_same), rfl, (by decide), false, rfl, iteF ⟨_, rfl, rfl, false, rfl, iteF ⟨_, rfl, rfl, true, rfl, iteT ?_⟩⟩⟩⟩⟩⟩
      have sm := same_new (o := .tup [V.str "item", V.str "setitem", V.str "len", V.str "push"]) ht
      refine ⟨_, rfl, ar, _, 0, v, rfl, rfl, SqL.of (sm _ _ har), atI_nat (j := 0) rfl, _, rfl, ar, _, 1, u, rfl, rfl, SqL.of (sm _ _ har), atI_nat (j := 1) rfl, v, u, d, e, rfl, hv.keep (KeepT.of sm), hu.keep (KeepT.of sm), od, oe, by show 2 ≤ sizeLine; decide, fun q hq => ?_⟩
      exact k _ _ (fun c o z => same_new hq c o (sm c o z)) ⟨q, rfl, .inl upd_same⟩
    · obtain ⟨n1, n2, n3, n4, n5⟩ : decide (V.str what = V.str "get") = false ∧ decide (V.str what = V.str "put") = false ∧ inV (V.str what) [V.str "item", V.str "setitem", V.str "len", V.str "push"] = false ∧ decide (V.str what = V.str "!") = false ∧ decide (V.str what = V.str "==") = false := by
        rcases hw with (rfl | rfl) | rfl | rfl <;> decide +kernel
      refine ⟨_, rfl, rfl, _, congrArg V.bl n1, iteF ⟨_, rfl, rfl, _, congrArg V.bl n2, iteF ⟨_, rfl, by show 4 ≤ sizeLine; decide, fun t ht => ⟨t, _, rfl, .inr (SqT.of upd_same), rfl, (by decide), _, congrArg V.bl n3, iteF ⟨_, rfl, rfl, _, congrArg V.bl n4, iteF ⟨_, rfl, rfl, _, congrArg V.bl n5, iteF ?_⟩⟩⟩⟩⟩⟩
      have sm := same_new (o := .tup [V.str "item", V.str "setitem", V.str "len", V.str "push"]) ht
      exact ⟨_, rfl, _, rfl, ar, _, 0, v, rfl, rfl, SqL.of (sm _ _ har), atI_nat (j := 0) rfl, _, rfl, ar, _, 1, u, rfl, rfl, SqL.of (sm _ _ har), atI_nat (j := 1) rfl, k _ sm⟩
end
end My
namespace L2
open PySem PySem.Spec PyProof.Rows
/-- a text so often -/
def repS (x : Str) (n : Int) : Str := if n < 1 then Str.empty else if (n == 1 || x.length == 0) = true then x else ⟨(List.replicate n.toNat x.cps).foldl (· ++ ·) #[]⟩
theorem op_mul_str {X : Cx} : OpR X (binaryOp .Mult) (fun x y H Q => ∃ a n, x = .str a ∧ y = .int n ∧ 0 ≤ n ∧ n ≤ 1000 ∧ a.length ≤ 1000 ∧ (repS a n).length ≤ sizeLine ∧ Q (.str (repS a n)) H) := by
  intro pins s σ H x y v u Q I rx ry h
  obtain ⟨a, n, rfl, rfl, h0, h1, hl, hz, q⟩ := h
  obtain ⟨t, rfl⟩ := rx
  obtain ⟨t', rfl⟩ := ry
  have fin : ∀ (tk : Tok) (toks : Nat), EP X pins σ Q (.str (repS a n) tk) { s with toks := toks } := fun tk toks => ⟨.str (repS a n), H, I.tok _, ⟨_, rfl⟩, q⟩
  refine PySem.P.mul_str (by rw [decide_eq_false (by omega), decide_eq_false (by omega)]; rfl) (fun np _ z => ?_) (fun _ _ => ?_) ?_
  · have n0 : 0 < n := by omega
    have z' := (Int.ediv_lt_iff_lt_mul n0).mp z
    have k1 : (a.length : Int) * n ≤ 1000 * 1000 := Int.mul_le_mul (by omega) h1 h0 (by decide)
    omega
  · have k1 : a.length * n.toNat ≤ 1000 * 1000 := Nat.mul_le_mul hl (by omega)
    exact decide_eq_false (by rw [sizeLine_eq]; omega)
  · unfold repS at fin hz
    by_cases c1 : n < 1
    · rw [if_pos c1] at fin hz ⊢
      exact ⟨hz, fin _ _⟩
    · rw [if_neg c1] at fin hz ⊢
      by_cases c2 : (n == 1 || a.length == 0) = true
      · rw [if_pos c2] at fin hz ⊢
        exact fin t s.toks
      · rw [if_neg c2] at fin hz ⊢
        exact ⟨hz, fin _ _⟩
end L2

namespace My
open PySem PySem.Spec PyProof.Rows L2
abbrev sDrawn : Stmt := topS 24
abbrev sSign : Stmt := topS 26
theorem scDrawn : FnScope ["draws", "k", "refs", "kind", "number", "rows"] ["draws", "k", "refs"] (defScope (sDrawn)) := ⟨rfl, rfl, rfl, by decide +kernel, rfl, by decide +kernel, by decide +kernel⟩
theorem scSign : FnScope ["sign", "one", "two", "bad", "number"] ["sign", "one", "two"] (defScope (sSign)) := ⟨rfl, rfl, rfl, by decide +kernel, rfl, by decide +kernel, by decide +kernel⟩
/-- what may be drawn, where there are n cells -/
def Drawn (n : Nat) : Val → Prop
  | .int z => -40000 ≤ z ∧ z ≤ 999999999
  | .bool b => b = true
  | .nul => True
  | .text s => s.length ≤ 40 ∧ PyData.strOk s = true
  | .fn z => z = 2
  | .ref z => ∃ i : Nat, i < n ∧ z = (i : Int)
theorem Drawn.ok {n : Nat} : ∀ {d : Val}, Drawn n d → d.ok
  | .int _, _ => trivial | .bool _, _ => trivial | .nul, _ => trivial | .text _, h => h.2 | .fn _, _ => trivial | .ref _, _ => trivial
theorem Drawn.mid {n : Nat} : ∀ {d : Val}, Drawn n d → d.mid
  | .int z, h => by
    obtain ⟨h1, h2⟩ : -40000 ≤ z ∧ z ≤ 999999999 := h
    exact ⟨by omega, by omega⟩
  | .bool _, _ => trivial | .nul, _ => trivial | .text s, h => Nat.le_trans h.1 (by decide) | .fn _, _ => trivial | .ref _, _ => trivial
theorem ab_ok : ∀ i : Fin 20, (repS "ab" (i.val : Int)).length ≤ 40 ∧ PyData.strOk (repS "ab" (i.val : Int)) = true := by decide +kernel
theorem DpAll.of {K : PySem.W.Frag} {H : Hp} : ∀ {ps : List VV}, (∀ p ∈ ps, Vl K H p.1 p.2) → DpAll K H (ps.map (·.1)) (ps.map fun p => p.2.data)
  | [], _ => .nil
  | p :: r, h => .cons (h p List.mem_cons_self).dp (DpAll.of fun q hq => h q (List.mem_cons_of_mem _ hq))
theorem lay_all : ∀ {ds : List Val}, (∀ d ∈ ds, d.ok) → PyData.canLayAll0 (ds.map Val.data) = true ∧ PyData.depthAll (ds.map Val.data) ≤ 3
  | [], _ => ⟨rfl, by simp [PyData.depthAll]⟩
  | d :: r, h => by
    obtain ⟨h1, h2⟩ := lay_all (ds := r) fun q hq => h q (List.mem_cons_of_mem _ hq)
    have z := d.shaped (h d List.mem_cons_self)
    have z1 := SeqAt.canLay_of_shaped z
    have z3 : d.data.depth ≤ 3 := by
      have q := argDeep d
      unfold Val.data
      simp only [PyData.depth, PyData.depthAll]
      omega
    simp only [List.map_cons, PyData.canLayAll0, PyData.depthAll, z1, h1, Bool.true_and]
    exact ⟨trivial, by omega⟩
theorem shaped_all {ds : List Val} (h : ∀ d ∈ ds, d.ok) : SeqAt.shaped (.list (ds.map Val.data)) = true := by
  obtain ⟨h1, h2⟩ := lay_all h
  have e : PyData.depth (.list (ds.map Val.data)) ≤ 5 := by simp only [PyData.depth]; omega
  refine Bool.and_eq_true_iff.mpr ⟨?_, decide_eq_true (by omega)⟩
  simp only [PyData.canLay0, h1]
def spDrawn (K : PySem.W.Frag) : Sp := fun vs H Q _ => ∃ (a rf : Addr) (ds : List Int) (k : Int) (ps : List VV), vs = [.ref a, .int k, .ref rf] ∧ SqL K H a (ds.map V.int) ∧ DrawsOk 3780 ds ∧ 0 ≤ k ∧ k < 9000000 ∧ SqL K H rf (ps.map (·.1)) ∧ 0 < ps.length ∧ ps.length ≤ 100 ∧ (∀ p ∈ ps, Vl K H p.1 p.2) ∧ (∀ (i : Nat) (p : VV), ps[i]? = some p → p.2 = .ref ((i : Nat) : Int)) ∧
  ∀ H' v d, Same H H' → Vl K H' v d → Drawn ps.length d → Q v H'
section
variable {P : Program} {w : World} {K : PySem.W.Frag} {mg : Str → Option Value} {base : Heap}
theorem ok_drawn {f fM : Addr} {fd fdM : FuncData} (F : Fun K "_law_drawn" "_law_drawn" sDrawn f fd) (hlen : mg "len" = none) (GM : FnOk P w K mg base CX0 1 fM fdM ["draws", "k", "many"] (spMix K)) (cM : Fc K mg "_law_mix" fM fdM ["draws", "k", "many"]) :
    FnOk P w K mg base CX0 2 f fd ["draws", "k", "refs"] (spDrawn K) := by
  refine F.ok scDrawn (fun vs H Q E h => ?_) (fun cdv A outer s H vs Q E hr h => ?_)
  · obtain ⟨a, rf, ds, k, ps, rfl, _⟩ := h; rfl
  · refine ⟨_, pss_cons (ps_set (i := 3) scDrawn.nd rfl (.inl rfl) (pe_call GM hr rfl cM.g cM.kp cM.b .nil pass0 (pa_cons (pv 0) (pa_cons (pv 1) (pa_cons pe_int pa_nil)))))
      (pss_cons (ps_set (i := 4) scDrawn.nd rfl (.inl rfl) (pe_ix ix_list (pe_lst (pa_cons (pe_call GM hr rfl cM.g cM.kp cM.b .nil pass0 (pa_cons (pv 0) (pa_cons (pe_op op_add (pv 1) pe_int) (pa_cons pe_int pa_nil)))) (pa_cons pe_int (pa_cons pe_int (pa_cons (pe_un un_neg pe_int) (pa_cons pe_int (pa_cons pe_int pa_nil)))))))
          (pe_call GM hr rfl cM.g cM.kp cM.b .nil pass0 (pa_cons (pv 0) (pa_cons (pe_op op_add (pv 1) pe_int) (pa_cons pe_int pa_nil)))) (fun _ _ => rfl)))
      (pss_cons (ps_set (i := 5) scDrawn.nd rfl (.inl rfl) (pe_op op_cat (pe_op op_rep (pe_lst (pa_cons (pe_tup (pa_cons pe_str (pa_cons (pv 4) pa_nil))) pa_nil)) pe_int)
          (pe_lst (pa_cons (pe_tup (pa_cons pe_str (pa_cons pe_bl pa_nil))) (pa_cons (pe_tup (pa_cons pe_str pa_nil)) (pa_cons (pe_tup (pa_cons pe_str (pa_cons (pe_op op_mul_str pe_str (pe_call GM hr rfl cM.g cM.kp cM.b .nil pass0 (pa_cons (pv 0) (pa_cons (pe_op op_add (pv 1) pe_int) (pa_cons pe_int pa_nil))))) pa_nil)))
            (pa_cons (pe_tup (pa_cons pe_str (pa_cons pe_int pa_nil))) pa_nil)))))))
      (pss_cons (ps_if (PW.pt (pw_and (pt_cmpR (op_neD (hu64 hr)) (pv 2) (pe_lst pa_nil) (nomark _)) (pw_and1 (pt_cmpR op_eq (pe_call GM hr rfl cM.g cM.kp cM.b .nil pass0 (pa_cons (pv 0) (pa_cons (pe_op op_add (pv 1) pe_int) (pa_cons pe_int pa_nil)))) pe_int (nomark _)))))
        (pss_one (ps_ret (pe_ix ix_list (pv 2) (pe_call GM hr rfl cM.g cM.kp cM.b .nil pass0 (pa_cons (pv 0) (pa_cons (pe_op op_add (pv 1) pe_int) (pa_cons (pe_callB call_len_seq (by rfl) hlen PySem.boot_len (pa_cons (pv 2) pa_nil)) pa_nil)))) (fun _ _ => rfl)))) pss_nil)
      (pss_one (ps_ret (pe_ix ix_list (pv 5) (pv 3) (fun _ _ => rfl))))))), ?_⟩
    obtain ⟨a, rf, ds, k, ps, rfl, hS, hd, k0, k1, hR, hn, hn2, hv, hi, kQ⟩ := h
    refine ⟨_, rfl, _, rfl, a, ds, k, 9, rfl, hS, hd, k0, by omega, by decide, fun r0 a0 b0 => ?_⟩
    refine ⟨_, rfl, _, rfl, _, _, rfl, rfl, a, ds, k + 1, 9, rfl, hS, hd, by omega, by omega, by decide, fun r1 a1 b1 => ⟨_, rfl, by show 6 ≤ sizeLine; decide, fun q1 hq1 => ?_⟩⟩
    have sm1 : Same H (upd H q1 (.lst [.int r1, .int 32767, .int 32768, .int (-32768), .int 60000, .int 999999999])) := same_new hq1
    refine ⟨_, rfl, _, rfl, _, _, rfl, rfl, a, ds, k + 2, 6, rfl, sm1.seq hS, hd, by omega, by omega, by decide, fun r2 a2 b2 => ?_⟩
    obtain ⟨z, ez, hz⟩ : ∃ z, atI [V.int r1, .int 32767, .int 32768, .int (-32768), .int 60000, .int 999999999] r2 = some (.int z) ∧ (-40000 ≤ z ∧ z ≤ 999999999) := by
      obtain ⟨j, rfl⟩ : ∃ j : Nat, r2 = (j : Int) := ⟨r2.toNat, by omega⟩
      have : j = 0 ∨ j = 1 ∨ j = 2 ∨ j = 3 ∨ j = 4 ∨ j = 5 := by omega
      rcases this with rfl | rfl | rfl | rfl | rfl | rfl
      · exact ⟨r1, atI_nat (j := 0) rfl, by omega, by omega⟩
      · exact ⟨_, atI_nat (j := 1) rfl, by omega, by omega⟩
      · exact ⟨_, atI_nat (j := 2) rfl, by omega, by omega⟩
      · exact ⟨_, atI_nat (j := 3) rfl, by omega, by omega⟩
      · exact ⟨_, atI_nat (j := 4) rfl, by omega, by omega⟩
      · exact ⟨_, atI_nat (j := 5) rfl, by omega, by omega⟩
    refine ⟨q1, _, _, _, rfl, rfl, SqL.of upd_same, ez, ?_⟩
    generalize (upd H q1 (.lst [.int r1, .int 32767, .int 32768, .int (-32768), .int 60000, .int 999999999])) = H1 at sm1
    refine ⟨_, rfl, by show 2 ≤ sizeLine; decide, fun p0 n0 => ?_⟩
    have v0 : Vl K (upd H1 p0 (.tup [.str "int", .int z])) (.ref p0) (.int z) := ⟨p0, rfl, .inl upd_same⟩
    have sm2 : Same H (upd H1 p0 (.tup [.str "int", .int z])) := fun b o e => same_new n0 b o (sm1 b o e)
    generalize (upd H1 p0 (.tup [.str "int", .int z])) = H2 at v0 sm2
    refine ⟨by show 1 ≤ sizeLine; decide, fun q2 hq2 => ?_⟩
    have l2 : upd H2 q2 (.lst [.ref p0]) q2 = some (.lst [.ref p0]) := upd_same
    have v0 := v0.keep (KeepT.of (same_new (o := .lst [.ref p0]) hq2))
    have sm3 : Same H (upd H2 q2 (.lst [.ref p0])) := fun b o e => same_new hq2 b o (sm2 b o e)
    generalize (upd H2 q2 (.lst [.ref p0])) = H3 at v0 l2 sm3
    refine ⟨q2, 5, _, rfl, rfl, l2, by decide, by decide, by show 5 ≤ sizeLine; decide, fun q3 hq3 => ?_⟩
    have e5 : (List.replicate (5 : Int).toNat [V.ref p0]).flatten = [.ref p0, .ref p0, .ref p0, .ref p0, .ref p0] := rfl
    rw [e5]
    have l3 : upd H3 q3 (.lst [.ref p0, .ref p0, .ref p0, .ref p0, .ref p0]) q3 = some (.lst [.ref p0, .ref p0, .ref p0, .ref p0, .ref p0]) := upd_same
    have v0 := v0.keep (KeepT.of (same_new (o := .lst [.ref p0, .ref p0, .ref p0, .ref p0, .ref p0]) hq3))
    have sm4 : Same H (upd H3 q3 (.lst [.ref p0, .ref p0, .ref p0, .ref p0, .ref p0])) := fun b o e => same_new hq3 b o (sm3 b o e)
    generalize (upd H3 q3 (.lst [.ref p0, .ref p0, .ref p0, .ref p0, .ref p0])) = H4 at v0 l3 sm4
    refine ⟨by show 2 ≤ sizeLine; decide, fun p1 n1 => ?_⟩
    have v1 : Vl K (upd H4 p1 (.tup [.str "bool", .bl true])) (.ref p1) (.bool true) := ⟨p1, rfl, .inl upd_same⟩
    have s5 := same_new (o := .tup [.str "bool", .bl true]) n1
    have sm5 : Same H (upd H4 p1 (.tup [.str "bool", .bl true])) := fun b o e => s5 b o (sm4 b o e)
    have v0 := v0.keep (KeepT.of s5)
    have l3 := s5 _ _ l3
    generalize (upd H4 p1 (.tup [.str "bool", .bl true])) = H5 at v0 v1 l3 sm5
    refine ⟨by show 1 ≤ sizeLine; decide, fun p2 n2 => ?_⟩
    have v2 : Vl K (upd H5 p2 (.tup [.str "null"])) (.ref p2) .nul := ⟨p2, rfl, .inl upd_same⟩
    have s6 := same_new (o := .tup [.str "null"]) n2
    have sm6 : Same H (upd H5 p2 (.tup [.str "null"])) := fun b o e => s6 b o (sm5 b o e)
    have v0 := v0.keep (KeepT.of s6)
    have v1 := v1.keep (KeepT.of s6)
    have l3 := s6 _ _ l3
    generalize (upd H5 p2 (.tup [.str "null"])) = H6 at v0 v1 v2 l3 sm6
    refine ⟨_, rfl, _, rfl, _, _, rfl, rfl, a, ds, k + 3, 20, rfl, sm6.seq hS, hd, by omega, by omega, by decide, fun r3 a3 b3 => ?_⟩
    obtain ⟨j3, rfl⟩ : ∃ j : Nat, r3 = (j : Int) := ⟨r3.toNat, by omega⟩
    have ab := ab_ok ⟨j3, by omega⟩
    refine ⟨"ab", _, rfl, rfl, a3, by omega, by decide, by rw [sizeLine_eq]; have := ab.1; simp only at this; omega, by show 2 ≤ sizeLine; decide, fun p3 n3 => ?_⟩
    have v3 : Vl K (upd H6 p3 (.tup [.str "text", .str (repS "ab" (j3 : Int))])) (.ref p3) (.text (repS "ab" (j3 : Int))) := ⟨p3, rfl, .inl upd_same⟩
    have s7 := same_new (o := .tup [.str "text", .str (repS "ab" (j3 : Int))]) n3
    have sm7 : Same H (upd H6 p3 (.tup [.str "text", .str (repS "ab" (j3 : Int))])) := fun b o e => s7 b o (sm6 b o e)
    have v0 := v0.keep (KeepT.of s7)
    have v1 := v1.keep (KeepT.of s7)
    have v2 := v2.keep (KeepT.of s7)
    have l3 := s7 _ _ l3
    generalize (upd H6 p3 (.tup [.str "text", .str (repS "ab" (j3 : Int))])) = H7 at v0 v1 v2 v3 l3 sm7
    refine ⟨by show 2 ≤ sizeLine; decide, fun p4 n4 => ?_⟩
    have v4 : Vl K (upd H7 p4 (.tup [.str "fun", .int 2])) (.ref p4) (.fn 2) := ⟨p4, rfl, .inl upd_same⟩
    have s8 := same_new (o := .tup [.str "fun", .int 2]) n4
    have sm8 : Same H (upd H7 p4 (.tup [.str "fun", .int 2])) := fun b o e => s8 b o (sm7 b o e)
    have v0 := v0.keep (KeepT.of s8)
    have v1 := v1.keep (KeepT.of s8)
    have v2 := v2.keep (KeepT.of s8)
    have v3 := v3.keep (KeepT.of s8)
    have l3 := s8 _ _ l3
    generalize (upd H7 p4 (.tup [.str "fun", .int 2])) = H8 at v0 v1 v2 v3 v4 l3 sm8
    refine ⟨by show 4 ≤ sizeLine; decide, fun q4 hq4 => ?_⟩
    refine ⟨q3, q4, _, _, rfl, rfl, same_new hq4 _ _ l3, upd_same, by show 9 ≤ sizeLine; decide, fun q5 hq5 => ?_⟩
    have s9 : Same H8 (upd (upd H8 q4 (.lst [.ref p1, .ref p2, .ref p3, .ref p4])) q5 (.lst ([.ref p0, .ref p0, .ref p0, .ref p0, .ref p0] ++ [.ref p1, .ref p2, .ref p3, .ref p4]))) := fun b o e => same_new hq5 b o (same_new hq4 b o e)
    have sm9 : Same H (upd (upd H8 q4 (.lst [.ref p1, .ref p2, .ref p3, .ref p4])) q5 (.lst ([.ref p0, .ref p0, .ref p0, .ref p0, .ref p0] ++ [.ref p1, .ref p2, .ref p3, .ref p4]))) := fun b o e => s9 b o (sm8 b o e)
    have v0 := v0.keep (KeepT.of s9)
    have v1 := v1.keep (KeepT.of s9)
    have v2 := v2.keep (KeepT.of s9)
    have v3 := v3.keep (KeepT.of s9)
    have v4 := v4.keep (KeepT.of s9)
    have l5 : (upd (upd H8 q4 (.lst [.ref p1, .ref p2, .ref p3, .ref p4])) q5 (.lst ([.ref p0, .ref p0, .ref p0, .ref p0, .ref p0] ++ [.ref p1, .ref p2, .ref p3, .ref p4]))) q5 = some (.lst [.ref p0, .ref p0, .ref p0, .ref p0, .ref p0, .ref p1, .ref p2, .ref p3, .ref p4]) := upd_same
    generalize (upd (upd H8 q4 (.lst [.ref p1, .ref p2, .ref p3, .ref p4])) q5 (.lst ([.ref p0, .ref p0, .ref p0, .ref p0, .ref p0] ++ [.ref p1, .ref p2, .ref p3, .ref p4]))) = H9 at v0 v1 v2 v3 v4 l5 sm9
    -- rows[kind]
    have last : ∀ H', Same H9 H' → ∃ u d, atI [V.ref p0, .ref p0, .ref p0, .ref p0, .ref p0, .ref p1, .ref p2, .ref p3, .ref p4] r0 = some u ∧ Q u H' := fun H' sm => by
      have t : Same H H' := fun b o e => sm b o (sm9 b o e)
      have kt := KeepT.of sm
      have d3 : Drawn ps.length (.text (repS "ab" (j3 : Int))) := ab
      obtain ⟨j, rfl⟩ : ∃ j : Nat, r0 = (j : Int) := ⟨r0.toNat, by omega⟩
      have : j = 0 ∨ j = 1 ∨ j = 2 ∨ j = 3 ∨ j = 4 ∨ j = 5 ∨ j = 6 ∨ j = 7 ∨ j = 8 := by omega
      rcases this with rfl | rfl | rfl | rfl | rfl | rfl | rfl | rfl | rfl
      · exact ⟨_, Val.nul, atI_nat (j := 0) rfl, kQ H' _ _ t (v0.keep kt) hz⟩
      · exact ⟨_, Val.nul, atI_nat (j := 1) rfl, kQ H' _ _ t (v0.keep kt) hz⟩
      · exact ⟨_, Val.nul, atI_nat (j := 2) rfl, kQ H' _ _ t (v0.keep kt) hz⟩
      · exact ⟨_, Val.nul, atI_nat (j := 3) rfl, kQ H' _ _ t (v0.keep kt) hz⟩
      · exact ⟨_, Val.nul, atI_nat (j := 4) rfl, kQ H' _ _ t (v0.keep kt) hz⟩
      · exact ⟨_, Val.nul, atI_nat (j := 5) rfl, kQ H' _ _ t (v1.keep kt) rfl⟩
      · exact ⟨_, Val.nul, atI_nat (j := 6) rfl, kQ H' _ _ t (v2.keep kt) trivial⟩
      · exact ⟨_, Val.nul, atI_nat (j := 7) rfl, kQ H' _ _ t (v3.keep kt) d3⟩
      · exact ⟨_, Val.nul, atI_nat (j := 8) rfl, kQ H' _ _ t (v4.keep kt) rfl⟩
    -- if refs != [] and ..
    refine ⟨_, rfl, by show 0 ≤ sizeLine; decide, fun q6 hq6 => ?_⟩
    have s10 := same_new (o := .lst []) hq6
    have sm10 : Same H (upd H9 q6 (.lst [])) := fun b o e => s10 b o (sm9 b o e)
    have hne : PyData.eqv (.list (ps.map fun p => p.2.data)) (.list []) = false := by
      cases ps with
      | nil => exact absurd hn (Nat.lt_irrefl 0)
      | cons p r => rfl
    have hdok : ∀ d ∈ ps.map (·.2), d.ok := fun d hdm => by
      obtain ⟨p, hp, rfl⟩ := List.mem_map.mp hdm
      obtain ⟨i, hi'⟩ := List.getElem?_of_mem hp
      rw [hi i p hi']; trivial
    have e7 : (ps.map fun p => p.2.data) = (ps.map (·.2)).map Val.data := by rw [List.map_map]; rfl
    have dR : Dp K (upd H9 q6 (.lst [])) (.ref rf) (.list (ps.map fun (p : VV) => p.2.data)) := .lst (sm10.seq hR) (DpAll.of fun p hp => (hv p hp).keep (KeepT.of sm10))
    refine ⟨.list (ps.map fun (p : VV) => p.2.data), .list [], dR, .lst (SqL.of upd_same) .nil, by rw [e7]; exact shaped_all hdok, by rfl, true, congrArg V.bl (by rw [hne]; rfl), iteT ?_⟩
    refine ⟨_, rfl, _, rfl, _, _, rfl, rfl, a, ds, k + 4, 4, rfl, sm10.seq hS, hd, by omega, by omega, by decide, fun r4 a4 b4 => ⟨rfl, _, rfl, ite2 (fun c => ?_) (fun c => ?_)⟩⟩
    · refine ⟨_, rfl, _, rfl, _, rfl, _, _, rfl, rfl, _, rfl, rf, _, rfl, .inl (sm10.seq hR), a, ds, k + 5, ((ps.map (·.1)).length : Int), rfl, sm10.seq hS, hd, by omega, by omega, by rw [List.length_map]; omega, fun r5 a5 b5 => ?_⟩
      rw [List.length_map] at b5
      obtain ⟨j, rfl⟩ : ∃ j : Nat, r5 = (j : Int) := ⟨r5.toNat, by omega⟩
      have hj : j < ps.length := by omega
      have gj := List.getElem?_eq_getElem hj
      refine ⟨rf, _, (j : Int), _, rfl, rfl, sm10.seq hR, atI_nat (get_fst gj), kQ _ _ _ sm10 ((hv _ (List.mem_of_getElem? gj)).keep (KeepT.of sm10)) ?_⟩
      rw [hi j _ gj]
      exact ⟨j, hj, rfl⟩
    · obtain ⟨u, _, eu, hq⟩ := last _ s10
      exact ⟨_, rfl, _, rfl, q5, _, _, u, rfl, rfl, SqL.of (s10 _ _ l5), eu, hq⟩
end
end My
namespace My
open PySem PySem.Spec PyProof.Rows L2
def Res.data : Res → PyData
  | .val d => d.data
  | .thrown x => .tuple [.str "thrown", (Val.text x).data]
def spSign (K : PySem.W.Frag) : Sp := fun vs H Q _ => ∃ sg v u d e, vs = [.str sg, v, u] ∧ (sg = "+" ∨ sg = "-" ∨ sg = "*" ∨ sg = "<") ∧ Vl K H v d ∧ Vl K H u e ∧ d.mid ∧ e.mid ∧ ∀ H' r, Same H H' → Dp K H' r (join sg d e).data → Q r H'
theorem dp_thrown {K : PySem.W.Frag} {H : Hp} {v : V} {x : Str} {p : Addr} (h : Vl K H v (.text x)) (np : H p = none) : Dp K (upd H p (.tup [.str "thrown", v])) (.ref p) (Res.thrown x).data :=
  .tup (SqT.of upd_same) (.cons (.str _) (.cons (h.keep (KeepT.of (same_new np))).dp .nil))
theorem Dp.keepT {K : PySem.W.Frag} {H H' : Hp} {v : V} {x : Str} (h : ∃ p u, v = .ref p ∧ H p = some (.tup [.str "thrown", u]) ∧ Vl K H u (.text x)) (k : KeepT H H') : ∃ p u, v = .ref p ∧ H' p = some (.tup [.str "thrown", u]) ∧ Vl K H' u (.text x) := by
  obtain ⟨p, u, rfl, a, b⟩ := h
  exact ⟨p, u, rfl, k _ _ a, b.keep k⟩
/-- a thrown word, told by a tuple -/
def ThrAt (K : PySem.W.Frag) (H : Hp) (v : V) (x : Str) : Prop := ∃ p u, v = .ref p ∧ TupAt K H p [.str "thrown", u] ∧ Vl K H u (.text x)
theorem ThrAt.keep {K : PySem.W.Frag} {H H' : Hp} {v : V} {x : Str} (h : ThrAt K H v x) (k : KeepT H H') : ThrAt K H' v x := by
  obtain ⟨p, u, rfl, a, b⟩ := h
  exact ⟨p, u, rfl, a.keep k, b.keep k⟩
theorem ThrAt.dp {K : PySem.W.Frag} {H : Hp} {v : V} {x : Str} (h : ThrAt K H v x) : Dp K H v (Res.thrown x).data := by
  obtain ⟨p, u, rfl, a, b⟩ := h
  exact .tup a.sq (.cons (.str _) (.cons b.dp .nil))
section
variable {P : Program} {w : World} {K : PySem.W.Frag} {mg : Str → Option Value} {base : Heap}
theorem ok_sign {f : Addr} {fd : FuncData} (F : Fun K "_law_sign" "_law_sign" sSign f fd) (hlen : mg "len" = none) (hint : mg "int" = none) (habs : mg "abs" = none) : FnOk P w K mg base CX0 1 f fd ["sign", "one", "two"] (spSign K) := by
  refine F.ok scSign (fun vs H Q E h => ?_) (fun cdv A outer s H vs Q E hr h => ?_)
  · obtain ⟨sg, v, u, d, e, rfl, _⟩ := h; rfl
  · refine ⟨_, pss_cons (ps_set (i := 3) scSign.nd rfl (.inl rfl) (pe_tup (pa_cons pe_str (pa_cons (pe_tup (pa_cons pe_str (pa_cons pe_str pa_nil))) pa_nil))))
      (pss_cons (ps_if (PW.pt (pw_and (pt_cmpR op_eq (pv 0) pe_str (nomark _)) (pw_and (pt_cmpR op_eq (pe_ix ix_tup (pv 1) pe_int (fun _ _ => rfl)) pe_str (nomark _)) (pw_and1 (pt_cmpR op_eq (pe_ix ix_tup (pv 2) pe_int (fun _ _ => rfl)) pe_str (nomark _))))))
        (pss_one (ps_ret (pe_ix ix_list (pe_lst (pa_cons (pe_tup (pa_cons pe_str (pa_cons (pe_op op_add_str (pe_ix ix_tup (pv 1) (pe_un un_neg pe_int) (fun _ _ => rfl)) (pe_ix ix_tup (pv 2) (pe_un un_neg pe_int) (fun _ _ => rfl))) pa_nil)))
            (pa_cons (pe_tup (pa_cons pe_str (pa_cons (pe_tup (pa_cons pe_str (pa_cons pe_str pa_nil))) pa_nil))) pa_nil)))
          (pe_callTy call_int1 (by rfl) hint (by decide +kernel) (pa_cons (pe_cmpR op_gt (pe_callB call_len_str (by rfl) hlen PySem.boot_len (pa_cons (pe_op op_add_str (pe_ix ix_tup (pv 1) (pe_un un_neg pe_int) (fun _ _ => rfl)) (pe_ix ix_tup (pv 2) (pe_un un_neg pe_int) (fun _ _ => rfl))) pa_nil)) pe_int (nomark _)) pa_nil)) (fun _ _ => rfl)))) pss_nil)
      (pss_cons (ps_if (PW.pt (pw_or (pt_cmpR op_ne (pe_ix ix_tup (pv 1) pe_int (fun _ _ => rfl)) pe_str (nomark _)) (pw_or1 (pt_cmpR op_ne (pe_ix ix_tup (pv 2) pe_int (fun _ _ => rfl)) pe_str (nomark _))))) (pss_one (ps_ret (pv 3))) pss_nil)
      (pss_cons (ps_set (i := 4) scSign.nd rfl (.inl rfl) (pe_dget (hu_of hr) (pe_disp (pps_cons pe_str (pe_op op_add (pe_ix ix_tup (pv 1) pe_int (fun _ _ => rfl)) (pe_ix ix_tup (pv 2) pe_int (fun _ _ => rfl)))
            (pps_cons pe_str (pe_op op_sub (pe_ix ix_tup (pv 1) pe_int (fun _ _ => rfl)) (pe_ix ix_tup (pv 2) pe_int (fun _ _ => rfl)))
            (pps_cons pe_str (pe_op op_mul (pe_ix ix_tup (pv 1) pe_int (fun _ _ => rfl)) (pe_ix ix_tup (pv 2) pe_int (fun _ _ => rfl))) (pps_cons pe_str pe_int pps_nil)))) (by rfl) (by rfl) (fun z => by cases z) (by decide)) (pv 0) (fun _ _ => rfl)))
      (pss_cons (ps_if (pt_cmpR op_eq (pv 0) pe_str (nomark _)) (pss_one (ps_ret (pe_tup (pa_cons pe_str (pa_cons (pe_cmpR op_lt (pe_ix ix_tup (pv 1) pe_int (fun _ _ => rfl)) (pe_ix ix_tup (pv 2) pe_int (fun _ _ => rfl)) (nomark _)) pa_nil))))) pss_nil)
      (pss_one (ps_ret (pe_ix ix_list (pe_lst (pa_cons (pe_tup (pa_cons pe_str (pa_cons (pv 4) pa_nil))) (pa_cons (pe_tup (pa_cons pe_str (pa_cons (pe_tup (pa_cons pe_str (pa_cons pe_str pa_nil))) pa_nil))) pa_nil)))
          (pe_callTy call_int1 (by rfl) hint (by decide +kernel) (pa_cons (pe_cmpR op_gt (pe_callB call_abs (by rfl) habs (by decide +kernel) (pa_cons (pv 4) pa_nil)) pe_int (nomark _)) pa_nil)) (fun _ _ => rfl)))))))), ?_⟩
    obtain ⟨sg, v, u, d, e, rfl, hsg, hv, hu, md, me, kQ⟩ := h
    refine ⟨by show 2 ≤ sizeLine; decide, fun p1 n1 => ⟨by show 2 ≤ sizeLine; decide, fun p2 n2 => ?_⟩⟩
    have s1 := same_new (o := .tup [.str "text", .str "kind"]) n1
    have s2 := same_new (o := .tup [.str "thrown", .ref p1]) n2
    have sm : Same H (upd (upd H p1 (.tup [.str "text", .str "kind"])) p2 (.tup [.str "thrown", .ref p1])) := fun b o q => s2 b o (s1 b o q)
    have bad : ThrAt K (upd (upd H p1 (.tup [.str "text", .str "kind"])) p2 (.tup [.str "thrown", .ref p1])) (.ref p2) "kind" := ⟨p2, .ref p1, rfl, .inl upd_same, p1, rfl, .inl (s2 _ _ upd_same)⟩
    generalize (upd (upd H p1 (.tup [.str "text", .str "kind"])) p2 (.tup [.str "thrown", .ref p1])) = H1 at sm bad
    have hv := hv.keep (KeepT.of sm)
    have hu := hu.keep (KeepT.of sm)
    have kQ : ∀ H' r, Same H1 H' → Dp K H' r (join sg d e).data → Q r H' := fun H' r s q => kQ H' r (fun b o z => s b o (sm b o z)) q
    dsimp only [L2.gName, L2.tSeq, L2.tIfS, L2.tNext, L2.tAsg]
    refine tAnd_ok (a := decide (V.str sg = V.str "+")) (b := d.isText && e.isText) (fun Q q => ⟨.str sg, rfl, rfl, _, rfl, q⟩) (fun _ Q q => tAnd_ok (test_word rfl hv d.word_text) (fun _ => test_word rfl hu e.word_text) q) ?_
    cases hb : (decide (V.str sg = V.str "+") && (d.isText && e.isText)) with
    | true =>
      refine iteT ?_
      obtain ⟨h1, h2⟩ := Bool.and_eq_true_iff.mp hb
      obtain ⟨h3, h4⟩ := Bool.and_eq_true_iff.mp h2
      obtain rfl : sg = "+" := V.str.inj (of_decide_eq_true h1)
      cases d with
      | text a =>
        cases e with
        | text b =>
          obtain ⟨av, rfl, ta⟩ := hv
          obtain ⟨bv, rfl, tb⟩ := hu
          have la : a.length ≤ 100 := md
          have lb : b.length ≤ 100 := me
          have lz : a.length + b.length ≤ sizeLine := by rw [sizeLine_eq]; omega
          refine ⟨.ref av, rfl, 1, rfl, av, _, -1, .str a, rfl, rfl, ta.sq, rfl, .ref bv, rfl, 1, rfl, bv, _, -1, .str b, rfl, rfl, tb.sq, rfl, a, b, rfl, rfl, lz, by show 2 ≤ sizeLine; decide, fun q1 m1 => ?_⟩
          have t1 := same_new (o := .tup [.str "text", .str (a ++ b)]) m1
          have w1 : Vl K (upd H1 q1 (.tup [.str "text", .str (a ++ b)])) (.ref q1) (.text (a ++ b)) := ⟨q1, rfl, .inl upd_same⟩
          have sm1 : Same H1 (upd H1 q1 (.tup [.str "text", .str (a ++ b)])) := t1
          generalize (upd H1 q1 (.tup [.str "text", .str (a ++ b)])) = H2 at w1 sm1
          refine ⟨by show 2 ≤ sizeLine; decide, fun q2 m2 => ⟨by show 2 ≤ sizeLine; decide, fun q3 m3 => ?_⟩⟩
          have t2 := same_new (o := .tup [.str "text", .str "long"]) m2
          have t3 := same_new (o := .tup [.str "thrown", .ref q2]) m3
          have w3 : ThrAt K (upd (upd H2 q2 (.tup [.str "text", .str "long"])) q3 (.tup [.str "thrown", .ref q2])) (.ref q3) "long" := ⟨q3, .ref q2, rfl, .inl upd_same, q2, rfl, .inl (t3 _ _ upd_same)⟩
          have s3 : Same H2 (upd (upd H2 q2 (.tup [.str "text", .str "long"])) q3 (.tup [.str "thrown", .ref q2])) := fun b o q => t3 b o (t2 b o q)
          generalize (upd (upd H2 q2 (.tup [.str "text", .str "long"])) q3 (.tup [.str "thrown", .ref q2])) = H3 at w3 s3
          refine ⟨by show 2 ≤ sizeLine; decide, fun q4 m4 => ?_⟩
          have t4 := same_new (o := .lst [.ref q1, .ref q3]) m4
          have sm4 : Same H1 (upd H3 q4 (.lst [.ref q1, .ref q3])) := fun b o q => t4 b o (s3 b o (sm1 b o q))
          have w1 := (w1.keep (KeepT.of s3)).keep (KeepT.of t4)
          have w3 := w3.keep (KeepT.of t4)
          have ta := ta.keep (KeepT.of sm4)
          have tb := tb.keep (KeepT.of sm4)
          refine ⟨.ref av, rfl, 1, rfl, av, _, -1, .str a, rfl, rfl, ta.sq, rfl, .ref bv, rfl, 1, rfl, bv, _, -1, .str b, rfl, rfl, tb.sq, rfl, a, b, rfl, rfl, lz, _, rfl, by rw [Str.length_append]; exact lz, _, _, rfl, rfl, .inr ⟨_, rfl, ?_⟩⟩
          by_cases c : 40 < a.length + b.length
          · have e : join "+" (.text a) (.text b) = .thrown "long" := by
              show (if ("+" : Str) = "+" then (if 40 < a.length + b.length then Res.thrown "long" else .val (.text (a ++ b))) else .thrown "kind") = _
              rw [if_pos rfl, if_pos c]
            rw [e] at kQ
            rw [decide_eq_true (show (((a ++ b).length : Nat) : Int) > 40 by rw [Str.length_append]; omega)]
            exact ⟨q4, _, 1, .ref q3, rfl, rfl, SqL.of upd_same, atI_nat (j := 1) rfl, kQ _ _ sm4 w3.dp⟩
          · have e : join "+" (.text a) (.text b) = .val (.text (a ++ b)) := by
              show (if ("+" : Str) = "+" then (if 40 < a.length + b.length then Res.thrown "long" else .val (.text (a ++ b))) else .thrown "kind") = _
              rw [if_pos rfl, if_neg c]
            rw [e] at kQ
            rw [decide_eq_false (show ¬ (((a ++ b).length : Nat) : Int) > 40 by rw [Str.length_append]; omega)]
            exact ⟨q4, _, 0, .ref q1, rfl, rfl, SqL.of upd_same, atI_nat (j := 0) rfl, kQ _ _ sm4 w1.dp⟩
        | _ => cases h4
      | _ => cases h3
    | false =>
      refine iteF ?_
      refine tOr_ok (test_wordN rfl hv d.word_int) (fun _ => test_wordN rfl hu e.word_int) ?_
      cases hc : (!d.isInt || !e.isInt) with
      | true =>
        rw [join_kind hb hc] at kQ
        exact iteT ⟨_, rfl, kQ H1 _ (fun _ _ z => z) bad.dp⟩
      | false =>
        refine iteF ?_
        cases d with
        | int m =>
          cases e with
          | int n =>
            obtain ⟨av, rfl, ta⟩ := hv
            obtain ⟨bv, rfl, tb⟩ := hu
            obtain ⟨m1, m2⟩ : -2000000000 < m ∧ m < 2000000000 := md
            obtain ⟨n1, n2⟩ : -2000000000 < n ∧ n < 2000000000 := me
            rw [join_int] at kQ
            refine fun dd ndd => ?_
            have t1 : Same H1 (upd H1 dd (.dK [])) := same_new ndd
            have ta1 := ta.keep (KeepT.of t1)
            have tb1 := tb.keep (KeepT.of t1)
            refine ⟨.ref av, rfl, av, _, 1, .int m, rfl, rfl, ta1.sq, atI_nat (j := 1) rfl, .ref bv, rfl, bv, _, 1, .int n, rfl, rfl, tb1.sq, atI_nat (j := 1) rfl, m, n, rfl, rfl,
                .ref av, rfl, av, _, 1, .int m, rfl, rfl, ta1.sq, atI_nat (j := 1) rfl, .ref bv, rfl, bv, _, 1, .int n, rfl, rfl, tb1.sq, atI_nat (j := 1) rfl, m, n, rfl, rfl,
                .ref av, rfl, av, _, 1, .int m, rfl, rfl, ta1.sq, atI_nat (j := 1) rfl, .ref bv, rfl, bv, _, 1, .int n, rfl, rfl, tb1.sq, atI_nat (j := 1) rfl, m, n, rfl, rfl, .inl ⟨by omega, by omega⟩,
                upd_same, [(Sum.inr "+", .int (m + n)), (Sum.inr "-", .int (m - n)), (Sum.inr "*", .int (m * n)), (Sum.inr "<", .int 0)], rfl, (by show 4 ≤ 15; decide), ?_⟩
            have t2 : Same H1 (upd (upd H1 dd (.dK [])) dd (.dK (mergeK [] [(Sum.inr "+", .int (m + n)), (Sum.inr "-", .int (m - n)), (Sum.inr "*", .int (m * n)), (Sum.inr "<", .int 0)]))) := same_put t1 ndd
            have l2 : (upd (upd H1 dd (.dK [])) dd (.dK (mergeK [] [(Sum.inr "+", .int (m + n)), (Sum.inr "-", .int (m - n)), (Sum.inr "*", .int (m * n)), (Sum.inr "<", .int 0)]))) dd = some (.dK (mergeK [] [(Sum.inr "+", .int (m + n)), (Sum.inr "-", .int (m - n)), (Sum.inr "*", .int (m * n)), (Sum.inr "<", .int 0)])) := upd_same
            generalize (upd (upd H1 dd (.dK [])) dd (.dK (mergeK [] [(Sum.inr "+", .int (m + n)), (Sum.inr "-", .int (m - n)), (Sum.inr "*", .int (m * n)), (Sum.inr "<", .int 0)]))) = H2 at t2 l2
            have ta2 := ta.keep (KeepT.of t2)
            have tb2 := tb.keep (KeepT.of t2)
            obtain ⟨z, ez, kz⟩ : ∃ z : Int, valV (mergeK [] [(Sum.inr "+", V.int (m + n)), (Sum.inr "-", V.int (m - n)), (Sum.inr "*", V.int (m * n)), (Sum.inr "<", .int 0)]) (Sum.inr sg : Key) = some (V.int z) ∧ (sg ≠ "<" → (if sg = "<" then Res.val (.bool (decide (m < n))) else if sg = "+" then great (m + n) else if sg = "-" then great (m - n) else great (m * n)) = great z) := by
              rcases hsg with rfl | rfl | rfl | rfl
              · exact ⟨m + n, by rfl, fun _ => by rw [if_neg (by decide), if_pos rfl]⟩
              · exact ⟨m - n, by rfl, fun _ => by rw [if_neg (by decide), if_neg (by decide), if_pos rfl]⟩
              · exact ⟨m * n, by rfl, fun _ => by rw [if_neg (by decide), if_neg (by decide), if_neg (by decide)]⟩
              · exact ⟨0, by rfl, fun z => absurd rfl z⟩
            refine ⟨.str sg, rfl, dd, .int z, rfl, by rw [← ez]; exact DGet.k (k := Sum.inr sg) l2, .str sg, rfl, rfl, _, rfl, ite2 (fun c => ?_) (fun c => ?_)⟩
            · obtain rfl : sg = "<" := V.str.inj (of_decide_eq_true c)
              rw [if_pos rfl] at kQ
              exact ⟨.ref av, rfl, av, _, 1, .int m, rfl, rfl, ta2.sq, atI_nat (j := 1) rfl, .ref bv, rfl, bv, _, 1, .int n, rfl, rfl, tb2.sq, atI_nat (j := 1) rfl, m, n, rfl, rfl, by show 2 ≤ sizeLine; decide, fun p np => kQ _ _ (fun b o q => same_new np b o (t2 b o q)) (Vl.dp ⟨p, rfl, .inl upd_same⟩)⟩
            · have ns : sg ≠ "<" := fun q => c (by rw [q]; exact decide_eq_true rfl)
              rw [kz ns] at kQ
              refine ⟨_, rfl, by show 2 ≤ sizeLine; decide, fun q1 x1 => ?_⟩
              have u1 := same_new (o := .tup [.str "int", .int z]) x1
              have w1 : Vl K (upd H2 q1 (.tup [.str "int", .int z])) (.ref q1) (.int z) := ⟨q1, rfl, .inl upd_same⟩
              generalize (upd H2 q1 (.tup [.str "int", .int z])) = H3 at u1 w1
              refine ⟨by show 2 ≤ sizeLine; decide, fun q2 x2 => ⟨by show 2 ≤ sizeLine; decide, fun q3 x3 => ?_⟩⟩
              have u2 := same_new (o := .tup [.str "text", .str "great"]) x2
              have u3 := same_new (o := .tup [.str "thrown", .ref q2]) x3
              have w3 : ThrAt K (upd (upd H3 q2 (.tup [.str "text", .str "great"])) q3 (.tup [.str "thrown", .ref q2])) (.ref q3) "great" := ⟨q3, .ref q2, rfl, .inl upd_same, q2, rfl, .inl (u3 _ _ upd_same)⟩
              have y3 : Same H3 (upd (upd H3 q2 (.tup [.str "text", .str "great"])) q3 (.tup [.str "thrown", .ref q2])) := fun b o q => u3 b o (u2 b o q)
              generalize (upd (upd H3 q2 (.tup [.str "text", .str "great"])) q3 (.tup [.str "thrown", .ref q2])) = H4 at w3 y3
              refine ⟨by show 2 ≤ sizeLine; decide, fun q4 x4 => ?_⟩
              have u4 := same_new (o := .lst [.ref q1, .ref q3]) x4
              have sm4 : Same H1 (upd H4 q4 (.lst [.ref q1, .ref q3])) := fun b o q => u4 b o (y3 b o (u1 b o (t2 b o q)))
              have w1 := (w1.keep (KeepT.of y3)).keep (KeepT.of u4)
              have w3 := w3.keep (KeepT.of u4)
              refine ⟨_, rfl, z, rfl, _, _, rfl, rfl, .inr ⟨_, rfl, ?_⟩⟩
              by_cases c2 : 1000000000 < (if z < 0 then -z else z)
              · have g : great z = .thrown "great" := if_pos c2
                rw [g] at kQ
                rw [decide_eq_true (show (if z < 0 then -z else z) > 1000000000 from c2)]
                exact ⟨q4, _, 1, .ref q3, rfl, rfl, SqL.of upd_same, atI_nat (j := 1) rfl, kQ _ _ sm4 w3.dp⟩
              · have g : great z = .val (.int z) := if_neg c2
                rw [g] at kQ
                rw [decide_eq_false (show ¬ (if z < 0 then -z else z) > 1000000000 from c2)]
                exact ⟨q4, _, 0, .ref q1, rfl, rfl, SqL.of upd_same, atI_nat (j := 0) rfl, kQ _ _ sm4 w1.dp⟩
          | _ => cases hc
        | _ => cases hc
end
end My
namespace My
open PySem PySem.Spec PyProof.Rows L2
def lay0 (x dx s k c w ce pr : Addr) : Lab → Addr
  | .inst => x | .own => dx | .shapes => s | .kinds => k | .children => c | .widened => w | .cells => ce | .printed => pr | _ => x
def R0 (v : V) : WS := ⟨[⟨v, none, -1⟩], [false], [], [], [], []⟩
def spInitW (K : PySem.W.Frag) (C : Addr) : Sp := fun vs H Q _ => ∃ (x dx : Addr), vs = [.ref x] ∧ H x = some (.ins C dx []) ∧ H dx = some (.own x) ∧ dx ≠ x ∧
  ∀ H' L v, WorldAt K C H' L (R0 v) → L .inst = x → (∀ m, live 0 m → L m = x ∨ L m = dx ∨ H (L m) = none) → (∀ q o, H q = some o → q ≠ x → H' q = some o) → Q .non H'
section
variable {P : Program} {w : World} {K : PySem.W.Frag} {mg : Str → Option Value} {base : Heap} {C : Addr}
theorem ok_initW {f : Addr} {fd : FuncData} (F : Fun K "__init__" "World.__init__" (sW 0) f fd) (T : WT K mg C) : FnOk P w K mg base CX0 1 f fd ["self"] (spInitW K C) := by
  refine F.ok scInitW (fun vs H Q E h => ?_) (fun cdv A outer s H vs Q E hr h => ?_)
  · obtain ⟨x, dx, rfl, _⟩ := h; rfl
  · refine ⟨_, pss_cons (ps_fld (pv 0) (pe_lst (pa_cons (pe_tup (pa_cons pe_non (pa_cons pe_non (pa_cons (pe_un un_neg pe_int) pa_nil)))) pa_nil)) rfl)
      (pss_cons (ps_fld (pv 0) (pe_lst (pa_cons pe_str pa_nil)) rfl)
      (pss_cons (ps_fld (pv 0) pe_dnewT rfl)
      (pss_cons (ps_fld (pv 0) (pe_lst pa_nil) rfl)
      (pss_cons (ps_fld (pv 0) pe_dnewK rfl)
      (pss_cons (ps_fld (pv 0) pe_int rfl)
      (pss_one (ps_fld (pv 0) (pe_lst pa_nil) rfl))))))), ?_⟩
    obtain ⟨x, dx, rfl, hx, hdx, nxd, kQ⟩ := h
    have n_x_dx : x ≠ dx := nxd.symm
    have l0 : ([] : List (Str × V)).length ≤ 0 := Nat.le_refl _
    refine ⟨1, rfl, by show 3 ≤ sizeLine; decide, fun t ht => ?_⟩
    have n_x_t : x ≠ t := ne_of_none hx ht
    have n_dx_t : dx ≠ t := ne_of_none hdx ht
    have g_dx : (upd H t (.tup [.non, .non, .int (-1)])) dx = some (.own x) := by rw [upd_ne n_dx_t]; exact hdx
    have g_t : (upd H t (.tup [.non, .non, .int (-1)])) t = some (.tup [.non, .non, .int (-1)]) := upd_same
    have g_x : (upd H t (.tup [.non, .non, .int (-1)])) x = some (.ins C dx []) := by rw [upd_ne n_x_t]; exact hx
    have old : ∀ q o, H q = some o → q ≠ x → (upd H t (.tup [.non, .non, .int (-1)])) q = some o := fun q o e nq => by rw [upd_ne (ne_of_none e ht)]; exact e
    generalize (upd H t (.tup [.non, .non, .int (-1)])) = G0 at g_dx g_t g_x old
    have isNone : ∀ q, G0 q = none → H q = none := fun q e => by
      cases z : H q with
      | none => rfl
      | some o =>
        have nq : q ≠ x := fun y => by subst y; rw [g_x] at e; cases e
        rw [old q o z nq] at e; cases e
    refine ⟨by show 1 ≤ sizeLine; decide, fun s hs => ?_⟩
    have n_x_s : x ≠ s := ne_of_none g_x hs
    have n_dx_s : dx ≠ s := ne_of_none g_dx hs
    have n_t_s : t ≠ s := ne_of_none g_t hs
    have z_s : H s = none := isNone s hs
    refine ⟨_, rfl, x, C, dx, _, rfl, by rw [upd_ne n_x_s]; exact g_x, T.cl, T.nShapes, by have : ([] : List (Str × V)).length ≤ 0 := l0; omega, ?_⟩
    have g_dx : (upd (upd G0 s (.lst [.ref t])) x (.ins C dx (putF "shapes" (.ref s) ([] : List (Str × V))))) dx = some (.own x) := by rw [upd_ne n_x_dx.symm, upd_ne n_dx_s]; exact g_dx
    have g_t : (upd (upd G0 s (.lst [.ref t])) x (.ins C dx (putF "shapes" (.ref s) ([] : List (Str × V))))) t = some (.tup [.non, .non, .int (-1)]) := by rw [upd_ne n_x_t.symm, upd_ne n_t_s]; exact g_t
    have g_s : (upd (upd G0 s (.lst [.ref t])) x (.ins C dx (putF "shapes" (.ref s) ([] : List (Str × V))))) s = some (.lst [.ref t]) := by rw [upd_ne n_x_s.symm]; exact upd_same
    have g_x : (upd (upd G0 s (.lst [.ref t])) x (.ins C dx (putF "shapes" (.ref s) ([] : List (Str × V))))) x = some (.ins C dx (putF "shapes" (.ref s) ([] : List (Str × V)))) := upd_same
    have old : ∀ q o, H q = some o → q ≠ x → (upd (upd G0 s (.lst [.ref t])) x (.ins C dx (putF "shapes" (.ref s) ([] : List (Str × V))))) q = some o := fun q o e nq => by rw [upd_ne nq, upd_ne (ne_of_none (old q o e nq) hs)]; exact old q o e nq
    have l1 : (putF "shapes" (.ref s) ([] : List (Str × V))).length ≤ 1 := by have := length_putF "shapes" (.ref s) ([] : List (Str × V)); have := l0; omega
    generalize (upd (upd G0 s (.lst [.ref t])) x (.ins C dx (putF "shapes" (.ref s) ([] : List (Str × V))))) = G1 at g_dx g_t g_s g_x old
    generalize ef1 : putF "shapes" (.ref s) ([] : List (Str × V)) = f1 at g_x l1
    have isNone : ∀ q, G1 q = none → H q = none := fun q e => by
      cases z : H q with
      | none => rfl
      | some o =>
        have nq : q ≠ x := fun y => by subst y; rw [g_x] at e; cases e
        rw [old q o z nq] at e; cases e
    refine ⟨by show 1 ≤ sizeLine; decide, fun k hk => ?_⟩
    have n_x_k : x ≠ k := ne_of_none g_x hk
    have n_dx_k : dx ≠ k := ne_of_none g_dx hk
    have n_t_k : t ≠ k := ne_of_none g_t hk
    have n_s_k : s ≠ k := ne_of_none g_s hk
    have z_k : H k = none := isNone k hk
    refine ⟨_, rfl, x, C, dx, _, rfl, by rw [upd_ne n_x_k]; exact g_x, T.cl, T.nKinds, by have : f1.length ≤ 1 := l1; omega, ?_⟩
    have g_dx : (upd (upd G1 k (.lst [.str "any"])) x (.ins C dx (putF "kinds" (.ref k) f1))) dx = some (.own x) := by rw [upd_ne n_x_dx.symm, upd_ne n_dx_k]; exact g_dx
    have g_t : (upd (upd G1 k (.lst [.str "any"])) x (.ins C dx (putF "kinds" (.ref k) f1))) t = some (.tup [.non, .non, .int (-1)]) := by rw [upd_ne n_x_t.symm, upd_ne n_t_k]; exact g_t
    have g_s : (upd (upd G1 k (.lst [.str "any"])) x (.ins C dx (putF "kinds" (.ref k) f1))) s = some (.lst [.ref t]) := by rw [upd_ne n_x_s.symm, upd_ne n_s_k]; exact g_s
    have g_k : (upd (upd G1 k (.lst [.str "any"])) x (.ins C dx (putF "kinds" (.ref k) f1))) k = some (.lst [.str "any"]) := by rw [upd_ne n_x_k.symm]; exact upd_same
    have g_x : (upd (upd G1 k (.lst [.str "any"])) x (.ins C dx (putF "kinds" (.ref k) f1))) x = some (.ins C dx (putF "kinds" (.ref k) f1)) := upd_same
    have old : ∀ q o, H q = some o → q ≠ x → (upd (upd G1 k (.lst [.str "any"])) x (.ins C dx (putF "kinds" (.ref k) f1))) q = some o := fun q o e nq => by rw [upd_ne nq, upd_ne (ne_of_none (old q o e nq) hk)]; exact old q o e nq
    have l2 : (putF "kinds" (.ref k) f1).length ≤ 2 := by have := length_putF "kinds" (.ref k) f1; have := l1; omega
    generalize (upd (upd G1 k (.lst [.str "any"])) x (.ins C dx (putF "kinds" (.ref k) f1))) = G2 at g_dx g_t g_s g_k g_x old
    generalize ef2 : putF "kinds" (.ref k) f1 = f2 at g_x l2
    have isNone : ∀ q, G2 q = none → H q = none := fun q e => by
      cases z : H q with
      | none => rfl
      | some o =>
        have nq : q ≠ x := fun y => by subst y; rw [g_x] at e; cases e
        rw [old q o z nq] at e; cases e
    refine fun c hc => ?_
    have n_x_c : x ≠ c := ne_of_none g_x hc
    have n_dx_c : dx ≠ c := ne_of_none g_dx hc
    have n_t_c : t ≠ c := ne_of_none g_t hc
    have n_s_c : s ≠ c := ne_of_none g_s hc
    have n_k_c : k ≠ c := ne_of_none g_k hc
    have z_c : H c = none := isNone c hc
    refine ⟨_, rfl, x, C, dx, _, rfl, by rw [upd_ne n_x_c]; exact g_x, T.cl, T.nChildren, by have : f2.length ≤ 2 := l2; omega, ?_⟩
    have g_dx : (upd (upd G2 c (.dT [])) x (.ins C dx (putF "children" (.ref c) f2))) dx = some (.own x) := by rw [upd_ne n_x_dx.symm, upd_ne n_dx_c]; exact g_dx
    have g_t : (upd (upd G2 c (.dT [])) x (.ins C dx (putF "children" (.ref c) f2))) t = some (.tup [.non, .non, .int (-1)]) := by rw [upd_ne n_x_t.symm, upd_ne n_t_c]; exact g_t
    have g_s : (upd (upd G2 c (.dT [])) x (.ins C dx (putF "children" (.ref c) f2))) s = some (.lst [.ref t]) := by rw [upd_ne n_x_s.symm, upd_ne n_s_c]; exact g_s
    have g_k : (upd (upd G2 c (.dT [])) x (.ins C dx (putF "children" (.ref c) f2))) k = some (.lst [.str "any"]) := by rw [upd_ne n_x_k.symm, upd_ne n_k_c]; exact g_k
    have g_c : (upd (upd G2 c (.dT [])) x (.ins C dx (putF "children" (.ref c) f2))) c = some (.dT []) := by rw [upd_ne n_x_c.symm]; exact upd_same
    have g_x : (upd (upd G2 c (.dT [])) x (.ins C dx (putF "children" (.ref c) f2))) x = some (.ins C dx (putF "children" (.ref c) f2)) := upd_same
    have old : ∀ q o, H q = some o → q ≠ x → (upd (upd G2 c (.dT [])) x (.ins C dx (putF "children" (.ref c) f2))) q = some o := fun q o e nq => by rw [upd_ne nq, upd_ne (ne_of_none (old q o e nq) hc)]; exact old q o e nq
    have l3 : (putF "children" (.ref c) f2).length ≤ 3 := by have := length_putF "children" (.ref c) f2; have := l2; omega
    generalize (upd (upd G2 c (.dT [])) x (.ins C dx (putF "children" (.ref c) f2))) = G3 at g_dx g_t g_s g_k g_c g_x old
    generalize ef3 : putF "children" (.ref c) f2 = f3 at g_x l3
    have isNone : ∀ q, G3 q = none → H q = none := fun q e => by
      cases z : H q with
      | none => rfl
      | some o =>
        have nq : q ≠ x := fun y => by subst y; rw [g_x] at e; cases e
        rw [old q o z nq] at e; cases e
    refine ⟨by show 0 ≤ sizeLine; decide, fun w hw => ?_⟩
    have n_x_w : x ≠ w := ne_of_none g_x hw
    have n_dx_w : dx ≠ w := ne_of_none g_dx hw
    have n_t_w : t ≠ w := ne_of_none g_t hw
    have n_s_w : s ≠ w := ne_of_none g_s hw
    have n_k_w : k ≠ w := ne_of_none g_k hw
    have n_c_w : c ≠ w := ne_of_none g_c hw
    have z_w : H w = none := isNone w hw
    refine ⟨_, rfl, x, C, dx, _, rfl, by rw [upd_ne n_x_w]; exact g_x, T.cl, T.nWidened, by have : f3.length ≤ 3 := l3; omega, ?_⟩
    have g_dx : (upd (upd G3 w (.lst [])) x (.ins C dx (putF "widened" (.ref w) f3))) dx = some (.own x) := by rw [upd_ne n_x_dx.symm, upd_ne n_dx_w]; exact g_dx
    have g_t : (upd (upd G3 w (.lst [])) x (.ins C dx (putF "widened" (.ref w) f3))) t = some (.tup [.non, .non, .int (-1)]) := by rw [upd_ne n_x_t.symm, upd_ne n_t_w]; exact g_t
    have g_s : (upd (upd G3 w (.lst [])) x (.ins C dx (putF "widened" (.ref w) f3))) s = some (.lst [.ref t]) := by rw [upd_ne n_x_s.symm, upd_ne n_s_w]; exact g_s
    have g_k : (upd (upd G3 w (.lst [])) x (.ins C dx (putF "widened" (.ref w) f3))) k = some (.lst [.str "any"]) := by rw [upd_ne n_x_k.symm, upd_ne n_k_w]; exact g_k
    have g_c : (upd (upd G3 w (.lst [])) x (.ins C dx (putF "widened" (.ref w) f3))) c = some (.dT []) := by rw [upd_ne n_x_c.symm, upd_ne n_c_w]; exact g_c
    have g_w : (upd (upd G3 w (.lst [])) x (.ins C dx (putF "widened" (.ref w) f3))) w = some (.lst []) := by rw [upd_ne n_x_w.symm]; exact upd_same
    have g_x : (upd (upd G3 w (.lst [])) x (.ins C dx (putF "widened" (.ref w) f3))) x = some (.ins C dx (putF "widened" (.ref w) f3)) := upd_same
    have old : ∀ q o, H q = some o → q ≠ x → (upd (upd G3 w (.lst [])) x (.ins C dx (putF "widened" (.ref w) f3))) q = some o := fun q o e nq => by rw [upd_ne nq, upd_ne (ne_of_none (old q o e nq) hw)]; exact old q o e nq
    have l4 : (putF "widened" (.ref w) f3).length ≤ 4 := by have := length_putF "widened" (.ref w) f3; have := l3; omega
    generalize (upd (upd G3 w (.lst [])) x (.ins C dx (putF "widened" (.ref w) f3))) = G4 at g_dx g_t g_s g_k g_c g_w g_x old
    generalize ef4 : putF "widened" (.ref w) f3 = f4 at g_x l4
    have isNone : ∀ q, G4 q = none → H q = none := fun q e => by
      cases z : H q with
      | none => rfl
      | some o =>
        have nq : q ≠ x := fun y => by subst y; rw [g_x] at e; cases e
        rw [old q o z nq] at e; cases e
    refine fun ce hce => ?_
    have n_x_ce : x ≠ ce := ne_of_none g_x hce
    have n_dx_ce : dx ≠ ce := ne_of_none g_dx hce
    have n_t_ce : t ≠ ce := ne_of_none g_t hce
    have n_s_ce : s ≠ ce := ne_of_none g_s hce
    have n_k_ce : k ≠ ce := ne_of_none g_k hce
    have n_c_ce : c ≠ ce := ne_of_none g_c hce
    have n_w_ce : w ≠ ce := ne_of_none g_w hce
    have z_ce : H ce = none := isNone ce hce
    refine ⟨_, rfl, x, C, dx, _, rfl, by rw [upd_ne n_x_ce]; exact g_x, T.cl, T.nCells, by have : f4.length ≤ 4 := l4; omega, ?_⟩
    have g_dx : (upd (upd G4 ce (.dK [])) x (.ins C dx (putF "cells" (.ref ce) f4))) dx = some (.own x) := by rw [upd_ne n_x_dx.symm, upd_ne n_dx_ce]; exact g_dx
    have g_t : (upd (upd G4 ce (.dK [])) x (.ins C dx (putF "cells" (.ref ce) f4))) t = some (.tup [.non, .non, .int (-1)]) := by rw [upd_ne n_x_t.symm, upd_ne n_t_ce]; exact g_t
    have g_s : (upd (upd G4 ce (.dK [])) x (.ins C dx (putF "cells" (.ref ce) f4))) s = some (.lst [.ref t]) := by rw [upd_ne n_x_s.symm, upd_ne n_s_ce]; exact g_s
    have g_k : (upd (upd G4 ce (.dK [])) x (.ins C dx (putF "cells" (.ref ce) f4))) k = some (.lst [.str "any"]) := by rw [upd_ne n_x_k.symm, upd_ne n_k_ce]; exact g_k
    have g_c : (upd (upd G4 ce (.dK [])) x (.ins C dx (putF "cells" (.ref ce) f4))) c = some (.dT []) := by rw [upd_ne n_x_c.symm, upd_ne n_c_ce]; exact g_c
    have g_w : (upd (upd G4 ce (.dK [])) x (.ins C dx (putF "cells" (.ref ce) f4))) w = some (.lst []) := by rw [upd_ne n_x_w.symm, upd_ne n_w_ce]; exact g_w
    have g_ce : (upd (upd G4 ce (.dK [])) x (.ins C dx (putF "cells" (.ref ce) f4))) ce = some (.dK []) := by rw [upd_ne n_x_ce.symm]; exact upd_same
    have g_x : (upd (upd G4 ce (.dK [])) x (.ins C dx (putF "cells" (.ref ce) f4))) x = some (.ins C dx (putF "cells" (.ref ce) f4)) := upd_same
    have old : ∀ q o, H q = some o → q ≠ x → (upd (upd G4 ce (.dK [])) x (.ins C dx (putF "cells" (.ref ce) f4))) q = some o := fun q o e nq => by rw [upd_ne nq, upd_ne (ne_of_none (old q o e nq) hce)]; exact old q o e nq
    have l5 : (putF "cells" (.ref ce) f4).length ≤ 5 := by have := length_putF "cells" (.ref ce) f4; have := l4; omega
    generalize (upd (upd G4 ce (.dK [])) x (.ins C dx (putF "cells" (.ref ce) f4))) = G5 at g_dx g_t g_s g_k g_c g_w g_ce g_x old
    generalize ef5 : putF "cells" (.ref ce) f4 = f5 at g_x l5
    have isNone : ∀ q, G5 q = none → H q = none := fun q e => by
      cases z : H q with
      | none => rfl
      | some o =>
        have nq : q ≠ x := fun y => by subst y; rw [g_x] at e; cases e
        rw [old q o z nq] at e; cases e
    refine ⟨_, rfl, x, C, dx, _, rfl, g_x, T.cl, T.nFresh, by have : f5.length ≤ 5 := l5; omega, ?_⟩
    have g_dx : (upd G5 x (.ins C dx (putF "fresh" (.int 0) f5))) dx = some (.own x) := by rw [upd_ne n_x_dx.symm]; exact g_dx
    have g_t : (upd G5 x (.ins C dx (putF "fresh" (.int 0) f5))) t = some (.tup [.non, .non, .int (-1)]) := by rw [upd_ne n_x_t.symm]; exact g_t
    have g_s : (upd G5 x (.ins C dx (putF "fresh" (.int 0) f5))) s = some (.lst [.ref t]) := by rw [upd_ne n_x_s.symm]; exact g_s
    have g_k : (upd G5 x (.ins C dx (putF "fresh" (.int 0) f5))) k = some (.lst [.str "any"]) := by rw [upd_ne n_x_k.symm]; exact g_k
    have g_c : (upd G5 x (.ins C dx (putF "fresh" (.int 0) f5))) c = some (.dT []) := by rw [upd_ne n_x_c.symm]; exact g_c
    have g_w : (upd G5 x (.ins C dx (putF "fresh" (.int 0) f5))) w = some (.lst []) := by rw [upd_ne n_x_w.symm]; exact g_w
    have g_ce : (upd G5 x (.ins C dx (putF "fresh" (.int 0) f5))) ce = some (.dK []) := by rw [upd_ne n_x_ce.symm]; exact g_ce
    have g_x : (upd G5 x (.ins C dx (putF "fresh" (.int 0) f5))) x = some (.ins C dx (putF "fresh" (.int 0) f5)) := upd_same
    have old : ∀ q o, H q = some o → q ≠ x → (upd G5 x (.ins C dx (putF "fresh" (.int 0) f5))) q = some o := fun q o e nq => by rw [upd_ne nq]; exact old q o e nq
    have l6 : (putF "fresh" (.int 0) f5).length ≤ 6 := by have := length_putF "fresh" (.int 0) f5; have := l5; omega
    generalize (upd G5 x (.ins C dx (putF "fresh" (.int 0) f5))) = G6 at g_dx g_t g_s g_k g_c g_w g_ce g_x old
    generalize ef6 : putF "fresh" (.int 0) f5 = f6 at g_x l6
    have isNone : ∀ q, G6 q = none → H q = none := fun q e => by
      cases z : H q with
      | none => rfl
      | some o =>
        have nq : q ≠ x := fun y => by subst y; rw [g_x] at e; cases e
        rw [old q o z nq] at e; cases e
    refine ⟨by show 0 ≤ sizeLine; decide, fun pr hpr => ?_⟩
    have n_x_pr : x ≠ pr := ne_of_none g_x hpr
    have n_dx_pr : dx ≠ pr := ne_of_none g_dx hpr
    have n_t_pr : t ≠ pr := ne_of_none g_t hpr
    have n_s_pr : s ≠ pr := ne_of_none g_s hpr
    have n_k_pr : k ≠ pr := ne_of_none g_k hpr
    have n_c_pr : c ≠ pr := ne_of_none g_c hpr
    have n_w_pr : w ≠ pr := ne_of_none g_w hpr
    have n_ce_pr : ce ≠ pr := ne_of_none g_ce hpr
    have z_pr : H pr = none := isNone pr hpr
    refine ⟨_, rfl, x, C, dx, _, rfl, by rw [upd_ne n_x_pr]; exact g_x, T.cl, T.nPrinted, by have : f6.length ≤ 6 := l6; omega, ?_⟩
    have g_dx : (upd (upd G6 pr (.lst [])) x (.ins C dx (putF "printed" (.ref pr) f6))) dx = some (.own x) := by rw [upd_ne n_x_dx.symm, upd_ne n_dx_pr]; exact g_dx
    have g_t : (upd (upd G6 pr (.lst [])) x (.ins C dx (putF "printed" (.ref pr) f6))) t = some (.tup [.non, .non, .int (-1)]) := by rw [upd_ne n_x_t.symm, upd_ne n_t_pr]; exact g_t
    have g_s : (upd (upd G6 pr (.lst [])) x (.ins C dx (putF "printed" (.ref pr) f6))) s = some (.lst [.ref t]) := by rw [upd_ne n_x_s.symm, upd_ne n_s_pr]; exact g_s
    have g_k : (upd (upd G6 pr (.lst [])) x (.ins C dx (putF "printed" (.ref pr) f6))) k = some (.lst [.str "any"]) := by rw [upd_ne n_x_k.symm, upd_ne n_k_pr]; exact g_k
    have g_c : (upd (upd G6 pr (.lst [])) x (.ins C dx (putF "printed" (.ref pr) f6))) c = some (.dT []) := by rw [upd_ne n_x_c.symm, upd_ne n_c_pr]; exact g_c
    have g_w : (upd (upd G6 pr (.lst [])) x (.ins C dx (putF "printed" (.ref pr) f6))) w = some (.lst []) := by rw [upd_ne n_x_w.symm, upd_ne n_w_pr]; exact g_w
    have g_ce : (upd (upd G6 pr (.lst [])) x (.ins C dx (putF "printed" (.ref pr) f6))) ce = some (.dK []) := by rw [upd_ne n_x_ce.symm, upd_ne n_ce_pr]; exact g_ce
    have g_pr : (upd (upd G6 pr (.lst [])) x (.ins C dx (putF "printed" (.ref pr) f6))) pr = some (.lst []) := by rw [upd_ne n_x_pr.symm]; exact upd_same
    have g_x : (upd (upd G6 pr (.lst [])) x (.ins C dx (putF "printed" (.ref pr) f6))) x = some (.ins C dx (putF "printed" (.ref pr) f6)) := upd_same
    have old : ∀ q o, H q = some o → q ≠ x → (upd (upd G6 pr (.lst [])) x (.ins C dx (putF "printed" (.ref pr) f6))) q = some o := fun q o e nq => by rw [upd_ne nq, upd_ne (ne_of_none (old q o e nq) hpr)]; exact old q o e nq
    have l7 : (putF "printed" (.ref pr) f6).length ≤ 7 := by have := length_putF "printed" (.ref pr) f6; have := l6; omega
    generalize (upd (upd G6 pr (.lst [])) x (.ins C dx (putF "printed" (.ref pr) f6))) = G7 at g_dx g_t g_s g_k g_c g_w g_ce g_pr g_x old
    generalize ef7 : putF "printed" (.ref pr) f6 = f7 at g_x l7
    have isNone : ∀ q, G7 q = none → H q = none := fun q e => by
      cases z : H q with
      | none => rfl
      | some o =>
        have nq : q ≠ x := fun y => by subst y; rw [g_x] at e; cases e
        rw [old q o z nq] at e; cases e
    have ef : f7 = flds (lay0 x dx s k c w ce pr) 0 := by subst ef7 ef6 ef5 ef4 ef3 ef2 ef1; rfl
    rw [ef] at g_x
    have W : WorldAt K C G7 (lay0 x dx s k c w ce pr) (R0 (.ref t)) := by
      refine ⟨fun l hl => ?_, fun l m hl hm q => ?_, fun sh hsh => ?_, fun c' hc' => nomatch hc'⟩
      · cases l with
        | inst => exact g_x
        | own => exact g_dx
        | shapes => exact g_s
        | kinds => exact g_k
        | children => exact g_c
        | widened => exact g_w
        | cells => exact g_ce
        | printed => exact g_pr
        | cell i => exact absurd hl (Nat.not_lt_zero i)
        | vals i => exact absurd hl (Nat.not_lt_zero i)
      · cases l <;> cases m <;> first
          | rfl
          | exact absurd hl (Nat.not_lt_zero _)
          | exact absurd hm (Nat.not_lt_zero _)
          | exact absurd q ‹_›
          | exact absurd (Eq.symm q) ‹_›
      · obtain rfl := List.mem_singleton.mp hsh
        exact ⟨t, rfl, .inl g_t⟩
    refine kQ G7 _ _ W rfl (fun m hm => ?_) old
    cases m with
    | inst => exact .inl rfl
    | own => exact .inr (.inl rfl)
    | shapes => exact .inr (.inr z_s)
    | kinds => exact .inr (.inr z_k)
    | children => exact .inr (.inr z_c)
    | widened => exact .inr (.inr z_w)
    | cells => exact .inr (.inr z_ce)
    | printed => exact .inr (.inr z_pr)
    | cell i => exact absurd hm (Nat.not_lt_zero i)
    | vals i => exact absurd hm (Nat.not_lt_zero i)
end
end My
namespace My
open PySem PySem.Spec PyProof.Rows L2
abbrev Met := List Nat
def intT (n : Int) : Str := (toString n : String)
def plainT : Val → Str
  | .int n => intT n
  | .bool b => if b then "true" else "false"
  | .nul => "null"
  | .text s => ("'" : Str) ++ s ++ ("'" : Str)
  | .fn n => ("fun " : Str) ++ intT n ++ ("()" : Str)
  | .ref _ => Str.empty
inductive Tok
  | s (x : Str) | v (d : Val)
def unk (met : Met) (i : Nat) : Str := ("#" : Str) ++ intT ((met.idxOf i : Nat) : Int)
def seqM (f : Met → Val → Str × Met) : Met → List Val → List Str × Met
  | met, [] => ([], met)
  | met, d :: r => ((f met d).1 :: (seqM f (f met d).2 r).1, (seqM f (f met d).2 r).2)
def nmOf (names : List Str) (k : Nat) : Str := if 0 < names.length then names.getD k Str.empty ++ (": " : Str) else Str.empty
def nmC (N : Nat → List Str) : Cell → Nat → Str
  | .obj sh _ => nmOf (N sh)
  | .lst _ => fun _ => Str.empty
def opC : Cell → Str
  | .obj _ _ => "{" | .lst _ => "["
def clC : Cell → Str
  | .obj _ _ => "}" | .lst _ => "]"
def tagI (nm : Nat → Str) : Nat → List Str → List Str
  | _, [] => []
  | k, t :: r => (nm k ++ t) :: tagI nm (k + 1) r
def Cell.ds (c : Cell) : List Val := c.vs.map (·.2)
section
variable (cells : List Cell) (N : Nat → List Str)
def dV : Nat → Met → Val → Str × Met
  | 0, met, _ => (Str.empty, met)
  | n + 1, met, .ref z => if z.toNat ∈ met then (unk met z.toNat, met) else
      match cells[z.toNat]? with
      | some c => (opC c ++ Str.join ", " (tagI (nmC N c) 0 (seqM (dV n) (met ++ [z.toNat]) c.ds).1) ++ clC c, (seqM (dV n) (met ++ [z.toNat]) c.ds).2)
      | none => (Str.empty, met)
  | _ + 1, met, d => (plainT d, met)
def sepK (k : Nat) : Str := if 0 < k then ", " else Str.empty
def btw (nm : Nat → Str) : Nat → List Val → List Tok
  | _, [] => []
  | k, d :: r => .s (sepK k ++ nm k) :: .v d :: btw nm (k + 1) r
def opT (met : Met) : Val → List Tok × Met
  | .ref z => if z.toNat ∈ met then ([.s (unk met z.toNat)], met) else
      match cells[z.toNat]? with
      | some c => (.s (opC c) :: btw (nmC N c) 0 c.ds ++ [.s (clC c)], met ++ [z.toNat])
      | none => ([], met)
  | d => ([.s (plainT d)], met)
/-- the run of the stack: what is met, the stack, the text, what is met behind it, the turns -/
inductive Exp : Met → List Tok → Str → Met → Nat → Prop
  | nil {met : Met} : Exp met [] Str.empty met 0
  | str {met met' : Met} {x t : Str} {st : List Tok} {n : Nat} : Exp met st t met' n → Exp met (.s x :: st) (x ++ t) met' (n + 1)
  | val {met met' : Met} {d : Val} {t : Str} {st : List Tok} {n : Nat} : Exp (opT cells N met d).2 ((opT cells N met d).1 ++ st) t met' n → Exp met (.v d :: st) t met' (n + 1)
def jn (nm : Nat → Str) : Nat → List Str → Str
  | _, [] => Str.empty
  | k, t :: r => (sepK k ++ nm k) ++ (t ++ jn nm (k + 1) r)
end
theorem jn_succ (nm : Nat → Str) : ∀ (ts : List Str) (k : Nat), ts ≠ [] → jn nm (k + 1) ts = (", " : Str) ++ Str.join ", " (tagI nm (k + 1) ts)
  | [], _, h => absurd rfl h
  | [t], k, _ => by
    show ((", " : Str) ++ nm (k + 1)) ++ (t ++ Str.empty) = (", " : Str) ++ (nm (k + 1) ++ t)
    rw [Str.append_empty, Str.append_assoc]
  | t :: u :: r, k, _ => by
    have ih := jn_succ nm (u :: r) (k + 1) (by simp)
    show ((", " : Str) ++ nm (k + 1)) ++ (t ++ jn nm (k + 1 + 1) (u :: r)) = (", " : Str) ++ ((nm (k + 1) ++ t) ++ (", " : Str) ++ Str.join ", " (tagI nm (k + 1 + 1) (u :: r)))
    rw [ih]
    simp only [Str.append_assoc]
theorem jn_zero (nm : Nat → Str) : ∀ ts : List Str, jn nm 0 ts = Str.join ", " (tagI nm 0 ts)
  | [] => rfl
  | [t] => by
    show (Str.empty ++ nm 0) ++ (t ++ Str.empty) = nm 0 ++ t
    rw [Str.append_empty, Str.empty_append]
  | t :: u :: r => by
    have ih := jn_succ nm (u :: r) 0 (by simp)
    show (Str.empty ++ nm 0) ++ (t ++ jn nm 1 (u :: r)) = (nm 0 ++ t) ++ (", " : Str) ++ Str.join ", " (tagI nm 1 (u :: r))
    rw [ih, Str.empty_append]
    simp only [Str.append_assoc]
section
variable {cells : List Cell} {N : Nat → List Str}
structure Good (cells : List Cell) (met : Met) : Prop where
  nd : met.Nodup
  lt : ∀ i ∈ met, i < cells.length
theorem nodup_len : ∀ (n : Nat) (l : List Nat), l.Nodup → (∀ i ∈ l, i < n) → l.length ≤ n
  | 0, l, _, h => by
    cases l with
    | nil => exact Nat.le_refl _
    | cons a r => exact absurd (h a List.mem_cons_self) (Nat.not_lt_zero a)
  | n + 1, l, nd, h => by
    have h1 : (l.erase n).length ≤ n := nodup_len n _ (nd.erase n) fun i hi => by
      have hi' := List.mem_of_mem_erase hi
      have := h i hi'
      have ne : i ≠ n := fun z => by subst z; exact (List.Nodup.not_mem_erase nd) hi
      omega
    by_cases m : n ∈ l
    · have h2 := List.length_erase_of_mem m
      omega
    · rw [List.erase_of_not_mem m] at h1; omega
theorem Good.len {met : Met} (g : Good cells met) : met.length ≤ cells.length := nodup_len _ _ g.nd g.lt
theorem Good.push {met : Met} {i : Nat} (g : Good cells met) (h : ¬ i ∈ met) (hi : i < cells.length) : Good cells (met ++ [i]) := by
  refine ⟨?_, fun j hj => ?_⟩
  · rw [List.nodup_append]
    refine ⟨g.nd, by simp, fun a ha b hb => ?_⟩
    obtain rfl := List.mem_singleton.mp hb
    exact fun z => h (by rw [← z]; exact ha)
  · rcases List.mem_append.mp hj with z | z
    · exact g.lt j z
    · obtain rfl := List.mem_singleton.mp z; exact hi
theorem good_seq {f : Met → Val → Str × Met} (hf : ∀ met d, Good cells met → Good cells (f met d).2 ∧ met.length ≤ (f met d).2.length) : ∀ (ds : List Val) (met : Met), Good cells met → Good cells (seqM f met ds).2 ∧ met.length ≤ (seqM f met ds).2.length
  | [], met, g => ⟨g, Nat.le_refl _⟩
  | d :: r, met, g => by
    obtain ⟨g1, l1⟩ := hf met d g
    obtain ⟨g2, l2⟩ := good_seq hf r _ g1
    exact ⟨g2, Nat.le_trans l1 l2⟩
theorem good_dV : ∀ (n : Nat) (met : Met) (d : Val), Good cells met → Good cells (dV cells N n met d).2 ∧ met.length ≤ (dV cells N n met d).2.length
  | 0, met, d, g => ⟨g, Nat.le_refl _⟩
  | n + 1, met, .ref z, g => by
    unfold dV
    split
    · exact ⟨g, Nat.le_refl _⟩
    · rename_i hm
      split
      · rename_i c hc
        obtain ⟨g2, l2⟩ := good_seq (fun met d g => good_dV n met d g) c.ds _ (g.push hm (lt_of hc))
        rw [List.length_append] at l2
        exact ⟨g2, Nat.le_trans (Nat.le_add_right _ _) l2⟩
      · exact ⟨g, Nat.le_refl _⟩
  | n + 1, met, .int _, g => ⟨g, Nat.le_refl _⟩
  | n + 1, met, .bool _, g => ⟨g, Nat.le_refl _⟩
  | n + 1, met, .nul, g => ⟨g, Nat.le_refl _⟩
  | n + 1, met, .text _, g => ⟨g, Nat.le_refl _⟩
  | n + 1, met, .fn _, g => ⟨g, Nat.le_refl _⟩
/-! ### lengths -/
def wt (cells : List Cell) (i : Nat) : Nat := match cells[i]? with
  | some c => 10 + 80 * c.ds.length
  | none => 0
def wts (cells : List Cell) (met : Met) : Nat := (met.map (wt cells)).sum
theorem wts_push (met : Met) (i : Nat) : wts cells (met ++ [i]) = wts cells met + wt cells i := by
  unfold wts
  rw [List.map_append, List.sum_append]
  simp
/-- the stack tells what the recursion tells -/
def Tells (cells : List Cell) (N : Nat → List Str) (f : Met → Val → Str × Met) (met : Met) (d : Val) : Prop := ∀ st t2 m2 c2, Exp cells N (f met d).2 st t2 m2 c2 → ∃ c, Exp cells N met (.v d :: st) ((f met d).1 ++ t2) m2 c ∧ c + wts cells met ≤ c2 + 2 + wts cells (f met d).2
theorem seq_exp {n : Nat} (ih : ∀ met d, Good cells met → cells.length < n + met.length → Tells cells N (dV cells N n) met d) (nm : Nat → Str) : ∀ (ds : List Val) (k : Nat) (met : Met), Good cells met → cells.length < n + met.length →
    ∀ st t2 m2 c2, Exp cells N (seqM (dV cells N n) met ds).2 st t2 m2 c2 → ∃ c, Exp cells N met (btw nm k ds ++ st) (jn nm k (seqM (dV cells N n) met ds).1 ++ t2) m2 c ∧ c + wts cells met ≤ c2 + 3 * ds.length + wts cells (seqM (dV cells N n) met ds).2
  | [], k, met, g, hl, st, t2, m2, c2, h => ⟨c2, by show Exp cells N met st (Str.empty ++ t2) m2 c2; rw [Str.empty_append]; exact h, Nat.le_refl _⟩
  | d :: r, k, met, g, hl, st, t2, m2, c2, h => by
    obtain ⟨g1, l1⟩ := good_dV (N := N) n met d g
    obtain ⟨c1, h1, z1⟩ := seq_exp ih nm r (k + 1) _ g1 (by omega) st t2 m2 c2 h
    obtain ⟨c3, h3, z3⟩ := ih met d g hl _ _ _ _ h1
    refine ⟨c3 + 1, ?_, ?_⟩
    rotate_left 1
    · show c3 + 1 + _ ≤ c2 + 3 * (r.length + 1) + wts cells (seqM (dV cells N n) (dV cells N n met d).2 r).2
      omega
    have q := Exp.str (x := sepK k ++ nm k) h3
    have e : (sepK k ++ nm k) ++ ((dV cells N n met d).1 ++ (jn nm (k + 1) (seqM (dV cells N n) (dV cells N n met d).2 r).1 ++ t2)) = jn nm k (seqM (dV cells N n) met (d :: r)).1 ++ t2 := by
      show _ = ((sepK k ++ nm k) ++ ((dV cells N n met d).1 ++ jn nm (k + 1) (seqM (dV cells N n) (dV cells N n met d).2 r).1)) ++ t2
      simp only [Str.append_assoc]
    rw [e] at q
    exact q
theorem atom_exp {met : Met} {d : Val} {x : Str} (h : opT cells N met d = ([.s x], met)) {st : List Tok} {t2 : Str} {m2 : Met} {c2 : Nat} (e : Exp cells N met st t2 m2 c2) : ∃ c, Exp cells N met (.v d :: st) (x ++ t2) m2 c ∧ c + wts cells met ≤ c2 + 2 + wts cells met := by
  refine ⟨c2 + 1 + 1, .val ?_, Nat.le_refl _⟩
  rw [h]
  exact .str e
theorem dV_exp : ∀ (n : Nat) (met : Met) (d : Val), Good cells met → cells.length < n + met.length → Tells cells N (dV cells N n) met d
  | 0, met, d, g, h => by have := g.len; omega
  | n + 1, met, .ref z, g, h => by
    intro st t2 m2 c2 e
    unfold dV at e ⊢
    by_cases hm : z.toNat ∈ met
    · rw [if_pos hm] at e ⊢
      exact atom_exp (by show (if z.toNat ∈ met then _ else _) = _; rw [if_pos hm]) e
    · rw [if_neg hm] at e ⊢
      cases hc : cells[z.toNat]? with
      | none =>
        rw [hc] at e
        refine ⟨c2 + 1, .val ?_, by show c2 + 1 + wts cells met ≤ c2 + 2 + wts cells met; omega⟩
        have eo : opT cells N met (.ref z) = ([], met) := by show (if z.toNat ∈ met then _ else _) = _; rw [if_neg hm, hc]
        rw [eo]
        show Exp cells N met st (Str.empty ++ t2) m2 c2
        rw [Str.empty_append]
        exact e
      | some c =>
        rw [hc] at e
        have eo : opT cells N met (.ref z) = (.s (opC c) :: btw (nmC N c) 0 c.ds ++ [.s (clC c)], met ++ [z.toNat]) := by show (if z.toNat ∈ met then _ else _) = _; rw [if_neg hm, hc]
        have g1 := g.push hm (lt_of hc)
        obtain ⟨c3, h3, z3⟩ := seq_exp (fun met d g h => dV_exp n met d g h) (nmC N c) c.ds 0 _ g1 (by rw [List.length_append]; simp only [List.length_singleton]; omega) (.s (clC c) :: st) _ _ _ (.str e)
        refine ⟨c3 + 1 + 1, .val ?_, ?_⟩
        rotate_left 1
        · have h3 : wt cells z.toNat = 10 + 80 * c.ds.length := by unfold wt; rw [hc]
          rw [wts_push] at z3
          show c3 + 1 + 1 + wts cells met ≤ c2 + 2 + wts cells (seqM (dV cells N n) (met ++ [z.toNat]) c.ds).2
          omega
        rw [eo]
        have q := Exp.str (x := opC c) h3
        rw [jn_zero] at q
        have e1 : (Tok.s (opC c) :: btw (nmC N c) 0 c.ds ++ [.s (clC c)] ++ st) = .s (opC c) :: (btw (nmC N c) 0 c.ds ++ .s (clC c) :: st) := by simp
        have e2 : opC c ++ (Str.join ", " (tagI (nmC N c) 0 (seqM (dV cells N n) (met ++ [z.toNat]) c.ds).1) ++ (clC c ++ t2)) = (opC c ++ Str.join ", " (tagI (nmC N c) 0 (seqM (dV cells N n) (met ++ [z.toNat]) c.ds).1) ++ clC c) ++ t2 := by
          simp only [Str.append_assoc]
        rw [e2] at q
        rw [e1]
        exact q
  | n + 1, met, .int _, g, h => fun _ _ _ _ e => atom_exp rfl e
  | n + 1, met, .bool _, g, h => fun _ _ _ _ e => atom_exp rfl e
  | n + 1, met, .nul, g, h => fun _ _ _ _ e => atom_exp rfl e
  | n + 1, met, .text _, g, h => fun _ _ _ _ e => atom_exp rfl e
  | n + 1, met, .fn _, g, h => fun _ _ _ _ e => atom_exp rfl e
structure Shorts (cells : List Cell) (N : Nat → List Str) : Prop where
  few : cells.length ≤ 1000
  sh : ∀ c ∈ cells, ∀ d ∈ c.ds, (plainT d).length ≤ 60
  nm : ∀ c ∈ cells, ∀ k, (nmC N c k).length ≤ 10
theorem intT_len {n : Int} (h : n.natAbs < 10 ^ 12) : (intT n).length ≤ 13 := by
  show (Str.ofString (toString n)).length ≤ 13
  rw [PySem.ofString_length]
  exact int_text_length_le10 (k := 12) (by decide) h
theorem unk_len {met : Met} {i : Nat} (h : met.length ≤ 1000) : (unk met i).length ≤ 60 := by
  unfold unk
  rw [Str.length_append]
  have h1 : met.idxOf i ≤ met.length := List.idxOf_le_length
  have h2 : (intT ((met.idxOf i : Nat) : Int)).length ≤ 13 := intT_len (by
    have h3 : (((met.idxOf i : Nat) : Int)).natAbs ≤ 1000 := by omega
    exact Nat.lt_of_le_of_lt h3 (by decide))
  have h3 : ("#" : Str).length = 1 := by decide +kernel
  omega
theorem opC_len : ∀ c : Cell, (opC c).length = 1
  | .obj _ _ => show ("{" : Str).length = 1 by decide +kernel
  | .lst _ => show ("[" : Str).length = 1 by decide +kernel
theorem clC_len : ∀ c : Cell, (clC c).length = 1
  | .obj _ _ => show ("}" : Str).length = 1 by decide +kernel
  | .lst _ => show ("]" : Str).length = 1 by decide +kernel
theorem sepLen : (", " : Str).length = 2 := by decide +kernel
theorem join_len (nm : Nat → Str) {b : Nat} (hnm : ∀ k, (nm k).length ≤ b) : ∀ (ts : List Str) (k : Nat), (Str.join ", " (tagI nm k ts)).length ≤ (ts.map (·.length)).sum + (b + 2) * ts.length
  | [], _ => Nat.zero_le _
  | [t], k => by
    show (nm k ++ t).length ≤ _
    rw [Str.length_append]
    have := hnm k
    simp
    omega
  | t :: u :: r, k => by
    have ih := join_len nm hnm (u :: r) (k + 1)
    show ((nm k ++ t) ++ (", " : Str) ++ Str.join ", " (tagI nm (k + 1) (u :: r))).length ≤ _
    rw [Str.length_append, Str.length_append, Str.length_append, sepLen]
    have h1 := hnm k
    have e : ((t :: u :: r).map (·.length)).sum = t.length + ((u :: r).map (·.length)).sum := by simp
    have e2 : (b + 2) * (t :: u :: r).length = (b + 2) * (u :: r).length + (b + 2) := by rw [List.length_cons, Nat.mul_succ]
    rw [e, e2]
    omega
theorem seq_len {f : Met → Val → Str × Met} (hg : ∀ met d, Good cells met → Good cells (f met d).2) (hf : ∀ met d, Good cells met → (plainT d).length ≤ 60 → (f met d).1.length + wts cells met ≤ 60 + wts cells (f met d).2) :
    ∀ (ds : List Val) (met : Met), Good cells met → (∀ d ∈ ds, (plainT d).length ≤ 60) → ((seqM f met ds).1.map (·.length)).sum + wts cells met ≤ 60 * ds.length + wts cells (seqM f met ds).2
  | [], met, g, h => by simp [seqM]
  | d :: r, met, g, h => by
    have h1 := hf met d g (h d List.mem_cons_self)
    have h2 := seq_len hg hf r _ (hg met d g) fun q hq => h q (List.mem_cons_of_mem _ hq)
    have e : ((seqM f met (d :: r)).1.map (·.length)).sum = (f met d).1.length + ((seqM f (f met d).2 r).1.map (·.length)).sum := by simp [seqM]
    have e2 : (seqM f met (d :: r)).2 = (seqM f (f met d).2 r).2 := rfl
    rw [e, e2, List.length_cons]
    omega
theorem seq_many {f : Met → Val → Str × Met} : ∀ (ds : List Val) (met : Met), (seqM f met ds).1.length = ds.length
  | [], _ => rfl
  | d :: r, met => by show (_ :: _).length = _; rw [List.length_cons, seq_many r, List.length_cons]
theorem dV_len (S : Shorts cells N) : ∀ (n : Nat) (met : Met) (d : Val), Good cells met → (plainT d).length ≤ 60 → (dV cells N n met d).1.length + wts cells met ≤ 60 + wts cells (dV cells N n met d).2
  | 0, met, d, g, h => by show Str.empty.length + _ ≤ _ + wts cells met; have : Str.empty.length = 0 := rfl; omega
  | n + 1, met, .ref z, g, h => by
    unfold dV
    by_cases hm : z.toNat ∈ met
    · rw [if_pos hm]
      have := unk_len (met := met) (i := z.toNat) (Nat.le_trans g.len S.few)
      show (unk met z.toNat).length + wts cells met ≤ 60 + wts cells met
      omega
    · rw [if_neg hm]
      cases hc : cells[z.toNat]? with
      | none => show Str.empty.length + _ ≤ _ + wts cells met; have : Str.empty.length = 0 := rfl; omega
      | some c =>
        have hcm := List.mem_of_getElem? hc
        have g1 := g.push hm (lt_of hc)
        have h1 := seq_len (fun met d g => (good_dV (N := N) n met d g).1) (fun met d g h => dV_len S n met d g h) c.ds _ g1 (S.sh c hcm)
        have h2 := join_len (nmC N c) (S.nm c hcm) (seqM (dV cells N n) (met ++ [z.toNat]) c.ds).1 0
        rw [seq_many] at h2
        rw [wts_push] at h1
        have h3 : wt cells z.toNat = 10 + 80 * c.ds.length := by unfold wt; rw [hc]
        show ((opC c ++ _) ++ clC c).length + wts cells met ≤ 60 + wts cells (seqM (dV cells N n) (met ++ [z.toNat]) c.ds).2
        rw [Str.length_append, Str.length_append]
        have h4 := opC_len c
        have h5 := clC_len c
        omega
  | n + 1, met, .int _, g, h => Nat.add_le_add_right h _
  | n + 1, met, .bool _, g, h => Nat.add_le_add_right h _
  | n + 1, met, .nul, g, h => Nat.add_le_add_right h _
  | n + 1, met, .text _, g, h => Nat.add_le_add_right h _
  | n + 1, met, .fn _, g, h => Nat.add_le_add_right h _
theorem wts_le {b : Nat} (hb : ∀ c ∈ cells, c.ds.length ≤ b) : ∀ met : Met, wts cells met ≤ (10 + 80 * b) * met.length
  | [] => Nat.zero_le _
  | i :: r => by
    have ih := wts_le hb r
    have e : wts cells (i :: r) = wt cells i + wts cells r := by unfold wts; simp
    have h1 : wt cells i ≤ 10 + 80 * b := by
      unfold wt
      split
      · rename_i c hc
        have := hb c (List.mem_of_getElem? hc)
        omega
      · omega
    rw [e, List.length_cons, Nat.mul_succ]
    omega
end
end My
namespace My
open PySem PySem.Spec PyProof.Rows L2
abbrev sD (j : Nat) : Stmt := inClass (topS 17) j
theorem scPlain : FnScope ["self", "value"] ["self", "value"] (defScope (sD 4)) := ⟨rfl, rfl, rfl, by decide +kernel, rfl, by decide +kernel, by decide +kernel⟩
theorem scBetween : FnScope ["self", "values", "names", "found", "k", "one"] ["self", "values", "names"] (defScope (sD 3)) := ⟨rfl, rfl, rfl, by decide +kernel, rfl, by decide +kernel, by decide +kernel⟩
theorem scOpened : FnScope ["self", "value", "cell"] ["self", "value"] (defScope (sD 2)) := ⟨rfl, rfl, rfl, by decide +kernel, rfl, by decide +kernel, by decide +kernel⟩
theorem scInitD : FnScope ["self", "world"] ["self", "world"] (defScope (sD 0)) := ⟨rfl, rfl, rfl, by decide +kernel, rfl, by decide +kernel, by decide +kernel⟩
/-- a value that is told at once -/
def Val.told : Val → Prop
  | .int n => -2000000000 < n ∧ n < 2000000000
  | .fn n => -2000000000 < n ∧ n < 2000000000
  | .text s => s.length ≤ 100
  | .ref _ => False
  | _ => True
def spPlain (K : PySem.W.Frag) : Sp := fun vs H Q _ => ∃ (u v : V) (d : Val), vs = [u, v] ∧ Vl K H v d ∧ d.told ∧ Q (.str (plainT d)) H
/-- values and texts on the stack -/
inductive TR (K : PySem.W.Frag) (H : Hp) : List V → List Tok → Prop
  | nil : TR K H [] []
  | s {x : Str} {vs : List V} {ts : List Tok} : TR K H vs ts → TR K H (.str x :: vs) (.s x :: ts)
  | v {u : V} {d : Val} {vs : List V} {ts : List Tok} : Vl K H u d → TR K H vs ts → TR K H (u :: vs) (.v d :: ts)
theorem TR.keep {K : PySem.W.Frag} {H H' : Hp} (k : KeepT H H') : ∀ {vs : List V} {ts : List Tok}, TR K H vs ts → TR K H' vs ts
  | _, _, .nil => .nil
  | _, _, .s r => .s (TR.keep k r)
  | _, _, .v h r => .v (h.keep k) (TR.keep k r)
theorem TR.append {K : PySem.W.Frag} {H : Hp} {b : List V} {t : List Tok} (h : TR K H b t) : ∀ {vs : List V} {ts : List Tok}, TR K H vs ts → TR K H (vs ++ b) (ts ++ t)
  | _, _, .nil => h
  | _, _, .s r => .s (TR.append h r)
  | _, _, .v q r => .v q (TR.append h r)
def vals3 (nm : Nat → Str) : Nat → List V → List V
  | _, [] => []
  | k, v :: r => .str (sepK k ++ nm k) :: v :: vals3 nm (k + 1) r
theorem vals3_snoc (nm : Nat → Str) (v : V) : ∀ (vs : List V) (k : Nat), vals3 nm k (vs ++ [v]) = vals3 nm k vs ++ [.str (sepK (k + vs.length) ++ nm (k + vs.length)), v]
  | [], k => rfl
  | u :: r, k => by
    show .str (sepK k ++ nm k) :: u :: vals3 nm (k + 1) (r ++ [v]) = .str (sepK k ++ nm k) :: u :: (vals3 nm (k + 1) r ++ _)
    rw [vals3_snoc nm v r (k + 1), List.length_cons]
    have e : k + 1 + r.length = k + (r.length + 1) := by omega
    rw [e]
theorem vals3_len (nm : Nat → Str) : ∀ (vs : List V) (k : Nat), (vals3 nm k vs).length = 2 * vs.length
  | [], _ => rfl
  | u :: r, k => by
    show ((vals3 nm (k + 1) r).length + 1) + 1 = _
    rw [vals3_len nm r, List.length_cons]
    omega
theorem TR.of {K : PySem.W.Frag} {H : Hp} (nm : Nat → Str) : ∀ (ps : List VV) (k : Nat), (∀ p ∈ ps, Vl K H p.1 p.2) → TR K H (vals3 nm k (ps.map (·.1))) (btw nm k (ps.map (·.2)))
  | [], _, _ => .nil
  | p :: r, k, h => .s (.v (h p List.mem_cons_self) (TR.of nm r (k + 1) fun q hq => h q (List.mem_cons_of_mem _ hq)))
def spBetween (K : PySem.W.Frag) : Sp := fun vs H Q _ => ∃ (u : V) (a b : Addr) (xs : List V) (names : List Str), vs = [u, .ref a, .ref b] ∧ SqL K H a xs ∧ SqL K H b (names.map V.str) ∧ (names = [] ∨ names.length = xs.length) ∧ xs.length ≤ 40000 ∧ (∀ x ∈ names, x.length ≤ 100) ∧
  ∀ H' p, Same H H' → H p = none → H' p = some (.lst (vals3 (nmOf names) 0 xs)) → Q (.ref p) H'
section
variable {P : Program} {w : World} {K : PySem.W.Frag} {mg : Str → Option Value} {base : Heap} {C CD : Addr}
theorem ok_plain {f : Addr} {fd : FuncData} (F : Fun K "plain" "Dump.plain" (sD 4) f fd) (hstr : mg "str" = none) : FnOk P w K mg base CX0 1 f fd ["self", "value"] (spPlain K) := by
  refine F.ok scPlain (fun vs H Q E h => ?_) (fun cdv A outer s H vs Q E hr h => ?_)
  · obtain ⟨u, v, d, rfl, _⟩ := h; rfl
  · refine ⟨_, pss_cons (ps_if (pt_cmpR op_eq (pe_ix ix_tup (pv 1) pe_int (fun _ _ => rfl)) pe_str (nomark _)) (pss_one (ps_ret (pe_op op_add_str (pe_op op_add_str pe_str (pe_ix ix_tup (pv 1) pe_int (fun _ _ => rfl))) pe_str))) pss_nil)
      (pss_cons (ps_if (pt_cmpR op_eq (pe_ix ix_tup (pv 1) pe_int (fun _ _ => rfl)) pe_str (nomark _)) (pss_one (ps_ret (pe_ifExp (pt_val (pe_ix ix_tup (pv 1) pe_int (fun _ _ => rfl))) pe_str pe_str))) pss_nil)
      (pss_cons (ps_if (pt_cmpR op_eq (pe_ix ix_tup (pv 1) pe_int (fun _ _ => rfl)) pe_str (nomark _)) (pss_one (ps_ret (pe_op op_add_str (pe_op op_add_str pe_str (pe_callTy call_str_int (by rfl) hstr (by decide +kernel) (pa_cons (pe_ix ix_tup (pv 1) pe_int (fun _ _ => rfl)) pa_nil))) pe_str))) pss_nil)
      (pss_one (ps_ret (pe_ifExp (pt_cmpR op_eq (pe_ix ix_tup (pv 1) pe_int (fun _ _ => rfl)) pe_str (nomark _)) pe_str (pe_callTy call_str_int (by rfl) hstr (by decide +kernel) (pa_cons (pe_ix ix_tup (pv 1) pe_int (fun _ _ => rfl)) pa_nil))))))), ?_⟩
    obtain ⟨u, v, d, rfl, ⟨a, rfl, t⟩, ht, kQ⟩ := h
    refine ⟨.ref a, rfl, a, _, 0, .str d.word, rfl, rfl, t.sq, atI_nat (j := 0) rfl, rfl, _, congrArg V.bl d.word_text, ?_⟩
    cases d with
    | text x =>
      have hx : x.length ≤ 100 := ht
      have q1 : ("'" : Str).length = 1 := by decide +kernel
      exact iteT ⟨.ref a, rfl, a, _, 1, .str x, rfl, rfl, t.sq, atI_nat (j := 1) rfl, _, _, rfl, rfl, by rw [sizeLine_eq]; omega, _, _, rfl, rfl, by rw [Str.length_append, sizeLine_eq]; omega, kQ⟩
    | bool b =>
      refine iteF ⟨.ref a, rfl, a, _, 0, .str "bool", rfl, rfl, t.sq, atI_nat (j := 0) rfl, rfl, true, rfl, iteT ⟨.ref a, rfl, a, _, 1, .bl b, rfl, rfl, t.sq, atI_nat (j := 1) rfl, b, rfl, ?_⟩⟩
      cases b with
      | true => exact iteT kQ
      | false => exact iteF kQ
    | fn n =>
      obtain ⟨m1, m2⟩ : -2000000000 < n ∧ n < 2000000000 := ht
      have q1 : ("fun " : Str).length = 4 := by decide +kernel
      have q2 : ("()" : Str).length = 2 := by decide +kernel
      have q3 : (intT n).length ≤ 13 := intT_len (Nat.lt_trans (show n.natAbs < 2000000000 by omega) (by decide))
      exact iteF ⟨.ref a, rfl, a, _, 0, .str "fun", rfl, rfl, t.sq, atI_nat (j := 0) rfl, rfl, false, rfl, iteF ⟨.ref a, rfl, a, _, 0, .str "fun", rfl, rfl, t.sq, atI_nat (j := 0) rfl, rfl, true, rfl,
        iteT ⟨.ref a, rfl, a, _, 1, .int n, rfl, rfl, t.sq, atI_nat (j := 1) rfl, n, rfl, log_mid m1 m2, _, intT n, rfl, rfl, by rw [sizeLine_eq]; omega, _, _, rfl, rfl, by rw [Str.length_append, sizeLine_eq]; omega, kQ⟩⟩⟩
    | nul =>
      exact iteF ⟨.ref a, rfl, a, _, 0, .str "null", rfl, rfl, t.sq, atI_nat (j := 0) rfl, rfl, false, rfl, iteF ⟨.ref a, rfl, a, _, 0, .str "null", rfl, rfl, t.sq, atI_nat (j := 0) rfl, rfl, false, rfl, iteF ⟨.ref a, rfl, a, _, 0, .str "null", rfl, rfl, t.sq, atI_nat (j := 0) rfl, rfl, true, rfl, iteT kQ⟩⟩⟩
    | int n =>
      obtain ⟨m1, m2⟩ : -2000000000 < n ∧ n < 2000000000 := ht
      exact iteF ⟨.ref a, rfl, a, _, 0, .str "int", rfl, rfl, t.sq, atI_nat (j := 0) rfl, rfl, false, rfl, iteF ⟨.ref a, rfl, a, _, 0, .str "int", rfl, rfl, t.sq, atI_nat (j := 0) rfl, rfl, false, rfl, iteF ⟨.ref a, rfl, a, _, 0, .str "int", rfl, rfl, t.sq, atI_nat (j := 0) rfl, rfl, false, rfl, iteF ⟨.ref a, rfl, a, _, 1, .int n, rfl, rfl, t.sq, atI_nat (j := 1) rfl, n, rfl, log_mid m1 m2, kQ⟩⟩⟩⟩
    | ref z => exact False.elim ht
theorem cat2 {a b c d : Str} (h1 : a = b) (h2 : c = d) : a ++ c = b ++ d := by rw [h1, h2]
theorem nmOf_some {names : List Str} {k : Nat} (h : k < names.length) : nmOf names k = names[k] ++ (": " : Str) := by
  unfold nmOf
  rw [if_pos (by omega), List.getD_eq_getElem?_getD, List.getElem?_eq_getElem h]
  rfl
theorem ok_between {f : Addr} {fd : FuncData} (F : Fun K "between" "Dump.between" (sD 3) f fd) (hlen : mg "len" = none) (hen : mg "enumerate" = none) : FnOk P w K mg base CX0 1 f fd ["self", "values", "names"] (spBetween K) := by
  refine F.ok scBetween (fun vs H Q E h => ?_) (fun cdv A outer s H vs Q E hr h => ?_)
  · obtain ⟨u, a, b, xs, names, rfl, _⟩ := h; rfl
  · refine ⟨_, pss_cons (ps_set (i := 3) scBetween.nd rfl (.inl rfl) (pe_lst pa_nil))
      (pss_cons (ps_for PassesOwn.never rfl (pi_enum (by rfl) hen (pa_cons (pv 1) pa_nil)) (pg_tup rfl (pgs_cons (pg_name (i := 4) scBetween.nd rfl (.inl rfl)) (pgs_cons (pg_name (i := 5) scBetween.nd rfl (.inl rfl)) pgs_nil)))
        (pss_cons (ps_expr (pe_bm PySem.F.plainAttrs_list PySem.F.slot_list_append PySem.F.type_list_append mt_append (pv 3) (pa_cons (pe_op op_add_str (pe_ifExp (pt_cmpR op_gt (pv 4) pe_int (nomark _)) pe_str pe_str) (pe_ifExp (pt_cmpR op_gt (pe_callB call_len_seq (by rfl) hlen PySem.boot_len (pa_cons (pv 2) pa_nil)) pe_int (nomark _)) (pe_op op_add_str (pe_ix ix_list (pv 2) (pv 4) (fun _ _ => rfl)) pe_str) pe_str)) pa_nil)))
        (pss_one (ps_expr (pe_bm PySem.F.plainAttrs_list PySem.F.slot_list_append PySem.F.type_list_append mt_append (pv 3) (pa_cons (pv 5) pa_nil))))))
      (pss_one (ps_ret (pv 3)))), ?_⟩
    obtain ⟨u, a, b, xs, names, rfl, hS, hN, hnl, hxl, hns, kQ⟩ := h
    refine ⟨by show 0 ≤ sizeLine; decide, fun q hq => ?_⟩
    refine ⟨_, rfl, a, xs, rfl, (same_new hq).seq hS, fun i m σ H' => m = xs.length - i ∧ i ≤ xs.length ∧ Same H H' ∧ H' q = some (.lst (vals3 (nmOf names) 0 (xs.take i))) ∧ ∃ o4 o5, σ = [some u, some (.ref a), some (.ref b), some (.ref q), o4, o5],
      ⟨_, rfl, Nat.zero_le _, same_new hq, upd_same, none, none, rfl⟩, ?_⟩
    rintro i m σ H' ⟨rfl, hi, sm, eq, o4, o5, rfl⟩
    by_cases hlt : i < xs.length
    · refine .inr ⟨⟨xs, _, sm.seq hS, List.getElem?_eq_getElem hlt⟩, fun σ' H' => ∃ m', m' < xs.length - i ∧ _, fun _ _ z => z, ?_⟩
      rintro y H2 ⟨T, x, rfl, hT, rfl, hx⟩
      have ex := hx xs (sm.seq hS)
      rw [List.getElem?_eq_getElem hlt] at ex
      obtain rfl := Option.some.inj ex
      have s2 := same_new (o := .tup [.int ((i : Nat) : Int), xs[i]]) hT
      have eq2 := s2 _ _ eq
      have sm2 : Same H (upd H' T (.tup [.int ((i : Nat) : Int), xs[i]])) := fun b o z => s2 b o (sm b o z)
      refine ⟨T, _, rfl, SqT.of upd_same, rfl, _, _, rfl, _, _, rfl, rfl, ?_⟩
      generalize (upd H' T (.tup [.int ((i : Nat) : Int), xs[i]])) = H3 at eq2 sm2
      have htl : (xs.take i).length = i := by rw [List.length_take]; omega
      have hl1 : (vals3 (nmOf names) 0 (xs.take i)).length = 2 * i := by rw [vals3_len, htl]
      have es : vals3 (nmOf names) 0 (xs.take (i + 1)) = vals3 (nmOf names) 0 (xs.take i) ++ [.str (sepK i ++ nmOf names i), xs[i]] := by
        rw [List.take_succ_eq_append_getElem hlt, vals3_snoc, htl, Nat.zero_add]
      have fin : ∀ o4 o5 H4, H4 = upd (upd H3 q (.lst (vals3 (nmOf names) 0 (xs.take i) ++ [.str (sepK i ++ nmOf names i)]))) q (.lst (vals3 (nmOf names) 0 (xs.take i) ++ [.str (sepK i ++ nmOf names i)] ++ [xs[i]])) →
          ∃ m', m' < xs.length - i ∧ (m' = xs.length - (i + 1) ∧ i + 1 ≤ xs.length ∧ Same H H4 ∧ H4 q = some (.lst (vals3 (nmOf names) 0 (xs.take (i + 1)))) ∧ ∃ p4 p5, ([some u, some (.ref a), some (.ref b), some (.ref q), o4, o5] : L2.St) = [some u, some (.ref a), some (.ref b), some (.ref q), p4, p5]) := fun o4 o5 H4 e => by
        subst e
        refine ⟨_, by omega, rfl, hlt, same_put (same_put sm2 hq) hq, ?_, o4, o5, rfl⟩
        rw [upd_same, es, List.append_assoc]; rfl
      refine ⟨_, rfl, .inl ⟨rfl, _, SqL.of eq2⟩, _, rfl, _, _, rfl, rfl, _, rfl, ?_⟩
      have e0 : ("" : Str) = Str.empty := by decide +kernel
      by_cases c1 : 0 < i
      · rw [decide_eq_true (show ((i : Nat) : Int) > 0 by omega)]
        refine iteT ⟨_, rfl, b, _, rfl, .inl (sm2.seq hN), _, _, rfl, rfl, _, rfl, ?_⟩
        by_cases c2 : 0 < names.length
        · have hki : i < names.length := hnl.elim (fun z => by rw [z] at c2; exact absurd c2 (Nat.lt_irrefl 0)) (fun z => by omega)
          have hc : (": " : Str).length = 2 := by decide +kernel
          have hni := hns _ (List.getElem_mem hki)
          have hsz : names[i].length + (": " : Str).length ≤ sizeLine := by rw [sizeLine_eq]; omega
          have gki : (names.map V.str)[i]? = some (.str names[i]) := by rw [List.getElem?_map, List.getElem?_eq_getElem hki]; rfl
          rw [decide_eq_true (show (((names.map V.str).length : Nat) : Int) > 0 by rw [List.length_map]; omega)]
          refine iteT ⟨_, rfl, _, rfl, b, _, (i : Int), _, rfl, rfl, sm2.seq hN, atI_nat gki, names[i], ": ", rfl, rfl, hsz, ?_⟩
          refine ⟨", ", names[i] ++ ": ", rfl, rfl, ?_, q, _, _, rfl, rfl, eq2, by rw [hl1, sizeLine_eq]; omega, ?_⟩
          · rw [sizeLine_eq]; have h1 : (", " : Str).length ≤ 2 := by decide +kernel
            have h2 : (names[i] ++ ": " : Str).length ≤ 102 := by rw [Str.length_append]; omega
            omega
          · have e1 : (", " : Str) ++ (names[i] ++ ": " : Str) = sepK i ++ nmOf names i := cat2 (show (", " : Str) = sepK i from (if_pos c1).symm) (show names[i] ++ (": " : Str) = nmOf names i from (nmOf_some hki).symm)
            rw [e1]
            exact ⟨_, rfl, .inl ⟨rfl, _, SqL.of upd_same⟩, _, rfl, q, _, _, rfl, rfl, upd_same, by rw [List.length_append, hl1, sizeLine_eq]; show 2 * i + 1 < _; omega, fin _ _ _ rfl⟩
        · rw [decide_eq_false (show ¬ (((names.map V.str).length : Nat) : Int) > 0 by rw [List.length_map]; omega)]
          refine iteF ?_
          refine ⟨", ", "", rfl, rfl, ?_, q, _, _, rfl, rfl, eq2, by rw [hl1, sizeLine_eq]; omega, ?_⟩
          · rw [sizeLine_eq]; have h1 : (", " : Str).length ≤ 2 := by decide +kernel
            have h2 : ("" : Str).length ≤ 102 := by decide +kernel
            omega
          · have e1 : (", " : Str) ++ ("" : Str) = sepK i ++ nmOf names i := cat2 (show (", " : Str) = sepK i from (if_pos c1).symm) (show ("" : Str) = nmOf names i from e0.trans (by unfold nmOf; rw [if_neg c2]))
            rw [e1]
            exact ⟨_, rfl, .inl ⟨rfl, _, SqL.of upd_same⟩, _, rfl, q, _, _, rfl, rfl, upd_same, by rw [List.length_append, hl1, sizeLine_eq]; show 2 * i + 1 < _; omega, fin _ _ _ rfl⟩
      · rw [decide_eq_false (show ¬ ((i : Nat) : Int) > 0 by omega)]
        refine iteF ⟨_, rfl, b, _, rfl, .inl (sm2.seq hN), _, _, rfl, rfl, _, rfl, ?_⟩
        by_cases c2 : 0 < names.length
        · have hki : i < names.length := hnl.elim (fun z => by rw [z] at c2; exact absurd c2 (Nat.lt_irrefl 0)) (fun z => by omega)
          have hc : (": " : Str).length = 2 := by decide +kernel
          have hni := hns _ (List.getElem_mem hki)
          have hsz : names[i].length + (": " : Str).length ≤ sizeLine := by rw [sizeLine_eq]; omega
          have gki : (names.map V.str)[i]? = some (.str names[i]) := by rw [List.getElem?_map, List.getElem?_eq_getElem hki]; rfl
          rw [decide_eq_true (show (((names.map V.str).length : Nat) : Int) > 0 by rw [List.length_map]; omega)]
          refine iteT ⟨_, rfl, _, rfl, b, _, (i : Int), _, rfl, rfl, sm2.seq hN, atI_nat gki, names[i], ": ", rfl, rfl, hsz, ?_⟩
          refine ⟨"", names[i] ++ ": ", rfl, rfl, ?_, q, _, _, rfl, rfl, eq2, by rw [hl1, sizeLine_eq]; omega, ?_⟩
          · rw [sizeLine_eq]; have h1 : ("" : Str).length ≤ 2 := by decide +kernel
            have h2 : (names[i] ++ ": " : Str).length ≤ 102 := by rw [Str.length_append]; omega
            omega
          · have e1 : ("" : Str) ++ (names[i] ++ ": " : Str) = sepK i ++ nmOf names i := cat2 (show ("" : Str) = sepK i from e0.trans (if_neg c1).symm) (show names[i] ++ (": " : Str) = nmOf names i from (nmOf_some hki).symm)
            rw [e1]
            exact ⟨_, rfl, .inl ⟨rfl, _, SqL.of upd_same⟩, _, rfl, q, _, _, rfl, rfl, upd_same, by rw [List.length_append, hl1, sizeLine_eq]; show 2 * i + 1 < _; omega, fin _ _ _ rfl⟩
        · rw [decide_eq_false (show ¬ (((names.map V.str).length : Nat) : Int) > 0 by rw [List.length_map]; omega)]
          refine iteF ?_
          refine ⟨"", "", rfl, rfl, ?_, q, _, _, rfl, rfl, eq2, by rw [hl1, sizeLine_eq]; omega, ?_⟩
          · rw [sizeLine_eq]; have h1 : ("" : Str).length ≤ 2 := by decide +kernel
            have h2 : ("" : Str).length ≤ 102 := by decide +kernel
            omega
          · have e1 : ("" : Str) ++ ("" : Str) = sepK i ++ nmOf names i := cat2 (show ("" : Str) = sepK i from e0.trans (if_neg c1).symm) (show ("" : Str) = nmOf names i from e0.trans (by unfold nmOf; rw [if_neg c2]))
            rw [e1]
            exact ⟨_, rfl, .inl ⟨rfl, _, SqL.of upd_same⟩, _, rfl, q, _, _, rfl, rfl, upd_same, by rw [List.length_append, hl1, sizeLine_eq]; show 2 * i + 1 < _; omega, fin _ _ _ rfl⟩
    · have e : i = xs.length := by omega
      subst e
      refine .inl ⟨⟨xs, sm.seq hS, Nat.le_refl _⟩, ?_⟩
      rw [List.take_length] at eq
      exact ⟨_, rfl, kQ H' q sm hq eq⟩
end
end My
namespace My
open PySem PySem.Spec PyProof.Rows L2
/-- what the walk asks of the class Dump -/
structure DT (K : PySem.W.Frag) (mg : Str → Option Value) (C : Addr) : Prop where
  cl : Cls K C
  nWorld : NoAttr K C "world"
  nMet : NoAttr K C "met"
  g : mg "Dump" = some (.ref C)
def dfl (inst ml : Addr) : List (Str × V) := [("world", .ref inst), ("met", .ref ml)]
section
variable {inst ml : Addr}
theorem d_world : (dfl inst ml).lookup ("world" : Str) = some (.ref inst) := lk_hit
theorem d_met : (dfl inst ml).lookup ("met" : Str) = some (.ref ml) := by unfold dfl; rw [lk_skip (by decide +kernel), lk_hit]
theorem d_no {m : Str} (h : ((["world", "met"] : List Str).all fun x => !(m == x)) = true) : (dfl inst ml).lookup m = none := by
  simp only [List.all_cons, List.all_nil, Bool.and_true, Bool.and_eq_true, Bool.not_eq_true'] at h
  obtain ⟨h1, h2⟩ := h
  unfold dfl
  rw [lk_skip h1, lk_skip h2]
  rfl
end
def metV (met : Met) : List V := met.map fun (i : Nat) => V.int (i : Int)
structure DumpAt (CD : Addr) (H : Hp) (ad dxd ml inst : Addr) (met : Met) : Prop where
  ob : H ad = some (.ins CD dxd (dfl inst ml))
  ls : H ml = some (.lst (metV met))
def TK (R : WS) (d : Val) : Prop := d.told ∨ ∃ (i : Nat) (c : Cell), d = .ref (i : Int) ∧ R.cells[i]? = some c
structure Named (R : WS) (N : Nat → List Str) : Prop where
  nm : ∀ c ∈ R.cells, ∀ sh ps, c = .obj sh ps → Chain R.shapes sh (N sh).reverse ∧ (N sh).length = ps.length
  short : ∀ sh, ∀ x ∈ N sh, x.length ≤ 5
  few : ∀ c ∈ R.cells, c.vs.length ≤ 900
  told : ∀ c ∈ R.cells, ∀ p ∈ c.vs, TK R p.2
/-- only the list of what was met changes -/
def But (ml : Addr) (H H' : Hp) : Prop := ∀ q o, H q = some o → q ≠ ml → H' q = some o
theorem But.same {ml : Addr} {H H1 H2 : Hp} (a : But ml H H1) (b : Same H1 H2) : But ml H H2 := fun q o e n => b q o (a q o e n)
theorem But.trans {ml : Addr} {H H1 H2 : Hp} (a : But ml H H1) (b : But ml H1 H2) : But ml H H2 := fun q o e n => b q o (a q o e n) n
theorem But.of {ml : Addr} {H H1 : Hp} (s : Same H H1) : But ml H H1 := fun q o e _ => s q o e
theorem But.put {ml : Addr} {H H1 : Hp} (a : But ml H H1) (o : HO) : But ml H (upd H1 ml o) := fun q u e n => by rw [upd_ne n]; exact a q u e n
theorem But.tups {ml : Addr} {H H' : Hp} {xs : List V} (b : But ml H H') (h : H ml = some (.lst xs)) : KeepT H H' := fun q ys e => b q _ e fun z => by subst z; rw [h] at e; cases e
def spOpened (K : PySem.W.Frag) (C CD : Addr) : Sp := fun vs H Q _ => ∃ (L : Lab → Addr) (R : WS) (N : Nat → List Str) (ad dxd ml : Addr) (met : Met) (v : V) (d : Val), vs = [.ref ad, v] ∧ DumpAt CD H ad dxd ml (L .inst) met ∧ WorldAt K C H L R ∧ Named R N ∧ (∀ l, live R.cells.length l → L l ≠ ml) ∧ Vl K H v d ∧ TK R d ∧ Good R.cells met ∧ met.length ≤ 1000 ∧
  ∀ H' p xs, But ml H H' → H p = none → H' p = some (.lst xs) → TR K H' xs (opT R.cells N met d).1 → H' ml = some (.lst (metV (opT R.cells N met d).2)) → Q (.ref p) H'
theorem idx_le : ∀ (l : List Nat) (m i : Nat), l[m]? = some i → l.idxOf i ≤ m
  | [], _, _, h => by cases h
  | a :: r, m, i, h => by
    rw [List.idxOf_cons]
    by_cases z : a = i
    · subst z; simp
    · have z1 : (a == i) = false := by simpa using z
      rw [z1]
      cases m with
      | zero => simp at h; exact absurd h z
      | succ m =>
        have := idx_le r m i (by simpa using h)
        simp
        omega
theorem inV_met : ∀ (met : Met) (i : Nat), inV (V.int (i : Int)) (metV met) = decide (i ∈ met)
  | [], i => rfl
  | j :: r, i => by
    have ih := inV_met r i
    show ((((j : Nat) : Int) == (i : Int)) || inV (V.int (i : Int)) (metV r)) = _
    rw [ih]
    by_cases z : j = i
    · subst z; simp
    · have z1 : (((j : Nat) : Int) == (i : Int)) = false := by simp; omega
      have z2 : ¬ i = j := fun q => z q.symm
      rw [z1]
      simp [z2]
theorem flat_met (met : Met) : (metV met).all flatV = true := by
  unfold metV
  rw [List.all_map]
  exact List.all_eq_true.mpr fun _ _ => rfl
section
variable {P : Program} {w : World} {K : PySem.W.Frag} {mg : Str → Option Value} {base : Heap} {C CD : Addr}
theorem ok_opened {f fP fB fC fN : Addr} {fd fdP fdB fdC fdN : FuncData} (F : Fun K "opened" "Dump.opened" (sD 2) f fd) (T : WT K mg C) (TD : DT K mg CD) (hstr : mg "str" = none) (GP : FnOk P w K mg base CX0 1 fP fdP ["self", "value"] (spPlain K)) (cP : Mc K CD "plain" fP fdP ["self", "value"])
    (GB : FnOk P w K mg base CX0 1 fB fdB ["self", "values", "names"] (spBetween K)) (cB : Mc K CD "between" fB fdB ["self", "values", "names"]) (GC : FnOk P w K mg base CX0 1 fC fdC ["self", "value"] (spCell K C)) (cC : Mc K C "cell" fC fdC ["self", "value"])
    (GN : FnOk P w K mg base CX0 1 fN fdN ["self", "shape"] (spNamesOf K C)) (cN : Mc K C "names_of" fN fdN ["self", "shape"]) : FnOk P w K mg base CX0 2 f fd ["self", "value"] (spOpened K C CD) := by
  refine F.ok scOpened (fun vs H Q E h => ?_) (fun cdv A outer s H vs Q E hr h => ?_)
  · obtain ⟨L, R, N, ad, dxd, ml, met, v, d, rfl, _⟩ := h; rfl
  · refine ⟨_, pss_cons (ps_if (pt_cmpR op_ne (pe_ix ix_tup (pv 1) pe_int (fun _ _ => rfl)) pe_str (nomark _)) (pss_one (ps_ret (pe_lst (pa_cons (pe_meth (pv 0) TD.cl cP.m GP hr cP.b .nil pass0 (pa_cons (pv 1) pa_nil)) pa_nil)))) pss_nil)
      (pss_cons (ps_if (pt_cmpR op_in_seq (pe_ix ix_tup (pv 1) pe_int (fun _ _ => rfl)) (pe_fld (pv 0) rfl) (by rfl)) (pss_one (ps_ret (pe_lst (pa_cons (pe_op op_add_str pe_str (pe_callTy call_str_int (by rfl) hstr (by decide +kernel) (pa_cons (pe_bm PySem.F.plainAttrs_list PySem.F.slot_list_index PySem.F.type_list_index mt_index (pe_fld (pv 0) rfl) (pa_cons (pe_ix ix_tup (pv 1) pe_int (fun _ _ => rfl)) pa_nil)) pa_nil))) pa_nil)))) pss_nil)
      (pss_cons (ps_expr (pe_bm PySem.F.plainAttrs_list PySem.F.slot_list_append PySem.F.type_list_append mt_append (pe_fld (pv 0) rfl) (pa_cons (pe_ix ix_tup (pv 1) pe_int (fun _ _ => rfl)) pa_nil)))
      (pss_cons (ps_set (i := 2) scOpened.nd rfl (.inl rfl) (pe_meth (pe_fld (pv 0) rfl) T.cl cC.m GC hr cC.b .nil pass0 (pa_cons (pv 1) pa_nil)))
      (pss_cons (ps_if (pt_cmpR op_eq (pe_ix ix_list (pv 2) pe_int (fun _ _ => rfl)) pe_str (nomark _)) (pss_one (ps_ret (pe_lst (pa_cons pe_str (StX.pa_star (pe_meth (pv 0) TD.cl cB.m GB hr cB.b .nil pass0 (pa_cons (pe_ix ix_list (pv 2) pe_int (fun _ _ => rfl)) (pa_cons (pe_lst pa_nil) pa_nil))) (pa_cons pe_str pa_nil)))))) pss_nil)
      (pss_cons (ps_if (pt_cmpR op_eq (pe_ix ix_list (pv 2) pe_int (fun _ _ => rfl)) pe_str (nomark _)) (pss_one ps_never) pss_nil)
      (pss_one (ps_ret (pe_lst (pa_cons pe_str (StX.pa_star (pe_meth (pv 0) TD.cl cB.m GB hr cB.b .nil pass0 (pa_cons (pe_ix ix_list (pv 2) pe_int (fun _ _ => rfl)) (pa_cons (pe_meth (pe_fld (pv 0) rfl) T.cl cN.m GN hr cN.b .nil pass0 (pa_cons (pe_ix ix_list (pv 2) pe_int (fun _ _ => rfl)) pa_nil)) pa_nil))) (pa_cons pe_str pa_nil))))))))))), ?_⟩
    obtain ⟨L, R, N, ad, dxd, ml, met, v, d, rfl, D, W, NM, out, hv, tk, g, hml, kQ⟩ := h
    obtain ⟨a, rfl, ta⟩ := id hv
    refine ⟨.ref a, rfl, a, _, 0, .str d.word, rfl, rfl, ta.sq, atI_nat (j := 0) rfl, rfl, _, congrArg V.bl (by rw [d.word_ref]), ?_⟩
    rcases tk with ht | ⟨i, c, rfl, hc⟩
    · have hnr : d.isRef = false := by cases d <;> first | rfl | exact False.elim ht
      rw [hnr]
      have eo : opT R.cells N met d = ([.s (plainT d)], met) := by cases d <;> first | rfl | cases hnr
      rw [eo] at kQ
      refine iteT ⟨_, rfl, ad, dxd, _, rfl, D.ob, d_no (by decide +kernel), .ref a, rfl, .ref ad, .ref a, d, rfl, hv, ht, by show 1 ≤ sizeLine; decide, fun p hp => ?_⟩
      exact kQ _ p _ (But.of (same_new hp)) hp upd_same (.s .nil) (same_new hp _ _ D.ls)
    · refine iteF ⟨.ref a, rfl, a, _, 1, .int (i : Int), rfl, rfl, ta.sq, atI_nat (j := 1) rfl, .ref ad, rfl, ad, CD, dxd, _, _, rfl, D.ob, TD.cl, TD.nMet, d_met, ml, metV met, rfl, .inl (SqL.of D.ls), rfl, flat_met met, _, congrArg V.bl (inV_met met i), ?_⟩
      by_cases hm : i ∈ met
      · rw [decide_eq_true hm]
        have eo : opT R.cells N met (.ref (i : Int)) = ([.s (unk met i)], met) := by show (if ((i : Nat) : Int).toNat ∈ met then _ else _) = _; rw [Int.toNat_natCast, if_pos hm]
        rw [eo] at kQ
        have hil : met.idxOf i < met.length := List.idxOf_lt_length_of_mem hm
        have gi : (metV met)[met.idxOf i]? = some (V.int (i : Int)) := by
          unfold metV
          rw [List.getElem?_map, List.getElem?_eq_getElem hil, List.getElem_idxOf]
          rfl
        refine iteT ⟨_, rfl, ad, CD, dxd, _, _, rfl, D.ob, TD.cl, TD.nMet, d_met, .inl ⟨rfl, _, SqL.of D.ls⟩, .ref a, rfl, a, _, 1, .int (i : Int), rfl, rfl, ta.sq, atI_nat (j := 1) rfl, ml, metV met, .int (i : Int), met.idxOf i, .int (i : Int), rfl, rfl, SqL.of D.ls, rfl, flat_met met, gi, ?_, ?_, ?_⟩
        · show (((i : Nat) : Int) == (i : Int)) = true
          simp
        · intro m z' hlt hz
          unfold metV at hz
          rw [List.getElem?_map] at hz
          cases hq : met[m]? with
          | none => rw [hq] at hz; cases hz
          | some j =>
            rw [hq] at hz
            obtain rfl := Option.some.inj hz
            show (((j : Nat) : Int) == (i : Int)) = false
            have ne : j ≠ i := fun z => by
              subst z
              have := idx_le met m j hq
              omega
            simp
            omega
        · have h1 : (((met.idxOf i : Nat) : Int)).natAbs ≤ 1000 := by omega
          have h3 : (intT ((met.idxOf i : Nat) : Int)).length ≤ 13 := intT_len (Nat.lt_of_le_of_lt h1 (by decide))
          have h4 : ("#" : Str).length = 1 := by decide +kernel
          refine ⟨_, rfl, log_mid (by omega) (by omega), "#", intT ((met.idxOf i : Nat) : Int), rfl, rfl, by rw [sizeLine_eq]; omega, by show 1 ≤ sizeLine; decide, fun p hp => ?_⟩
          exact kQ _ p _ (But.of (same_new hp)) hp upd_same (.s .nil) (same_new hp _ _ D.ls)
      · rw [decide_eq_false hm]
        have eo : opT R.cells N met (.ref (i : Int)) = (.s (opC c) :: btw (nmC N c) 0 c.ds ++ [.s (clC c)], met ++ [i]) := by show (if ((i : Nat) : Int).toNat ∈ met then _ else _) = _; rw [Int.toNat_natCast, if_neg hm, hc]
        rw [eo] at kQ
        refine iteF ⟨_, rfl, ad, CD, dxd, _, _, rfl, D.ob, TD.cl, TD.nMet, d_met, .inl ⟨rfl, _, SqL.of D.ls⟩, .ref a, rfl, a, _, 1, .int (i : Int), rfl, rfl, ta.sq, atI_nat (j := 1) rfl, ml, _, _, rfl, rfl, D.ls, by unfold metV; rw [List.length_map, sizeLine_eq]; omega, ?_⟩
        have b1 : But ml H (upd H ml (.lst (metV met ++ [.int (i : Int)]))) := But.put (But.of fun _ _ z => z) _
        have l1 : (upd H ml (.lst (metV met ++ [.int (i : Int)]))) ml = some (.lst (metV (met ++ [i]))) := by rw [upd_same]; unfold metV; rw [List.map_append]; rfl
        have kt1 := b1.tups D.ls
        have W1 : WorldAt K C (upd H ml (.lst (metV met ++ [.int (i : Int)]))) L R := W.keep (fun l hl => by rw [upd_ne (out l hl)]) kt1
        have nam : ad ≠ ml := ne_of D.ob D.ls (by intro z; cases z)
        have o1 : (upd H ml (.lst (metV met ++ [.int (i : Int)]))) ad = some (.ins CD dxd (dfl (L .inst) ml)) := by rw [upd_ne nam]; exact D.ob
        have isN : ∀ p, (upd H ml (.lst (metV met ++ [.int (i : Int)]))) p = none → H p = none := fun p hp => by
          cases z : H p with
          | none => rfl
          | some o =>
            have nq : p ≠ ml := fun y => by subst y; rw [upd_same] at hp; cases hp
            rw [upd_ne nq, z] at hp
            cases hp
        generalize (upd H ml (.lst (metV met ++ [.int (i : Int)]))) = H1 at b1 l1 kt1 W1 o1 isN
        have hv1 := hv.keep kt1
        refine ⟨_, rfl, ad, CD, dxd, _, _, rfl, o1, TD.cl, TD.nWorld, d_world, L .inst, L .own, _, rfl, W1.at_ .inst trivial, f_no (by decide +kernel), .ref a, rfl, L, R, i, .ref a, rfl, W1, lt_of hc, hv1, ?_⟩
        have hcl := W1.cellL hc
        have hvl := W1.valsL hc
        have hcm := List.mem_of_getElem? hc
        have vsl := NM.few c hcm
        have tr : ∀ H2, KeepT H1 H2 → TR K H2 (vals3 (nmC N c) 0 (c.vs.map (·.1))) (btw (nmC N c) 0 c.ds) := fun H2 k => TR.of (nmC N c) c.vs 0 fun q hq => (W1.vs c hcm q hq).keep k
        cases c with
        | lst ps =>
          refine ⟨_, rfl, L (.cell i), _, 0, .str "list", rfl, rfl, SqL.of hcl, atI_nat (j := 0) rfl, rfl, true, rfl, iteT ⟨_, rfl, ad, dxd, _, rfl, o1, d_no (by decide +kernel), _, rfl, L (.cell i), _, 1, .ref (L (.vals i)), rfl, rfl, SqL.of hcl, atI_nat (j := 1) rfl, by show 0 ≤ sizeLine; decide, fun p1 n1 => ?_⟩⟩
          have s1 := same_new (o := .lst []) n1
          refine ⟨.ref ad, L (.vals i), p1, _, [], rfl, SqL.of (s1 _ _ hvl), SqL.of upd_same, .inl rfl, by rw [List.length_map]; show ps.length ≤ 40000; have : ps.length ≤ 900 := vsl; omega, (fun x hx => nomatch hx), fun H2 p2 s2 n2 e2 => ⟨p2, _, rfl, .inr (SqL.of e2), ?_⟩⟩
          have hsz : (vals3 (nmOf []) 0 ((Cell.lst ps).vs.map (·.1))).length ≤ 1800 := by rw [vals3_len, List.length_map]; show 2 * ps.length ≤ 1800; have : ps.length ≤ 900 := vsl; omega
          refine ⟨?_, fun p hp => ?_⟩
          · show (_ :: _).length ≤ _
            rw [List.length_cons, List.length_append, sizeLine_eq]
            show _ + 1 + 1 ≤ _
            omega
          · have s3 := same_new (o := .lst (.str "[" :: (vals3 (nmOf []) 0 ((Cell.lst ps).vs.map (·.1)) ++ [.str "]"]))) hp
            have s13 : Same H1 (upd H2 p (.lst (.str "[" :: (vals3 (nmOf []) 0 ((Cell.lst ps).vs.map (·.1)) ++ [.str "]"])))) := fun b o z => s3 b o (s2 b o (s1 b o z))
            refine kQ _ p _ (But.same b1 s13) (isN p (s1.free (s2.free hp))) upd_same ?_ (s13 _ _ l1)
            exact .s (TR.append (.s .nil) (tr _ (KeepT.of s13)))
        | obj sh ps =>
          obtain ⟨ch, hln⟩ := NM.nm _ hcm sh ps rfl
          have hpl : ps.length ≤ 900 := vsl
          refine ⟨_, rfl, L (.cell i), _, 0, .str "object", rfl, rfl, SqL.of hcl, atI_nat (j := 0) rfl, rfl, false, rfl, iteF ⟨_, rfl, L (.cell i), _, 0, .str "object", rfl, rfl, SqL.of hcl, atI_nat (j := 0) rfl, rfl, false, rfl, iteF ?_⟩⟩
          refine ⟨_, rfl, ad, dxd, _, rfl, o1, d_no (by decide +kernel), _, rfl, L (.cell i), _, 2, .ref (L (.vals i)), rfl, rfl, SqL.of hcl, atI_nat (j := 2) rfl, _, rfl, ad, CD, dxd, _, _, rfl, o1, TD.cl, TD.nWorld, d_world, L .inst, L .own, _, rfl, W1.at_ .inst trivial, f_no (by decide +kernel), _, rfl, L (.cell i), _, 1, .int (sh : Int), rfl, rfl, SqL.of hcl, atI_nat (j := 1) rfl, L, R, sh, _, rfl, W1, ch, by rw [List.length_reverse]; omega, fun H2 p1 s1 n1 e1 => ?_⟩
          rw [List.reverse_reverse] at e1
          refine ⟨.ref ad, L (.vals i), p1, _, N sh, rfl, SqL.of (s1 _ _ hvl), SqL.of e1, .inr (by rw [List.length_map]; exact hln), by rw [List.length_map]; show ps.length ≤ 40000; omega, fun x hx => Nat.le_trans (NM.short sh x hx) (by decide), fun H3 p2 s2 n2 e2 => ⟨p2, _, rfl, .inr (SqL.of e2), ?_⟩⟩
          have hsz : (vals3 (nmOf (N sh)) 0 ((Cell.obj sh ps).vs.map (·.1))).length ≤ 1800 := by rw [vals3_len, List.length_map]; show 2 * ps.length ≤ 1800; omega
          refine ⟨?_, fun p hp => ?_⟩
          · show (_ :: _).length ≤ _
            rw [List.length_cons, List.length_append, sizeLine_eq]
            show _ + 1 + 1 ≤ _
            omega
          · have s3 := same_new (o := .lst (.str "{" :: (vals3 (nmOf (N sh)) 0 ((Cell.obj sh ps).vs.map (·.1)) ++ [.str "}"]))) hp
            have s13 : Same H1 (upd H3 p (.lst (.str "{" :: (vals3 (nmOf (N sh)) 0 ((Cell.obj sh ps).vs.map (·.1)) ++ [.str "}"])))) := fun b o z => s3 b o (s2 b o (s1 b o z))
            refine kQ _ p _ (But.same b1 s13) (isN p (s1.free (s2.free hp))) upd_same ?_ (s13 _ _ l1)
            exact .s (TR.append (.s .nil) (tr _ (KeepT.of s13)))
end
end My
namespace My
open PySem PySem.Spec PyProof.Rows L2
theorem scText : FnScope ["self", "value", "found", "waiting", "one"] ["self", "value"] (defScope (sD 1)) := ⟨rfl, rfl, rfl, by decide +kernel, rfl, by decide +kernel, by decide +kernel⟩
def spInitD (K : PySem.W.Frag) (CD : Addr) : Sp := fun vs H Q _ => ∃ (ad dxd inst : Addr), vs = [.ref ad, .ref inst] ∧ H ad = some (.ins CD dxd []) ∧
  ∀ H' ml, H ml = none → DumpAt CD H' ad dxd ml inst [] → (∀ q o, H q = some o → q ≠ ad → H' q = some o) → Q .non H'
def catS : List Str → Str
  | [] => Str.empty
  | x :: r => x ++ catS r
theorem join_cat : ∀ l : List Str, Str.join Str.empty l = catS l
  | [] => rfl
  | [x] => (Str.append_empty x).symm
  | x :: y :: r => by
    show x ++ Str.empty ++ Str.join Str.empty (y :: r) = x ++ catS (y :: r)
    rw [Str.append_empty, join_cat (y :: r)]
theorem cat_snoc (x : Str) : ∀ l : List Str, catS (l ++ [x]) = catS l ++ x
  | [] => by show x ++ Str.empty = Str.empty ++ x; rw [Str.append_empty, Str.empty_append]
  | y :: r => by show y ++ catS (r ++ [x]) = (y ++ catS r) ++ x; rw [cat_snoc x r, Str.append_assoc]
theorem cat_len : ∀ l : List Str, (l.map (·.length)).sum = (catS l).length
  | [] => rfl
  | x :: r => by show x.length + (r.map (·.length)).sum = (x ++ catS r).length; rw [Str.length_append, cat_len r]
def spText (K : PySem.W.Frag) (C CD : Addr) : Sp := fun vs H Q _ => ∃ (L : Lab → Addr) (R : WS) (N : Nat → List Str) (ad dxd ml : Addr) (met : Met) (v : V) (d : Val) (n : Nat), vs = [.ref ad, v] ∧ DumpAt CD H ad dxd ml (L .inst) met ∧ WorldAt K C H L R ∧ Named R N ∧ (∀ l, live R.cells.length l → L l ≠ ml) ∧ Vl K H v d ∧ TK R d ∧ Good R.cells met ∧ R.cells.length ≤ 100 ∧
  R.cells.length < n + met.length ∧ Shorts R.cells N ∧ (plainT d).length ≤ 60 ∧ ∀ H', But ml H H' → H' ml = some (.lst (metV (dV R.cells N n met d).2)) → Q (.str (dV R.cells N n met d).1) H'
theorem exp_len {cells : List Cell} {N : Nat → List Str} {met met' : Met} {st : List Tok} {t : Str} {m : Nat} (h : Exp cells N met st t met' m) : st.length ≤ m := by
  induction h with
  | nil => exact Nat.le_refl _
  | str _ ih => rw [List.length_cons]; omega
  | val _ ih => rw [List.length_append] at ih; rw [List.length_cons]; omega
theorem TR.len {K : PySem.W.Frag} {H : Hp} : ∀ {vs : List V} {ts : List Tok}, TR K H vs ts → vs.length = ts.length
  | _, _, .nil => rfl
  | _, _, .s r => congrArg (· + 1) (TR.len r)
  | _, _, .v _ r => congrArg (· + 1) (TR.len r)
def TKs (R : WS) (ts : List Tok) : Prop := ∀ d, Tok.v d ∈ ts → TK R d
theorem TKs_btw {R : WS} {nm : Nat → Str} : ∀ {ds : List Val} {k : Nat}, (∀ d ∈ ds, TK R d) → TKs R (btw nm k ds)
  | [], _, _, d, h => nomatch h
  | e :: r, k, hd, d, h => by
    rcases List.mem_cons.mp h with z | h
    · cases z
    · rcases List.mem_cons.mp h with z | h
      · injection z with z; subst z; exact hd d List.mem_cons_self
      · exact TKs_btw (fun q hq => hd q (List.mem_cons_of_mem _ hq)) d h
theorem TKs_op {R : WS} {N : Nat → List Str} (NM : Named R N) {met : Met} {d : Val} (h : TK R d) : TKs R (opT R.cells N met d).1 := by
  rcases h with ht | ⟨i, c, rfl, hc⟩
  · have e : opT R.cells N met d = ([.s (plainT d)], met) := by cases d <;> first | rfl | exact False.elim ht
    rw [e]
    intro q hq
    rcases List.mem_cons.mp hq with z | z
    · cases z
    · cases z
  · by_cases hm : i ∈ met
    · have e : opT R.cells N met (.ref (i : Int)) = ([.s (unk met i)], met) := by show (if ((i : Nat) : Int).toNat ∈ met then _ else _) = _; rw [Int.toNat_natCast, if_pos hm]
      rw [e]
      intro q hq
      rcases List.mem_cons.mp hq with z | z
      · cases z
      · cases z
    · have e : opT R.cells N met (.ref (i : Int)) = (.s (opC c) :: btw (nmC N c) 0 c.ds ++ [.s (clC c)], met ++ [i]) := by show (if ((i : Nat) : Int).toNat ∈ met then _ else _) = _; rw [Int.toNat_natCast, if_neg hm, hc]
      rw [e]
      intro q hq
      rcases List.mem_append.mp hq with hq | hq
      · rcases List.mem_cons.mp hq with z | hq
        · cases z
        · refine TKs_btw (fun d hd => ?_) q hq
          obtain ⟨p, hp, rfl⟩ := List.mem_map.mp hd
          exact NM.told c (List.mem_of_getElem? hc) p hp
      · rcases List.mem_cons.mp hq with z | z
        · cases z
        · cases z
theorem Good.op {cells : List Cell} {N : Nat → List Str} {met : Met} (g : Good cells met) (d : Val) : Good cells (opT cells N met d).2 := by
  cases d with
  | ref z =>
    show Good cells (if z.toNat ∈ met then _ else _ : List Tok × Met).2
    split
    · exact g
    · rename_i hm
      split
      · rename_i c hc; exact g.push hm (lt_of hc)
      · exact g
  | _ => exact g
theorem Vl.ty {K : PySem.W.Frag} {H : Hp} {v : V} {d : Val} (h : Vl K H v d) : TyX K H v (.type "tuple") := by
  obtain ⟨a, rfl, t⟩ := h
  rcases t with t | ⟨o, its, n, e, c, _⟩
  · exact .base (.tup t)
  · exact .kTuple e c
section
variable {P : Program} {w : World} {K : PySem.W.Frag} {mg : Str → Option Value} {base : Heap} {C CD : Addr}
theorem ok_initD {f : Addr} {fd : FuncData} (F : Fun K "__init__" "Dump.__init__" (sD 0) f fd) (TD : DT K mg CD) : FnOk P w K mg base CX0 1 f fd ["self", "world"] (spInitD K CD) := by
  refine F.ok scInitD (fun vs H Q E h => ?_) (fun cdv A outer s H vs Q E hr h => ?_)
  · obtain ⟨ad, dxd, inst, rfl, _⟩ := h; rfl
  · refine ⟨_, pss_cons (ps_fld (pv 0) (pv 1) rfl) (pss_one (ps_fld (pv 0) (pe_lst pa_nil) rfl)), ?_⟩
    obtain ⟨ad, dxd, inst, rfl, ha, kQ⟩ := h
    refine ⟨_, rfl, _, rfl, ad, CD, dxd, [], rfl, ha, TD.cl, TD.nWorld, by show 0 < 1000; decide, by show 0 ≤ sizeLine; decide, fun ml hml => ?_⟩
    have nam : ad ≠ ml := fun z => by subst z; rw [upd_same] at hml; cases hml
    have hml0 : H ml = none := by rw [upd_ne nam.symm] at hml; exact hml
    refine ⟨_, rfl, ad, CD, dxd, _, rfl, by rw [upd_ne nam]; exact upd_same, TD.cl, TD.nMet, by show 1 < 1000; decide, ?_⟩
    refine kQ _ ml hml0 ⟨?_, ?_⟩ fun q o e nq => ?_
    · rw [upd_same]; rfl
    · rw [upd_ne nam.symm]; exact upd_same
    · rw [upd_ne nq, upd_ne (ne_of_none e hml0), upd_ne nq]; exact e
theorem ok_text {f fO : Addr} {fd fdO : FuncData} (F : Fun K "text" "Dump.text" (sD 1) f fd) (T : WT K mg C) (TD : DT K mg CD) (hlen : mg "len" = none) (hisi : mg "isinstance" = none) (hstr : mg "str" = none) (GO : FnOk P w K mg base CX0 2 fO fdO ["self", "value"] (spOpened K C CD)) (cO : Mc K CD "opened" fO fdO ["self", "value"]) :
    FnOk P w K mg base CX0 3 f fd ["self", "value"] (spText K C CD) := by
  refine F.ok scText (fun vs H Q E h => ?_) (fun cdv A outer s H vs Q E hr h => ?_)
  · obtain ⟨L, R, N, ad, dxd, ml, met, v, d, n, rfl, _⟩ := h; rfl
  · refine ⟨_, pss_cons (ps_set (i := 2) scText.nd rfl (.inl rfl) (pe_lst pa_nil))
      (pss_cons (ps_set (i := 3) scText.nd rfl (.inl rfl) (pe_lst (pa_cons (pv 1) pa_nil)))
      (pss_cons (ps_while PassesOwn.never (pt_cmpR op_gt (pe_callB call_len_seq (by rfl) hlen PySem.boot_len (pa_cons (pv 3) pa_nil)) pe_int (nomark _))
        (pss_cons (ps_set (i := 4) scText.nd rfl (.inl rfl) (pe_bm0 PySem.F.plainAttrs_list PySem.F.slot_list_pop PySem.F.type_list_pop mt_pop (pv 3)))
        (pss_one (ps_if (pt_val (pe_callB call_isi (by rfl) hisi (by decide +kernel) (pa_cons (pv 4) (pa_cons (pe_bltn (v := .ty "str") (by rfl) hstr (by decide +kernel) rfl) pa_nil))))
          (pss_one (ps_expr (pe_bm PySem.F.plainAttrs_list PySem.F.slot_list_append PySem.F.type_list_append mt_append (pv 2) (pa_cons (pv 4) pa_nil))))
          (pss_one (ps_expr (pe_bm PySem.F.plainAttrs_list PySem.F.slot_list_extend PySem.F.type_list_extend mt_extend (pv 3) (pa_cons (pe_revL (pe_meth (pv 0) TD.cl cO.m GO hr cO.b .nil pass0 (pa_cons (pv 4) pa_nil))) pa_nil))))))))
      (pss_one (ps_ret (pe_join pe_str (pv 2)))))), ?_⟩
    obtain ⟨L, R, N, ad, dxd, ml, met, v, d, n, rfl, D, W, NM, out, hv, tk, g, hcl, hn, S, hpl, kQ⟩ := h
    obtain ⟨c0, ex0, hc0⟩ := dV_exp n met d g hn [] Str.empty _ 0 Exp.nil
    rw [Str.append_empty] at ex0
    have hdl := dV_len S n met d g hpl
    obtain ⟨gF, _⟩ := good_dV (N := N) n met d g
    have hwF : wts R.cells (dV R.cells N n met d).2 ≤ 72010 * 100 := Nat.le_trans (wts_le (b := 900) (fun c hc => by show (c.vs.map (·.2)).length ≤ 900; rw [List.length_map]; exact NM.few c hc) _) (Nat.mul_le_mul_left _ (Nat.le_trans gF.len hcl))
    have hc1 : c0 + wts R.cells met ≤ 0 + 2 + wts R.cells (dV R.cells N n met d).2 := hc0
    have hB : c0 ≤ 7300000 := by omega
    have tk0 : TKs R [.v d] := fun q hq => by
      rcases List.mem_cons.mp hq with z | z
      · injection z with z; subst z; exact tk
      · cases z
    have hT : (dV R.cells N n met d).1.length ≤ 7300000 := by omega
    generalize hr1 : (dV R.cells N n met d).1 = tot at *
    generalize hr2 : (dV R.cells N n met d).2 = mF at *
    refine ⟨by show 0 ≤ sizeLine; decide, fun fq hfq => ⟨_, rfl, by show 1 ≤ sizeLine; decide, fun wq hwq => ?_⟩⟩
    have s1 := same_new (o := .lst []) hfq
    have s2 := same_new (o := .lst [v]) hwq
    have hwq0 : H wq = none := s1.free hwq
    have nfw : fq ≠ wq := fun z => by subst z; rw [upd_same] at hwq; cases hwq
    have nfm : fq ≠ ml := fun z => by subst z; rw [D.ls] at hfq; cases hfq
    have nwm : wq ≠ ml := fun z => by subst z; rw [D.ls] at hwq0; cases hwq0
    have sm : Same H (upd (upd H fq (.lst [])) wq (.lst [v])) := fun b o z => s2 b o (s1 b o z)
    refine ⟨fun m σ H' => ∃ (vs : List V) (ts : List Tok) (met' : Met) (fnd : List Str) (t : Str) (o4 : Option V), TR K H' vs ts ∧ Exp R.cells N met' ts t mF m ∧ catS fnd ++ t = tot ∧ H' wq = some (.lst vs.reverse) ∧ H' fq = some (.lst (fnd.map V.str)) ∧ H' ml = some (.lst (metV met')) ∧ But ml H H' ∧ Good R.cells met' ∧ TKs R ts ∧ m + fnd.length ≤ 7300000 ∧
        σ = [some (.ref ad), some v, some (.ref fq), some (.ref wq), o4],
      ⟨c0, [v], [.v d], met, [], tot, none, .v (hv.keep (KeepT.of sm)) .nil, ex0, Str.empty_append _, upd_same, by rw [upd_ne nfw]; exact upd_same, sm _ _ D.ls, But.of sm, g, tk0, hB, rfl⟩, ?_⟩
    rintro m σ H' ⟨vs, ts, met', fnd, t, o4, tr, ex, et, hw, hf, hm, but, g', tks, hmB, rfl⟩
    refine ⟨_, rfl, wq, _, rfl, .inl (SqL.of hw), _, _, rfl, rfl, _, rfl, ?_⟩
    cases ex with
    | nil =>
      cases tr
      refine iteF ?_
      have ef : catS fnd = tot := by rw [← et, Str.append_empty]
      refine ⟨⟨_, rfl⟩, _, rfl, _, fq, fnd, rfl, rfl, .inl (SqL.of hf), ?_, ?_⟩
      · have e0 : ("" : Str).length = 0 := by decide +kernel
        rw [cat_len, ef, e0]
        omega
      · rw [TL.join_eq, show ("" : Str) = Str.empty from by decide +kernel, join_cat, ef]
        exact kQ H' but hm
    | str ex =>
      rename_i x t' ts' m'
      cases tr with
      | s tr =>
        rename_i vs'
        have hrl : (V.str x :: vs').reverse = vs'.reverse ++ [.str x] := List.reverse_cons
        rw [hrl] at hw
        rw [decide_eq_true (show ((((V.str x :: vs').reverse).length : Nat) : Int) > 0 by rw [hrl, List.length_append]; simp only [List.length_singleton]; omega)]
        refine iteT ⟨fun σ' H' => ∃ m2, m2 < m' + 1 ∧ _, fun _ _ z => z, ?_⟩
        refine ⟨_, rfl, .inl ⟨rfl, _, SqL.of hw⟩, wq, _, .str x, rfl, rfl, hw, by rw [List.length_append]; simp, ?_⟩
        rw [List.dropLast_concat]
        have hf1 : (upd H' wq (.lst vs'.reverse)) fq = some (.lst (fnd.map V.str)) := by rw [upd_ne nfw]; exact hf
        have hm1 : (upd H' wq (.lst vs'.reverse)) ml = some (.lst (metV met')) := by rw [upd_ne nwm.symm]; exact hm
        have kt1 : KeepT H' (upd H' wq (.lst vs'.reverse)) := fun b ys e => by rw [upd_ne (fun z => by subst z; rw [hw] at e; cases e)]; exact e
        have but1 : But ml H (upd H' wq (.lst vs'.reverse)) := fun q o e nq => by rw [upd_ne (ne_of_none e hwq0)]; exact but q o e nq
        have hw1 : (upd H' wq (.lst vs'.reverse)) wq = some (.lst vs'.reverse) := upd_same
        have tr1 := tr.keep kt1
        generalize (upd H' wq (.lst vs'.reverse)) = H1 at hf1 hm1 but1 hw1 tr1
        refine ⟨_, rfl, .str x, .ty "str", .type "str", .type "str", true, rfl, .ty _, .base (.str x), kit_ty (by decide +kernel), true, rfl, iteT ?_⟩
        refine ⟨_, rfl, .inl ⟨rfl, _, SqL.of hf1⟩, _, rfl, fq, _, _, rfl, rfl, hf1, by rw [List.length_map, sizeLine_eq]; omega, ?_⟩
        have kt2 : KeepT H1 (upd H1 fq (.lst (fnd.map V.str ++ [.str x]))) := fun b ys e => by rw [upd_ne (fun z => by subst z; rw [hf1] at e; cases e)]; exact e
        refine ⟨m', Nat.lt_succ_self _, vs', ts', met', fnd ++ [x], t', _, tr1.keep kt2, ex, ?_, ?_, ?_, ?_, ?_, g', fun q hq => tks q (List.mem_cons_of_mem _ hq), ?_, rfl⟩
        · rw [cat_snoc, Str.append_assoc]; exact et
        · rw [upd_ne nfw.symm]; exact hw1
        · rw [upd_same, List.map_append]; rfl
        · rw [upd_ne nfm.symm]; exact hm1
        · exact fun q o e nq => by rw [upd_ne (ne_of_none e hfq)]; exact but1 q o e nq
        · rw [List.length_append]; simp only [List.length_singleton]; omega
    | val ex =>
      rename_i d' ts' m'
      cases tr with
      | v hv' tr =>
        rename_i u vs'
        have hrl : (u :: vs').reverse = vs'.reverse ++ [u] := List.reverse_cons
        rw [hrl] at hw
        rw [decide_eq_true (show ((((u :: vs').reverse).length : Nat) : Int) > 0 by rw [hrl, List.length_append]; simp only [List.length_singleton]; omega)]
        refine iteT ⟨fun σ' H' => ∃ m2, m2 < m' + 1 ∧ _, fun _ _ z => z, ?_⟩
        refine ⟨_, rfl, .inl ⟨rfl, _, SqL.of hw⟩, wq, _, u, rfl, rfl, hw, by rw [List.length_append]; simp, ?_⟩
        rw [List.dropLast_concat]
        have hf1 : (upd H' wq (.lst vs'.reverse)) fq = some (.lst (fnd.map V.str)) := by rw [upd_ne nfw]; exact hf
        have hm1 : (upd H' wq (.lst vs'.reverse)) ml = some (.lst (metV met')) := by rw [upd_ne nwm.symm]; exact hm
        have kt1 : KeepT H' (upd H' wq (.lst vs'.reverse)) := fun b ys e => by rw [upd_ne (fun z => by subst z; rw [hw] at e; cases e)]; exact e
        have but1 : But ml H (upd H' wq (.lst vs'.reverse)) := fun q o e nq => by rw [upd_ne (ne_of_none e hwq0)]; exact but q o e nq
        have hw1 : (upd H' wq (.lst vs'.reverse)) wq = some (.lst vs'.reverse) := upd_same
        have tr1 := tr.keep kt1
        have hu1 := hv'.keep kt1
        generalize (upd H' wq (.lst vs'.reverse)) = H1 at hf1 hm1 but1 hw1 tr1 hu1
        refine ⟨_, rfl, u, .ty "str", .type "tuple", .type "str", false, rfl, .ty _, hu1.ty, kit_ty (by decide +kernel), false, rfl, iteF ?_⟩
        have nam : ad ≠ ml := ne_of D.ob D.ls (by intro z; cases z)
        have o1 : H1 ad = some (.ins CD dxd (dfl (L .inst) ml)) := but1 _ _ D.ob nam
        have W1 : WorldAt K C H1 L R := W.keep (fun l hl => by rw [W.at_ l hl]; exact but1 _ _ (W.at_ l hl) (out l hl)) (but1.tups D.ls)
        have tk' : TK R d' := tks d' List.mem_cons_self
        refine ⟨_, rfl, .inl ⟨rfl, _, SqL.of hw1⟩, _, rfl, ad, dxd, _, rfl, o1, d_no (by decide +kernel), u, rfl, L, R, N, ad, dxd, ml, met', u, d', rfl, ⟨o1, hm1⟩, W1, NM, out, hu1, tk', g', by have := g'.len; omega, fun H2 p xs b2 n2 e2 t2 m2 => ?_⟩
        have hw2 : H2 wq = some (.lst vs'.reverse) := b2 _ _ hw1 nwm
        have hf2 : H2 fq = some (.lst (fnd.map V.str)) := b2 _ _ hf1 nfm
        have tr2 := tr1.keep (b2.tups hm1)
        refine ⟨p, xs, rfl, SqL.of e2, fun r hr => ?_⟩
        have s3 := same_new (o := .lst xs.reverse) hr
        have trs := (TR.append tr2 t2).keep (KeepT.of s3)
        have hlen2 := trs.len
        have hst := exp_len ex
        have elen : (vs'.reverse).length + xs.reverse.length ≤ 7300000 := by
          rw [List.length_reverse, List.length_reverse]
          have h1 : (xs ++ vs').length ≤ m' := by rw [hlen2]; exact hst
          rw [List.length_append] at h1
          omega
        refine ⟨wq, r, _, _, rfl, rfl, s3 _ _ hw2, upd_same, by rw [sizeLine_eq]; omega, ?_⟩
        have nrw : wq ≠ r := ne_of_none hw2 hr
        have hr0 : H r = none := by
          cases z : H r with
          | none => rfl
          | some o =>
            exfalso
            by_cases nq : r = ml
            · subst nq; rw [m2] at hr; cases hr
            · have := b2 _ _ (but1 _ _ z nq) nq
              rw [hr] at this; cases this
        have kt3 : KeepT (upd H2 r (.lst xs.reverse)) (upd (upd H2 r (.lst xs.reverse)) wq (.lst (vs'.reverse ++ xs.reverse))) := fun b ys e => by rw [upd_ne (fun z => by subst z; rw [s3 _ _ hw2] at e; cases e)]; exact e
        refine ⟨m', Nat.lt_succ_self _, xs ++ vs', _, _, fnd, t, _, trs.keep kt3, ex, et, ?_, ?_, ?_, ?_, g'.op d', fun q hq => ?_, by omega, rfl⟩
        · rw [upd_same, List.reverse_append]
        · rw [upd_ne nfw]; exact s3 _ _ hf2
        · rw [upd_ne nwm.symm]; exact s3 _ _ m2
        · exact fun q o e nq => by rw [upd_ne (ne_of_none e hwq0)]; exact s3 _ _ (b2 _ _ (but1 _ _ e nq) nq)
        · rcases List.mem_append.mp hq with z | z
          · exact TKs_op NM tk' q z
          · exact tks q (List.mem_cons_of_mem _ z)
end
end My
namespace My
open PySem PySem.Spec PyProof.Rows L2
abbrev sDumped : Stmt := topS 18
abbrev sFits : Stmt := topS 20
abbrev sIsWorld : Stmt := topS 19
theorem scDumped : FnScope ["world", "values", "dump", "value"] ["world", "values"] (defScope (sDumped)) := ⟨rfl, rfl, rfl, by decide +kernel, rfl, by decide +kernel, by decide +kernel⟩
theorem yes_ok {σ : L2.St} {G : Hp} {Q : Bool → Hp → Prop} (h : Q true G) : tYes σ G Q := h
theorem seqM_snoc (f : Met → Val → Str × Met) (d : Val) : ∀ (l : List Val) (met : Met), seqM f met (l ++ [d]) = ((seqM f met l).1 ++ [(f (seqM f met l).2 d).1], (f (seqM f met l).2 d).2)
  | [], met => rfl
  | e :: r, met => by
    show ((f met e).1 :: (seqM f (f met e).2 (r ++ [d])).1, (seqM f (f met e).2 (r ++ [d])).2) = _
    rw [seqM_snoc f d r]
    rfl
def spDumped (K : PySem.W.Frag) (C CD : Addr) : Sp := fun vs H Q _ => ∃ (L : Lab → Addr) (R : WS) (N : Nat → List Str) (a : Addr) (ps : List VV) (n : Nat), vs = [.ref (L .inst), .ref a] ∧ R.cells.length < n ∧ WorldAt K C H L R ∧ Named R N ∧ Shorts R.cells N ∧ R.cells.length ≤ 100 ∧ SqL K H a (ps.map (·.1)) ∧ ps.length ≤ 1000 ∧
  (∀ p ∈ ps, Vl K H p.1 p.2 ∧ TK R p.2 ∧ (plainT p.2).length ≤ 60) ∧
  ∀ H' p, Same H H' → H p = none → H' p = some (.lst ((seqM (dV R.cells N n) [] (ps.map (·.2))).1.map V.str)) → Q (.ref p) H'
section
variable {P : Program} {w : World} {K : PySem.W.Frag} {mg : Str → Option Value} {base : Heap} {C CD : Addr}
theorem ok_dumped {f fI fX : Addr} {fd fdI fdX : FuncData} (F : Fun K "dumped" "dumped" sDumped f fd) (TD : DT K mg CD) (M : Mk K CD fI) (GI : FnOk P w K mg base CX0 1 fI fdI ["self", "world"] (spInitD K CD)) (bI : Binds K fdI ["self", "world"] [])
    (GX : FnOk P w K mg base CX0 3 fX fdX ["self", "value"] (spText K C CD)) (cX : Mc K CD "text" fX fdX ["self", "value"]) : FnOk P w K mg base CX0 4 f fd ["world", "values"] (spDumped K C CD) := by
  refine F.ok scDumped (fun vs H Q E h => ?_) (fun cdv A outer s H vs Q E hr h => ?_)
  · obtain ⟨L, R, N, a, ps, n, rfl, _⟩ := h; rfl
  · refine ⟨_, pss_cons (ps_set (i := 2) scDumped.nd rfl (Or.inr rfl) (pe_make M GI (hr.mono (by decide)) rfl TD.g bI .nil pass0 (pa_cons (pv 0) pa_nil)))
      (pss_one (ps_ret (pe_lc (own := [("value", 3)]) (g := gName 3) (tt := tYes) rfl scDumped.nd (pi_list (pv 1)) (blkOk_by (own := [("value", 3)]) (N := ["world", "values", "dump", "value"]) (sc := defScope sDumped) (by decide +kernel)) (fun _ _ _ _ _ => pg_name (i := 3) scDumped.nd rfl (Or.inl rfl)) (fun _ _ _ _ _ => pts_nil)
        (fun _ _ _ _ _ => pe_meth (pv 2) TD.cl cX.m GX hr cX.b .nil pass0 (pa_cons (pv 3) pa_nil))))), ?_⟩
    obtain ⟨L, R, N, a, ps, n, rfl, hn, W, NM, S, hcl, hS, hl, hv, kQ⟩ := h
    refine ⟨_, rfl, fun ad dxd hx hdx ne => ?_⟩
    have s0 : Same H (upd (upd H dxd (.own ad)) ad (.ins CD dxd [])) := fun b o e => by rw [upd_ne (ne_of_none e hx), upd_ne (ne_of_none e hdx)]; exact e
    refine ⟨ad, dxd, L .inst, rfl, upd_same, fun H1 ml hml D kp => ⟨rfl, ?_⟩⟩
    have hml0 : H ml = none := s0.free hml
    have s1 : Same H H1 := fun b o e => kp b o (s0 b o e) (ne_of_none e hx)
    have out : ∀ l, live R.cells.length l → L l ≠ ml := fun l hl' z => by have := W.at_ l hl'; rw [z, hml0] at this; cases this
    refine ⟨_, rfl, a, rfl, ⟨_, s1.seq hS⟩, fun D1 hD1 => ?_⟩
    have nDm : D1 ≠ ml := fun z => by subst z; rw [D.ls] at hD1; cases hD1
    have hD0 : H D1 = none := s1.free hD1
    let f := dV R.cells N n
    let pre : Nat → List Str × Met := fun i => seqM f [] ((ps.map (·.2)).take i)
    have g0 : Good R.cells ([] : Met) := ⟨List.nodup_nil, fun i h => nomatch h⟩
    have gp : ∀ i, Good R.cells (pre i).2 := fun i => (good_seq (fun met d g => good_dV (N := N) _ met d g) _ _ g0).1
    have sG : ∀ G, But ml H1 G → Same H G := fun G bt b o e => bt b o (s1 b o e) (ne_of_none e hml0)
    refine lc_list (K := K) (a := a) (xs := ps.map (·.1)) (fun i G => But ml H1 G ∧ G D1 = some (.lst ((pre i).1.map V.str)) ∧ G ml = some (.lst (metV (pre i).2))) ⟨But.of (same_new hD1), upd_same, same_new hD1 _ _ D.ls⟩ (fun i G _ h => (sG G h.1).seq hS) ?_ ?_
    · rintro i x G hx ⟨bt, hGD, hGm⟩
      have hi : i < ps.length := by have := lt_of hx; rw [List.length_map] at this; exact this
      have gi := List.getElem?_eq_getElem hi
      rw [get_fst gi] at hx
      obtain rfl := Option.some.inj hx
      have sg := sG G bt
      have WG := W.same sg
      obtain ⟨h1, h2, h3⟩ := hv _ (List.getElem_mem hi)
      have nam : ad ≠ ml := ne_of D.ob D.ls (by intro z; cases z)
      have og : G ad = some (.ins CD dxd (dfl (L .inst) ml)) := bt _ _ D.ob nam
      have hpl : (pre i).1.length = i := by show (seqM f [] _).1.length = i; rw [seq_many, List.length_take, List.length_map]; omega
      refine ⟨rfl, yes_ok (iteT ⟨_, rfl, ad, dxd, _, rfl, og, d_no (by decide +kernel), _, rfl, L, R, N, ad, dxd, ml, (pre i).2, _, _, n, rfl, ⟨og, hGm⟩, WG, NM, out, h1.keep (KeepT.of sg), h2, gp i, hcl, by omega, S, h3, fun H2 b2 m2 => ?_⟩)⟩
      refine ⟨_, b2 _ _ hGD nDm, by rw [List.length_map, hpl, sizeLine_eq]; omega, ?_, ?_, ?_⟩
      · exact fun q o e nq => by
          by_cases z : q = D1
          · subst z; rw [hD1] at e; cases e
          · rw [upd_ne z]; exact b2 _ _ (bt _ _ e nq) nq
      · rw [upd_same]
        have e : (ps.map (·.2)).take (i + 1) = (ps.map (·.2)).take i ++ [ps[i].2] := by
          rw [List.take_succ_eq_append_getElem (by rw [List.length_map]; exact hi), List.getElem_map]
        show _ = some (HO.lst ((seqM f [] ((ps.map (·.2)).take (i + 1))).1.map V.str))
        rw [e, seqM_snoc, List.map_append]
        rfl
      · rw [upd_ne nDm.symm, m2]
        have e : (ps.map (·.2)).take (i + 1) = (ps.map (·.2)).take i ++ [ps[i].2] := by
          rw [List.take_succ_eq_append_getElem (by rw [List.length_map]; exact hi), List.getElem_map]
        show _ = some (HO.lst (metV (seqM f [] ((ps.map (·.2)).take (i + 1))).2))
        rw [e, seqM_snoc]
    · rintro G ⟨bt, hGD, hGm⟩
      rw [List.length_map] at hGD
      have e : (ps.map (·.2)).take ps.length = ps.map (·.2) := List.take_of_length_le (by rw [List.length_map]; exact Nat.le_refl _)
      have hGD : G D1 = some (.lst ((seqM f [] ((ps.map (·.2)).take ps.length)).1.map V.str)) := hGD
      rw [e] at hGD
      exact kQ G D1 (sG G bt) hD0 hGD
end
end My
namespace My
open PySem PySem.Spec PyProof.Rows L2
theorem scFits : FnScope ["world", "cell", "k", "value"] ["world", "cell"] (defScope (sFits)) := ⟨rfl, rfl, rfl, by decide +kernel, rfl, by decide +kernel, by decide +kernel⟩
theorem scIsWorld : FnScope ["world", "address", "cell", "values", "value"] ["world"] (defScope (sIsWorld)) := ⟨rfl, rfl, rfl, by decide +kernel, rfl, by decide +kernel, by decide +kernel⟩
structure ObjOk (R : WS) (sh : Nat) (ps : List VV) (rs : List Str) : Prop where
  ch : Chain R.shapes sh rs
  len : ps.length = rs.length
  kd : ∀ (k : Nat) p j, ps[k]? = some p → Chain R.shapes j (rs.drop (rs.length - (k + 1))) → R.small[j]? = some true → p.2.small = true
structure Sound (R : WS) : Prop where
  objs : ∀ c ∈ R.cells, ∀ sh ps, c = .obj sh ps → ∃ rs, ObjOk R sh ps rs
  told : ∀ c ∈ R.cells, ∀ p ∈ c.vs, TK R p.2
  few : ∀ c ∈ R.cells, c.vs.length ≤ 900
  kinds : R.small.length = R.shapes.length
def spFits (K : PySem.W.Frag) (C : Addr) : Sp := fun vs H Q _ => ∃ (L : Lab → Addr) (R : WS) (ca va : Addr) (sh : Nat) (ps : List VV) (rs : List Str), vs = [.ref (L .inst), .ref ca] ∧ ShAt K C H L R ∧ H ca = some (.lst [.str "object", .int (sh : Int), .ref va]) ∧ H va = some (.lst (ps.map (·.1))) ∧ (∀ p ∈ ps, Vl K H p.1 p.2) ∧ ObjOk R sh ps rs ∧ R.small.length = R.shapes.length ∧
  ∀ H', Same H H' → Q (.bl true) H'
def spIsWorld (K : PySem.W.Frag) (C : Addr) : Sp := fun vs H Q _ => ∃ (L : Lab → Addr) (R : WS), vs = [.ref (L .inst)] ∧ WorldAt K C H L R ∧ Sound R ∧ ∀ H', Same H H' → Q (.bl true) H'
theorem ShAt.same {K : PySem.W.Frag} {C : Addr} {H H' : Hp} {L : Lab → Addr} {R : WS} (h : ShAt K C H L R) (s : Same H H') : ShAt K C H' L R :=
  ⟨fun l hl => s _ _ (h.at_ l hl), fun x hx => by obtain ⟨a, e, q⟩ := h.sh x hx; exact ⟨a, e, q.keep (KeepT.of s)⟩⟩
theorem Chain.drops {S : List Sh} : ∀ {rs : List Str} {i : Nat}, Chain S i rs → ∀ n, ∃ j, Chain S j (rs.drop n)
  | rs, i, h, 0 => ⟨i, h⟩
  | [], i, h, n + 1 => ⟨i, h⟩
  | x :: r, i, h, n + 1 => by
    cases h with
    | step _ _ _ _ cp => exact Chain.drops cp n
section
variable {P : Program} {w : World} {K : PySem.W.Frag} {mg : Str → Option Value} {base : Heap} {C CD : Addr}
theorem ok_fits {f fW fS : Addr} {fd fdW fdS : FuncData} (F : Fun K "fits" "fits" sFits f fd) (T : WT K mg C) (hlen : mg "len" = none) (hen : mg "enumerate" = none) (GS : FnOk P w K mg base CX0 1 fS fdS ["value"] (spSmall K)) (cS : Fc K mg "is_small" fS fdS ["value"])
    (GW : FnOk P w K mg base CX0 1 fW fdW ["self", "shape", "k"] (spOwner K C)) (cW : Mc K C "owner" fW fdW ["self", "shape", "k"]) : FnOk P w K mg base CX0 2 f fd ["world", "cell"] (spFits K C) := by
  refine F.ok scFits (fun vs H Q E h => ?_) (fun cdv A outer s H vs Q E hr h => ?_)
  · obtain ⟨L, R, ca, va, sh, ps, rs, rfl, _⟩ := h; rfl
  · refine ⟨_, pss_cons (ps_if (PW.pt (pw_or (pt_not (pt_chain op_le op_lt pe_int (pe_ix ix_list (pv 1) pe_int (fun _ _ => rfl)) (pe_callB call_len_seq (by rfl) hlen PySem.boot_len (pa_cons (pe_fld (pv 0) rfl) pa_nil))))
          (pw_or1 (pt_cmpR op_ne (pe_callB call_len_seq (by rfl) hlen PySem.boot_len (pa_cons (pe_ix ix_list (pv 1) pe_int (fun _ _ => rfl)) pa_nil)) (pe_op op_add (pe_ix ix_tup (pe_ix ix_list (pe_fld (pv 0) rfl) (pe_ix ix_list (pv 1) pe_int (fun _ _ => rfl)) (fun _ _ => rfl)) pe_int (fun _ _ => rfl)) pe_int) (nomark _))))) (pss_one (ps_ret pe_bl)) pss_nil)
      (pss_cons (ps_for PassesOwn.never rfl (pi_enum (by rfl) hen (pa_cons (pe_ix ix_list (pv 1) pe_int (fun _ _ => rfl)) pa_nil)) (pg_tup rfl (pgs_cons (pg_name (i := 2) scFits.nd rfl (.inl rfl)) (pgs_cons (pg_name (i := 3) scFits.nd rfl (.inl rfl)) pgs_nil)))
        (pss_one (ps_if (PW.pt (pw_and (pt_cmpR op_eq (pe_ix ix_list (pe_fld (pv 0) rfl) (pe_meth (pv 0) T.cl cW.m GW hr cW.b .nil pass0 (pa_cons (pe_ix ix_list (pv 1) pe_int (fun _ _ => rfl)) (pa_cons (pv 2) pa_nil))) (fun _ _ => rfl)) pe_str (nomark _)) (pw_and1 (pt_not (pt_val (pe_call GS hr rfl cS.g cS.kp cS.b .nil pass0 (pa_cons (pv 3) pa_nil))))))) (pss_one (ps_ret pe_bl)) pss_nil)))
      (pss_one (ps_ret pe_bl))), ?_⟩
    obtain ⟨L, R, ca, va, sh, ps, rs, rfl, W, hca, hva, hv, O, hk, kQ⟩ := h
    obtain ⟨s0, hs0, hsl⟩ := O.ch.slot
    obtain ⟨a, ga, ta⟩ := W.shapeAt hs0
    obtain ⟨x, y, ee⟩ := s0.enc2
    rw [ee, hsl] at ta
    refine ⟨_, rfl, ca, _, 1, .int (sh : Int), rfl, rfl, SqL.of hca, atI_nat (j := 1) rfl, 0, (sh : Int), rfl, rfl, true, congrArg V.bl (decide_eq_true (by omega)), iteT ⟨_, rfl, L .inst, C, L .own, _, _, rfl, W.at_ .inst trivial, T.cl, T.nShapes, f_shapes, L .shapes, _, rfl, .inl (SqL.of (W.at_ .shapes trivial)), (sh : Int), _, rfl, rfl, true, congrArg V.bl (decide_eq_true ?_), ?_⟩⟩
    · show (sh : Int) < (((R.shapes.map (·.v)).length : Nat) : Int)
      rw [List.length_map]
      have := O.ch.lt
      omega
    refine iteF ⟨_, rfl, ca, _, 2, .ref va, rfl, rfl, SqL.of hca, atI_nat (j := 2) rfl, va, _, rfl, .inl (SqL.of hva), _, rfl, L .inst, C, L .own, _, _, rfl, W.at_ .inst trivial, T.cl, T.nShapes, f_shapes, _, rfl, ca, _, 1, .int (sh : Int), rfl, rfl, SqL.of hca, atI_nat (j := 1) rfl, L .shapes, _, (sh : Int), _, rfl, rfl, SqL.of (W.at_ .shapes trivial), atI_nat ga, a, _, 2, _, rfl, rfl, ta.sq, atI_nat (j := 2) rfl, _, _, rfl, rfl, rfl, false, ?_, iteF ?_⟩
    · have e : (((ps.map (·.1)).length : Nat) : Int) = (rs.length : Int) - 1 + 1 := by rw [List.length_map, O.len]; omega
      show V.bl (!decide (V.int (((ps.map (·.1)).length : Nat) : Int) = V.int ((rs.length : Int) - 1 + 1))) = V.bl false
      rw [e, decide_eq_true rfl]
      rfl
    refine ⟨_, rfl, ca, _, 2, .ref va, rfl, rfl, SqL.of hca, atI_nat (j := 2) rfl, va, ps.map (·.1), rfl, SqL.of hva, fun i m σ H' => m = ps.length - i ∧ i ≤ ps.length ∧ Same H H' ∧ ∃ o2 o3, σ = [some (.ref (L .inst)), some (.ref ca), o2, o3],
      ⟨_, rfl, Nat.zero_le _, fun _ _ z => z, none, none, rfl⟩, ?_⟩
    rintro i m σ H' ⟨rfl, hi, sm, o2, o3, rfl⟩
    by_cases hlt : i < ps.length
    · have gi := List.getElem?_eq_getElem hlt
      refine .inr ⟨⟨ps.map (·.1), _, SqL.of (sm _ _ hva), get_fst gi⟩, fun σ' H' => ∃ m', m' < ps.length - i ∧ _, fun _ _ z => z, ?_⟩
      rintro y H2 ⟨TT, u, rfl, hT, rfl, hx⟩
      have ex := hx _ (SqL.of (sm _ _ hva))
      rw [get_fst gi] at ex
      obtain rfl := Option.some.inj ex
      have s2 := same_new (o := .tup [.int ((i : Nat) : Int), ps[i].1]) hT
      have sm2 : Same H (upd H' TT (.tup [.int ((i : Nat) : Int), ps[i].1])) := fun b o z => s2 b o (sm b o z)
      refine ⟨TT, _, rfl, SqT.of upd_same, rfl, _, _, rfl, _, _, rfl, rfl, ?_⟩
      generalize (upd H' TT (.tup [.int ((i : Nat) : Int), ps[i].1])) = H3 at sm2
      have W3 := W.same sm2
      have hik : i < rs.length := by rw [← O.len]; exact hlt
      refine ⟨_, rfl, L .inst, C, L .own, _, _, rfl, W3.at_ .inst trivial, T.cl, T.nKinds, f_kinds, _, rfl, L .inst, L .own, _, rfl, W3.at_ .inst trivial, f_no (by decide +kernel), _, rfl, ca, _, 1, .int (sh : Int), rfl, rfl, SqL.of (sm2 _ _ hca), atI_nat (j := 1) rfl, _, rfl, L, R, sh, i, rs, rfl, W3, O.ch, hik, fun j cj => ?_⟩
      have hj : j < R.small.length := by rw [hk]; exact cj.lt
      have gj : (R.small.map fun b => V.str (kw b))[j]? = some (.str (kw R.small[j])) := by rw [List.getElem?_map, List.getElem?_eq_getElem hj]; rfl
      refine ⟨L .kinds, _, (j : Int), _, rfl, rfl, SqL.of (W3.at_ .kinds trivial), atI_nat gj, rfl, _, congrArg V.bl (kw_small _), ?_⟩
      cases hb : R.small[j] with
      | false => exact iteF (iteF ⟨_, by omega, rfl, hlt, sm2, _, _, rfl⟩)
      | true =>
        have hsm : (ps[i]).2.small = true := O.kd i _ j gi cj (by rw [List.getElem?_eq_getElem hj, hb])
        refine iteT ⟨_, rfl, _, _, rfl, (hv _ (List.getElem_mem hlt)).keep (KeepT.of sm2), true, congrArg V.bl hsm, iteF ⟨_, by omega, rfl, hlt, sm2, _, _, rfl⟩⟩
    · have e : i = ps.length := by omega
      subst e
      exact .inl ⟨⟨ps.map (·.1), SqL.of (sm _ _ hva), by rw [List.length_map]; exact Nat.le_refl _⟩, kQ H' sm⟩
def Tr (H : Hp) (D : Addr) (i : Nat) (G : Hp) : Prop := Same H G ∧ G D = some (.lst ((List.replicate i true).map V.bl))
theorem Tr.start {H : Hp} {D : Addr} (n : H D = none) : Tr H D 0 (upd H D (.lst [])) := ⟨same_new n, upd_same⟩
theorem Tr.next {H : Hp} {D : Addr} {i : Nat} {G : Hp} (n : H D = none) (hi : i < 1000) (h : Tr H D i G) : ∃ acc, G D = some (.lst acc) ∧ acc.length < sizeLine ∧ Tr H D (i + 1) (upd G D (.lst (acc ++ [V.bl true]))) := by
  refine ⟨_, h.2, ?_, same_put h.1 n, ?_⟩
  · rw [List.length_map, List.length_replicate, sizeLine_eq]; omega
  · rw [upd_same, List.replicate_succ', List.map_append]; rfl
theorem all_true (n : Nat) : (List.replicate n true).all id = true := by
  rw [List.all_eq_true]
  intro x hx
  exact (List.mem_replicate.mp hx).2
theorem cells_get {L : Lab → Addr} {n i : Nat} (h : i < n) : (cellsD L n)[i]? = some (Sum.inl (i : Int), .ref (L (.cell i))) := by
  unfold cellsD
  rw [List.getElem?_map, List.getElem?_range h]
  rfl
theorem cells_len {L : Lab → Addr} {n : Nat} : (cellsD L n).length = n := by unfold cellsD; rw [List.length_map, List.length_range]
theorem ok_isWorld {f fF : Addr} {fd fdF : FuncData} (F : Fun K "is_world" "is_world" sIsWorld f fd) (T : WT K mg C) (hall : mg "all" = none) (GF : FnOk P w K mg base CX0 2 fF fdF ["world", "cell"] (spFits K C)) (cF : Fc K mg "fits" fF fdF ["world", "cell"]) :
    FnOk P w K mg base CX0 3 f fd ["world"] (spIsWorld K C) := by
  refine F.ok scIsWorld (fun vs H Q E h => ?_) (fun cdv A outer s H vs Q E hr h => ?_)
  · obtain ⟨L, R, rfl, _⟩ := h; rfl
  · refine ⟨_, pss_cons (ps_lock (ps_for PassesOwn.never rfl (pi_keys (pe_fld (pv 0) rfl)) (pg_name (i := 1) scIsWorld.nd rfl (.inl rfl))
        (pss_cons (ps_set (i := 2) scIsWorld.nd rfl (.inl rfl) (pe_dget (hu_of hr) (pe_fld (pv 0) rfl) (pv 1) (fun _ _ => rfl)))
        (pss_cons (ps_set (i := 3) scIsWorld.nd rfl (.inl rfl) (pe_ix ix_list (pv 2) (pe_un un_neg pe_int) (fun _ _ => rfl)))
        (pss_cons (ps_if (pt_not (pt_val (pe_callB (cr_all rfl) (by rfl) hall (by decide +kernel) (pa_cons
            (pe_lc (own := [("value", 4)]) (g := gName 4) (tt := tYes) rfl scIsWorld.nd (pi_list (pv 3)) (blkOk_by (own := [("value", 4)]) (N := ["world", "address", "cell", "values", "value"]) (sc := defScope sIsWorld) (by decide +kernel)) (fun _ _ _ _ _ => pg_name (i := 4) scIsWorld.nd rfl (Or.inl rfl)) (fun _ _ _ _ _ => pts_nil)
              (fun _ _ _ _ _ => pe_or (pe_cmpR op_ne (pe_ix (r := rIxT K) ix_tup (pv 4) pe_int (fun _ _ => rfl)) pe_str (nomark _)) (pe_one (pe_cmp (pc_din (hu_of hr) (pe_ix (r := rIxT K) ix_tup (pv 4) pe_int (fun _ _ => rfl)) (show PE _ _ (tFld K (tVar 0) "cells") from pe_fld (pv 0) rfl)) rfl)))) pa_nil)))) (pss_one (ps_ret pe_bl)) pss_nil)
        (pss_one (ps_if (PW.pt (pw_and (pt_cmpR op_eq (pe_ix ix_list (pv 2) pe_int (fun _ _ => rfl)) pe_str (nomark _)) (pw_and1 (pt_not (pt_val (pe_call GF hr rfl cF.g cF.kp cF.b .nil pass0 (pa_cons (pv 0) (pa_cons (pv 2) pa_nil)))))))) (pss_one (ps_ret pe_bl)) pss_nil)))))))
      (pss_one (ps_ret pe_bl)), ?_⟩
    obtain ⟨L, R, rfl, W, S, kQ⟩ := h
    refine ⟨L .cells, _, W.at_ .cells trivial, trivial, fun od => ?_⟩
    have nl : ∀ m, live R.cells.length m → m ≠ .cells → L m ≠ L .cells := fun m hm hn z => hn (W.inj m .cells hm trivial z)
    have hl : ∀ m, live R.cells.length m → m ≠ .cells → (upd H (L .cells) (.frz od (con C L R .cells))) (L m) = some (con C L R m) := fun m hm hn => by rw [upd_ne (nl m hm hn)]; exact W.at_ m hm
    have hfz : (upd H (L .cells) (.frz od (con C L R .cells))) (L .cells) = some (.frz od (.dK (cellsD L R.cells.length))) := upd_same
    have ktl : KeepT H (upd H (L .cells) (.frz od (con C L R .cells))) := W.tup_put (l := .cells) trivial _
    have back : ∀ H', Same (upd H (L .cells) (.frz od (con C L R .cells))) H' → Same H (upd H' (L .cells) (con C L R .cells)) := fun H' sm b o e => by
      by_cases z : b = L .cells
      · subst z; rw [upd_same, ← W.at_ .cells trivial]; exact e
      · rw [upd_ne z]; exact sm b o (by rw [upd_ne z]; exact e)
    generalize (upd H (L .cells) (.frz od (con C L R .cells))) = Hl at hl hfz ktl back
    have Sh : ShAt K C Hl L R := ⟨fun l hh => hl l (by cases l <;> first | trivial | exact False.elim hh) (by intro z; subst z; exact hh), fun x hx => by obtain ⟨a, e, q⟩ := W.sh x hx; exact ⟨a, e, q.keep ktl⟩⟩
    refine ⟨_, rfl, L .inst, C, L .own, _, _, rfl, hl .inst trivial (by intro z; cases z), T.cl, T.nCells, f_cells, L .cells, od, rfl, .inl ⟨cellsD L R.cells.length, hfz, fun i m σ H' => m = R.cells.length - i ∧ i ≤ R.cells.length ∧ Same Hl H' ∧ ∃ o1 o2 o3 o4, σ = [some (.ref (L .inst)), o1, o2, o3, o4],
      ⟨_, rfl, Nat.zero_le _, fun _ _ z => z, none, none, none, none, rfl⟩, ?_⟩⟩
    rintro i m σ H' ⟨rfl, hi, sm, o1, o2, o3, o4, rfl⟩
    by_cases hlt : i < R.cells.length
    · refine .inr ⟨⟨sm _ _ hfz, by rw [cells_len]; exact hlt⟩, fun σ' H' => ∃ m', m' < R.cells.length - i ∧ _, fun _ _ z => z, ?_⟩
      rintro y H2 ⟨rfl, k, v, hkv, rfl⟩
      rw [cells_get hlt] at hkv
      obtain ⟨rfl, rfl⟩ := Prod.mk.inj (Option.some.inj hkv)
      have gc := List.getElem?_eq_getElem hlt
      have hcm := List.getElem_mem hlt
      generalize R.cells[i] = c at gc hcm
      have nci : (Lab.cell i) ≠ .cells := by intro z; cases z
      have nvi : (Lab.vals i) ≠ .cells := by intro z; cases z
      have hci : Hl (L (.cell i)) = some (c.con L i) := by
        have z := hl (.cell i) hlt nci
        simp only [con, gc] at z
        exact z
      have hvi : Hl (L (.vals i)) = some (.lst (c.vs.map (·.1))) := by
        have z := hl (.vals i) hlt nvi
        simp only [con, gc] at z
        exact z
      refine ⟨_, rfl, L .inst, C, L .own, _, _, rfl, sm _ _ (hl .inst trivial (by intro z; cases z)), T.cl, T.nCells, f_cells, _, rfl, L .cells, _, rfl, .inl ⟨_, Sum.inl (i : Int), .inr ⟨od, sm _ _ hfz⟩, rfl, (valV_cells hlt).symm⟩, ?_⟩
      have hlast : ∃ xs, c.con L i = .lst xs ∧ atI xs (-1) = some (.ref (L (.vals i))) ∧ atI xs 0 = some (.str c.word) := by
        cases c with
        | obj sh ps => exact ⟨_, rfl, rfl, rfl⟩
        | lst ps => exact ⟨_, rfl, rfl, rfl⟩
      obtain ⟨xs, ec, el, e0⟩ := hlast
      have hci' := hci
      rw [ec] at hci
      refine ⟨_, rfl, 1, rfl, L (.cell i), xs, -1, _, rfl, rfl, SqL.of (sm _ _ hci), el, ?_⟩
      refine ⟨_, rfl, L (.vals i), rfl, ⟨_, SqL.of (sm _ _ hvi)⟩, fun D hD => ?_⟩
      refine lc_list (K := K) (a := L (.vals i)) (xs := c.vs.map (·.1)) (Tr H2 D) (Tr.start hD) (fun j G _ h => SqL.of (h.1 _ _ (sm _ _ hvi))) ?_ ?_
      · intro j x G hx h
        have hj : j < c.vs.length := by have := lt_of hx; rw [List.length_map] at this; exact this
        have gj := List.getElem?_eq_getElem hj
        rw [get_fst gj] at hx
        obtain rfl := Option.some.inj hx
        have hmem := List.getElem_mem hj
        have few := S.few c hcm
        have sG : Same Hl G := fun b o z => h.1 b o (sm b o z)
        have hvl : Vl K G (c.vs[j]).1 (c.vs[j]).2 := ((W.vs c hcm _ hmem).keep ktl).keep (KeepT.of sG)
        obtain ⟨a, ea, ta⟩ := hvl
        refine ⟨rfl, yes_ok (iteT ⟨_, rfl, a, _, 0, .str (c.vs[j]).2.word, ea, rfl, ta.sq, atI_nat (j := 0) rfl, rfl, _, congrArg V.bl (by rw [Val.word_ref]), ?_⟩)⟩
        rcases S.told c hcm _ hmem with ht | ⟨i', c', er, hc'⟩
        · have hnr : (c.vs[j]).2.isRef = false := by
            revert ht
            cases (c.vs[j]).2 <;> intro ht <;> first | rfl | exact False.elim ht
          rw [hnr]
          exact iteT (h.next hD (by omega))
        · rw [er] at ta ⊢
          refine iteF ⟨_, rfl, a, _, 1, .int (i' : Int), ea, rfl, ta.sq, atI_nat (j := 1) rfl, _, rfl, L .inst, C, L .own, _, _, rfl, sG _ _ (hl .inst trivial (by intro z; cases z)), T.cl, T.nCells, f_cells, L .cells, some (.ref (L (.cell i'))), rfl, .inl ⟨_, Sum.inl (i' : Int), .inr ⟨od, sG _ _ hfz⟩, rfl, (valV_cells (lt_of hc')).symm⟩, h.next hD (by omega)⟩
      · intro G h
        rw [List.length_map] at h
        have sG : Same Hl G := fun b o z => h.1 b o (sm b o z)
        refine ⟨D, _, rfl, SqL.of h.2, true, congrArg V.bl (all_true _), iteF ?_⟩
        refine ⟨_, rfl, L (.cell i), xs, 0, _, rfl, rfl, SqL.of (sG _ _ hci), e0, rfl, decide (V.str c.word = V.str "object"), rfl, ?_⟩
        cases c with
        | lst ps => exact iteF (iteF ⟨_, by omega, rfl, hlt, sG, _, _, _, _, rfl⟩)
        | obj sh ps =>
          obtain ⟨rs, O⟩ := S.objs _ hcm sh ps rfl
          refine iteT ⟨_, rfl, _, rfl, L, R, L (.cell i), L (.vals i), sh, ps, rs, rfl, Sh.same sG, sG _ _ hci', sG _ _ hvi, fun p hp => ((W.vs _ hcm p hp).keep ktl).keep (KeepT.of sG), O, S.kinds, fun H3 s3 => ⟨true, rfl, iteF ⟨_, by omega, rfl, hlt, fun b o z => s3 b o (sG b o z), _, _, _, _, rfl⟩⟩⟩
    · have e : i = R.cells.length := by omega
      subst e
      exact .inl ⟨⟨sm _ _ hfz, by rw [cells_len]; exact Nat.le_refl _⟩, sm _ _ hfz, kQ _ (back H' sm)⟩
end
end My
namespace L2
open PySem PySem.Spec PyProof.Rows
/-- str(x) of a number, a truth, a text -/
def strOf : V → Option Str
  | .int i => some (toString i : String)
  | .bl b => some (if b then "True" else "False")
  | .str a => some a
  | _ => none
theorem call_str_any {X : Cx} : CallR X (.type "str") (fun xs H Q => ∃ x z, xs = [x] ∧ strOf x = some z ∧ (∀ i, x = .int i → i.natAbs.log2 < 1920) ∧ Q (.str z) H) := by
  intro pins s σ H xs us Q I r h
  obtain ⟨x, z, rfl, e, hl, q⟩ := h
  cases x with
  | int i => obtain rfl := Option.some.inj e; exact call_str_int pins s σ H _ us Q I r ⟨i, rfl, hl i rfl, q⟩
  | str a => obtain rfl := Option.some.inj e; exact SkE.call_str_str pins s σ H _ us Q I r ⟨a, rfl, q⟩
  | bl b =>
    obtain rfl := Option.some.inj e
    obtain ⟨u, rfl, r1⟩ := vals1 r
    cases r1
    exact PySem.P.str_of_bool ⟨.str _, H, I.tok _, ⟨_, by cases b <;> rfl⟩, q⟩
  | _ => cases e
end L2
namespace My
open PySem PySem.Spec PyProof.Rows L2
abbrev sLDump : Stmt := topS 27
theorem scLDump : FnScope ["told", "table", "met", "kind", "rows", "one", "pair"] ["told", "table", "met"] (defScope (sLDump)) := ⟨rfl, rfl, rfl, by decide +kernel, rfl, by decide +kernel, by decide +kernel⟩
/-- the law's own table -/
inductive TLab
  | tab | row (i : Nat) | pair (i k : Nat)
deriving DecidableEq
def rowsV (M : TLab → Addr) (i : Nat) : Cell → List V
  | .lst ps => ps.map (·.1)
  | .obj _ ps => (List.range ps.length).map fun k => V.ref (M (.pair i k))
def pairV (N : Nat → List Str) (k : Nat) : Cell → List V
  | .obj sh ps => match ps[k]? with | some p => [.str ((N sh).getD k Str.empty), p.1] | none => []
  | .lst _ => []
def tabD (ta : Nat → Addr) (n : Nat) : List (Key × V) := (List.range n).map fun (i : Nat) => ((Sum.inl (i : Int) : Key), V.ref (ta i))
def tcon (M : TLab → Addr) (ta : Nat → Addr) (R : WS) (N : Nat → List Str) : TLab → HO
  | .tab => .dK (tabD ta R.cells.length)
  | .row i => .lst ((R.cells[i]?.map (rowsV M i)).getD [])
  | .pair i k => .lst ((R.cells[i]?.map (pairV N k)).getD [])
def tlive (R : WS) : TLab → Prop
  | .tab => True
  | .row i => i < R.cells.length
  | .pair i k => ∃ sh ps, R.cells[i]? = some (.obj sh ps) ∧ k < ps.length
structure TabAt (K : PySem.W.Frag) (H : Hp) (L : Lab → Addr) (M : TLab → Addr) (ta : Nat → Addr) (R : WS) (N : Nat → List Str) : Prop where
  at_ : ∀ l, tlive R l → H (M l) = some (tcon M ta R N l)
  inj : ∀ l m, tlive R l → tlive R m → M l = M m → l = m
  sep : ∀ l m, tlive R l → live R.cells.length m → M l ≠ L m
  tup : ∀ i c, R.cells[i]? = some c → TupAt K H (ta i) [.str c.word, .ref (M (.row i))]
theorem tab_get {ta : Nat → Addr} : ∀ {n i : Nat}, i < n → valV (tabD ta n) (Sum.inl (i : Int)) = some (.ref (ta i)) := fun {n i} h => valV_cells (L := fun l => match l with | .cell i => ta i | _ => ta 0) h
theorem Drawn.tk {R : WS} : ∀ {d : Val}, Drawn R.cells.length d → TK R d
  | .int z, h => by
    obtain ⟨h1, h2⟩ : -40000 ≤ z ∧ z ≤ 999999999 := h
    exact .inl ⟨by omega, by omega⟩
  | .bool _, _ => .inl trivial
  | .nul, _ => .inl trivial
  | .text s, h => .inl (Nat.le_trans h.1 (by decide))
  | .fn z, h => by
    have h' : z = 2 := h
    subst h'
    exact .inl ⟨by decide, by decide⟩
  | .ref z, h => by
    obtain ⟨i, hi, rfl⟩ := h
    exact .inr ⟨i, _, rfl, List.getElem?_eq_getElem hi⟩
theorem Drawn.short {n : Nat} : ∀ {d : Val}, Drawn n d → (plainT d).length ≤ 60
  | .int z, h => by
    obtain ⟨h1, h2⟩ : -40000 ≤ z ∧ z ≤ 999999999 := h
    exact Nat.le_trans (intT_len (Nat.lt_trans (show z.natAbs < 2000000000 by omega) (by decide))) (by decide)
  | .bool b, h => by
    have h' : b = true := h
    subst h'
    show ("true" : Str).length ≤ 60
    decide +kernel
  | .nul, _ => by show ("null" : Str).length ≤ 60; decide +kernel
  | .text s, h => by
    show (("'" : Str) ++ s ++ ("'" : Str)).length ≤ 60
    rw [Str.length_append, Str.length_append]
    have h1 : s.length ≤ 40 := h.1
    have h2 : ("'" : Str).length = 1 := by decide +kernel
    omega
  | .fn z, h => by
    have h' : z = 2 := h
    subst h'
    show (("fun " : Str) ++ intT 2 ++ ("()" : Str)).length ≤ 60
    rw [Str.length_append, Str.length_append]
    have h1 : (intT 2).length ≤ 13 := intT_len (by decide)
    have h2 : ("fun " : Str).length = 4 := by decide +kernel
    have h3 : ("()" : Str).length = 2 := by decide +kernel
    omega
  | .ref z, h => Nat.zero_le _
structure AllDrawn (R : WS) : Prop where
  cells : R.cells.length ≤ 100
  few : ∀ c ∈ R.cells, c.vs.length ≤ 900
  dr : ∀ c ∈ R.cells, ∀ p ∈ c.vs, Drawn R.cells.length p.2
theorem AllDrawn.shorts {R : WS} {N : Nat → List Str} (A : AllDrawn R) (hN : ∀ sh, ∀ x ∈ N sh, x.length ≤ 5) : Shorts R.cells N :=
  ⟨Nat.le_trans A.cells (by decide), fun c hc d hd => by obtain ⟨p, hp, rfl⟩ := List.mem_map.mp hd; exact (A.dr c hc p hp).short, fun c hc k => by
    cases c with
    | lst ps => exact Nat.zero_le _
    | obj sh ps =>
      show (nmOf (N sh) k).length ≤ 10
      by_cases hk : k < (N sh).length
      · rw [nmOf_some hk, Str.length_append]
        have h1 := hN sh _ (List.getElem_mem hk)
        have h2 : (": " : Str).length = 2 := by decide +kernel
        omega
      · unfold nmOf
        split
        · rw [List.getD_eq_getElem?_getD, List.getElem?_eq_none (by omega), Str.length_append]
          have h2 : (": " : Str).length = 2 := by decide +kernel
          have h3 : ((none : Option Str).getD Str.empty).length = 0 := rfl
          omega
        · exact Nat.zero_le _⟩
def spLDump (K : PySem.W.Frag) (n : Nat) : Sp := fun vs H Q _ => ∃ (L : Lab → Addr) (M : TLab → Addr) (ta : Nat → Addr) (R : WS) (N : Nat → List Str) (v : V) (d : Val) (ml : Addr) (met : Met), vs = [v, .ref (M .tab), .ref ml] ∧ TabAt K H L M ta R N ∧ (∀ l, tlive R l → M l ≠ ml) ∧ (∀ c ∈ R.cells, ∀ p ∈ c.vs, Vl K H p.1 p.2) ∧ AllDrawn R ∧ (∀ sh, ∀ x ∈ N sh, x.length ≤ 5) ∧
  (∀ c ∈ R.cells, ∀ sh ps, c = .obj sh ps → (N sh).length = ps.length) ∧ Vl K H v d ∧ Drawn R.cells.length d ∧ H ml = some (.lst (metV met)) ∧ Good R.cells met ∧ R.cells.length < n + met.length ∧
  ∀ H', But ml H H' → H' ml = some (.lst (metV (dV R.cells N n met d).2)) → Q (.str (dV R.cells N n met d).1) H'
theorem take_ds (ps : List VV) {j : Nat} {p : VV} (h : ps[j]? = some p) : (ps.map (·.2)).take (j + 1) = (ps.map (·.2)).take j ++ [p.2] := by
  have hlt : j < (ps.map (·.2)).length := by rw [List.length_map]; exact lt_of h
  rw [List.take_succ_eq_append_getElem hlt, List.getElem_map]
  obtain ⟨h1, h2⟩ := List.getElem?_eq_some_iff.mp h
  rw [h2]
theorem tag_empty : ∀ (ts : List Str) (k : Nat), tagI (fun _ => Str.empty) k ts = ts
  | [], _ => rfl
  | t :: r, k => by show (Str.empty ++ t) :: tagI _ (k + 1) r = _; rw [Str.empty_append, tag_empty r]
theorem tag_snoc (nm : Nat → Str) (t : Str) : ∀ (ts : List Str) (k : Nat), tagI nm k (ts ++ [t]) = tagI nm k ts ++ [nm (k + ts.length) ++ t]
  | [], k => rfl
  | u :: r, k => by
    show (nm k ++ u) :: tagI nm (k + 1) (r ++ [t]) = (nm k ++ u) :: (tagI nm (k + 1) r ++ _)
    rw [tag_snoc nm t r (k + 1), List.length_cons]
    have e : k + 1 + r.length = k + (r.length + 1) := by omega
    rw [e]
theorem tag_len (nm : Nat → Str) : ∀ (ts : List Str) (k : Nat), (tagI nm k ts).length = ts.length
  | [], _ => rfl
  | t :: r, k => congrArg (· + 1) (tag_len nm r (k + 1))
theorem tag_sum (nm : Nat → Str) {b : Nat} (hb : ∀ k, (nm k).length ≤ b) : ∀ (ts : List Str) (k : Nat), ((tagI nm k ts).map (·.length)).sum ≤ (ts.map (·.length)).sum + b * ts.length
  | [], _ => Nat.le_refl _
  | t :: r, k => by
    have ih := tag_sum nm hb r (k + 1)
    have h := hb k
    show (nm k ++ t).length + ((tagI nm (k + 1) r).map (·.length)).sum ≤ (t.length + (r.map (·.length)).sum) + b * (r.length + 1)
    rw [Str.length_append, Nat.mul_succ]
    omega
section
variable {P : Program} {w : World} {K : PySem.W.Frag} {mg : Str → Option Value} {base : Heap}
theorem ok_ldump {f : Addr} {fd : FuncData} (F : Fun K "_law_dump" "_law_dump" sLDump f fd) (c : Fc K mg "_law_dump" f fd ["told", "table", "met"]) (hstr : mg "str" = none) : ∀ n : Nat, FnOk P w K mg base CX0 (n + 1) f fd ["told", "table", "met"] (spLDump K n)
  | 0 => by
    refine F.ok scLDump (fun vs H Q E h => ?_) (fun cdv A outer s H vs Q E hr h => ?_)
    · obtain ⟨L, M, ta, R, N, v, d, ml, met, rfl, _⟩ := h; rfl
    · refine ⟨_, pss_never, ?_⟩
      obtain ⟨L, M, ta, R, N, v, d, ml, met, rfl, TA, out, hvs, A, hN, hNl, hv, hd, hm, g, hl, kQ⟩ := h
      have := g.len
      omega
  | n + 1 => by
    have G := ok_ldump F c hstr n
    refine F.ok scLDump (fun vs H Q E h => ?_) (fun cdv A outer s H vs Q E hr h => ?_)
    · obtain ⟨L, M, ta, R, N, v, d, ml, met, rfl, _⟩ := h; rfl
    · refine ⟨_, pss_cons (ps_if (pt_cmpR op_eq (pe_ix ix_tup (pv 0) pe_int (fun _ _ => rfl)) pe_str (nomark _)) (pss_one (ps_ret (pe_op op_add_str (pe_op op_add_str pe_str (pe_ix ix_tup (pv 0) pe_int (fun _ _ => rfl))) pe_str))) pss_nil)
        (pss_cons (ps_if (pt_cmpR op_ne (pe_ix ix_tup (pv 0) pe_int (fun _ _ => rfl)) pe_str (nomark _)) (pss_one (ps_ret (pe_dget2 (hu_of hr) (pe_disp (pps_cons pe_str pe_str (pps_cons pe_str pe_str (pps_cons pe_str pe_str pps_nil))) (by rfl) (by rfl) (fun z => by cases z) (by decide)) (pe_ix ix_tup (pv 0) pe_int (fun _ _ => rfl))
            (pe_callTy call_str_any (by rfl) hstr (by decide +kernel) (pa_cons (pe_ix ix_tup (pv 0) (pe_un un_neg pe_int) (fun _ _ => rfl)) pa_nil)) ⟨rfl, rfl, rfl, rfl⟩))) pss_nil)
        (pss_cons (ps_if (pt_cmpR op_in_seq (pe_ix ix_tup (pv 0) pe_int (fun _ _ => rfl)) (pv 2) (by rfl)) (pss_one (ps_ret (pe_op op_add_str pe_str (pe_callTy call_str_int (by rfl) hstr (by decide +kernel) (pa_cons (pe_bm PySem.F.plainAttrs_list PySem.F.slot_list_index PySem.F.type_list_index mt_index (pv 2) (pa_cons (pe_ix ix_tup (pv 0) pe_int (fun _ _ => rfl)) pa_nil)) pa_nil))))) pss_nil)
        (pss_cons (ps_expr (pe_bm PySem.F.plainAttrs_list PySem.F.slot_list_append PySem.F.type_list_append mt_append (pv 2) (pa_cons (pe_ix ix_tup (pv 0) pe_int (fun _ _ => rfl)) pa_nil)))
        (pss_cons (ps_asg (pe_dget (hu_of hr) (pv 1) (pe_ix ix_tup (pv 0) pe_int (fun _ _ => rfl)) (fun _ _ => rfl)) (pg_tup rfl (pgs_cons (pg_name (i := 3) scLDump.nd rfl (.inl rfl)) (pgs_cons (pg_name (i := 4) scLDump.nd rfl (.inl rfl)) pgs_nil))))
        (pss_cons (ps_if (pt_cmpR op_eq (pv 3) pe_str (nomark _)) (pss_one (ps_ret (pe_op op_add_str (pe_op op_add_str pe_str (pe_join pe_str
            (pe_lc (own := [("one", 5)]) (g := gName 5) (tt := tYes) rfl scLDump.nd (pi_list (pv 4)) (blkOk_by (own := [("one", 5)]) (N := ["told", "table", "met", "kind", "rows", "one", "pair"]) (sc := defScope sLDump) (by decide +kernel)) (fun _ _ _ _ _ => pg_name (i := 5) scLDump.nd rfl (Or.inl rfl)) (fun _ _ _ _ _ => pts_nil)
              (fun _ _ _ _ _ => pe_call G hr (by rfl) c.g c.kp c.b .nil pass0 (pa_cons (pv 5) (pa_cons (pv 1) (pa_cons (pv 2) pa_nil))))))) pe_str))) pss_nil)
        (pss_one (ps_ret (pe_op op_add_str (pe_op op_add_str pe_str (pe_join pe_str
            (pe_lc (own := [("pair", 6)]) (g := gName 6) (tt := tYes) rfl scLDump.nd (pi_list (pv 4)) (blkOk_by (own := [("pair", 6)]) (N := ["told", "table", "met", "kind", "rows", "one", "pair"]) (sc := defScope sLDump) (by decide +kernel)) (fun _ _ _ _ _ => pg_name (i := 6) scLDump.nd rfl (Or.inl rfl)) (fun _ _ _ _ _ => pts_nil)
              (fun _ _ _ _ _ => pe_op op_add_str (pe_op op_add_str (pe_ix (r := rIxL K) ix_list (pv 6) pe_int (fun _ _ => rfl)) pe_str) (pe_call G hr (by rfl) c.g c.kp c.b .nil pass0 (pa_cons (pe_ix (r := rIxL K) ix_list (pv 6) pe_int (fun _ _ => rfl)) (pa_cons (pv 1) (pa_cons (pv 2) pa_nil)))))))) pe_str)))))))), ?_⟩
      obtain ⟨L, M, ta, R, N, v, d, ml, met, rfl, TA, out, hvs, A, hN, hNl, hv, hd, hm, g, hl, kQ⟩ := h
      obtain ⟨a, rfl, t⟩ := id hv
      refine ⟨_, rfl, a, _, 0, .str d.word, rfl, rfl, t.sq, atI_nat (j := 0) rfl, rfl, _, congrArg V.bl d.word_text, ?_⟩
      have s0 : But ml H H := fun _ _ z _ => z
      cases d with
      | text x =>
        have hx : x.length ≤ 40 := hd.1
        have q1 : ("'" : Str).length = 1 := by decide +kernel
        exact iteT ⟨_, rfl, a, _, 1, .str x, rfl, rfl, t.sq, atI_nat (j := 1) rfl, _, _, rfl, rfl, by rw [sizeLine_eq]; omega, _, _, rfl, rfl, by rw [Str.length_append, sizeLine_eq]; omega, kQ H s0 hm⟩
      | ref z =>
        obtain ⟨i, hi, rfl⟩ := hd
        have hc := List.getElem?_eq_getElem hi
        have hcm := List.getElem_mem hi
        generalize R.cells[i] = cl at hc hcm
        refine iteF ⟨_, rfl, a, _, 0, .str "ref", rfl, rfl, t.sq, atI_nat (j := 0) rfl, rfl, false, rfl, iteF ⟨_, rfl, a, _, 1, .int (i : Int), rfl, rfl, t.sq, atI_nat (j := 1) rfl, _, rfl, ml, metV met, rfl, .inl (SqL.of hm), rfl, flat_met met, _, congrArg V.bl (inV_met met i), ?_⟩⟩
        by_cases hmi : i ∈ met
        · rw [decide_eq_true hmi]
          have eo : dV R.cells N (n + 1) met (.ref (i : Int)) = (unk met i, met) := by unfold dV; rw [Int.toNat_natCast, if_pos hmi]
          rw [eo] at kQ
          have hil : met.idxOf i < met.length := List.idxOf_lt_length_of_mem hmi
          have gi : (metV met)[met.idxOf i]? = some (V.int (i : Int)) := by
            unfold metV
            rw [List.getElem?_map, List.getElem?_eq_getElem hil, List.getElem_idxOf]
            rfl
          refine iteT ⟨_, rfl, .inl ⟨rfl, _, SqL.of hm⟩, _, rfl, a, _, 1, .int (i : Int), rfl, rfl, t.sq, atI_nat (j := 1) rfl, ml, metV met, .int (i : Int), met.idxOf i, .int (i : Int), rfl, rfl, SqL.of hm, rfl, flat_met met, gi, ?_, ?_, ?_⟩
          · show (((i : Nat) : Int) == (i : Int)) = true
            simp
          · intro m z' hlt hz
            unfold metV at hz
            rw [List.getElem?_map] at hz
            cases hq : met[m]? with
            | none => rw [hq] at hz; cases hz
            | some j =>
              rw [hq] at hz
              obtain rfl := Option.some.inj hz
              show (((j : Nat) : Int) == (i : Int)) = false
              have ne : j ≠ i := fun z => by
                subst z
                have := idx_le met m j hq
                omega
              simp
              omega
          · have hml := g.len
            have hc1 := A.cells
            have h1 : (((met.idxOf i : Nat) : Int)).natAbs ≤ 1000 := by omega
            have h3 : (intT ((met.idxOf i : Nat) : Int)).length ≤ 13 := intT_len (Nat.lt_of_le_of_lt h1 (by decide))
            have h4 : ("#" : Str).length = 1 := by decide +kernel
            exact ⟨_, rfl, log_mid (by omega) (by omega), "#", intT ((met.idxOf i : Nat) : Int), rfl, rfl, by rw [sizeLine_eq]; omega, kQ H s0 hm⟩
        · rw [decide_eq_false hmi]
          have g1 := g.push hmi (lt_of hc)
          have eo : dV R.cells N (n + 1) met (.ref (i : Int)) = (opC cl ++ Str.join ", " (tagI (nmC N cl) 0 (seqM (dV R.cells N n) (met ++ [i]) cl.ds).1) ++ clC cl, (seqM (dV R.cells N n) (met ++ [i]) cl.ds).2) := by
            unfold dV; rw [Int.toNat_natCast, if_neg hmi, hc]
          have S := A.shorts hN
          have hwl := seq_len (f := dV R.cells N n) (fun met d g => (good_dV (N := N) n met d g).1) (fun met d g h => dV_len S n met d g h) cl.ds _ g1 (S.sh cl hcm)
          have gF := (good_seq (fun met d g => good_dV (N := N) n met d g) cl.ds _ g1).1
          have hwF : wts R.cells (seqM (dV R.cells N n) (met ++ [i]) cl.ds).2 ≤ 72010 * 100 := Nat.le_trans (wts_le (b := 900) (fun c hc => by show (c.vs.map (·.2)).length ≤ 900; rw [List.length_map]; exact A.few c hc) _) (Nat.mul_le_mul_left _ (Nat.le_trans gF.len A.cells))
          have hdl : cl.ds.length ≤ 900 := by show (cl.vs.map (·.2)).length ≤ 900; rw [List.length_map]; exact A.few cl hcm
          have hsum : ((seqM (dV R.cells N n) (met ++ [i]) cl.ds).1.map (·.length)).sum ≤ 7300000 := by omega
          rw [eo] at kQ
          refine iteF ⟨_, rfl, .inl ⟨rfl, _, SqL.of hm⟩, _, rfl, a, _, 1, .int (i : Int), rfl, rfl, t.sq, atI_nat (j := 1) rfl, ml, _, _, rfl, rfl, hm, by unfold metV; rw [List.length_map, sizeLine_eq]; have := g.len; have := A.cells; omega, ?_⟩
          have b1 : But ml H (upd H ml (.lst (metV met ++ [.int (i : Int)]))) := But.put s0 _
          have l1 : (upd H ml (.lst (metV met ++ [.int (i : Int)]))) ml = some (.lst (metV (met ++ [i]))) := by rw [upd_same]; unfold metV; rw [List.map_append]; rfl
          have kt1 := b1.tups hm
          have isN : ∀ p, (upd H ml (.lst (metV met ++ [.int (i : Int)]))) p = none → H p = none := fun p hp => by
            cases z : H p with
            | none => rfl
            | some o =>
              have nq : p ≠ ml := fun y => by subst y; rw [upd_same] at hp; cases hp
              rw [upd_ne nq, z] at hp
              cases hp
          generalize (upd H ml (.lst (metV met ++ [.int (i : Int)]))) = H1 at b1 l1 kt1 isN
          have TA1 : ∀ G, But ml H1 G → TabAt K G L M ta R N := fun G bt => ⟨fun l hl' => bt _ _ (b1 _ _ (TA.at_ l hl') (out l hl')) (out l hl'), TA.inj, TA.sep, fun j c hj => ((TA.tup j c hj).keep kt1).keep (bt.tups l1)⟩
          have ta1 := t.keep kt1
          have TH := TA1 H1 (fun _ _ z _ => z)
          have htup := TH.tup i cl hc
          refine ⟨_, rfl, _, rfl, a, _, 1, .int (i : Int), rfl, rfl, ta1.sq, atI_nat (j := 1) rfl, M .tab, _, rfl, by rw [← tab_get (ta := ta) hi]; exact DGet.k (k := Sum.inl (i : Int)) (TH.at_ .tab trivial), ta i, _, rfl, htup.sq, rfl, _, _, rfl, _, _, rfl, rfl, ?_⟩
          have hrow : H1 (M (.row i)) = some (.lst (rowsV M i cl)) := by
            have z := TH.at_ (.row i) hi
            simp only [tcon, hc] at z
            exact z
          have pre_len : ∀ j, j ≤ cl.ds.length → ((seqM (dV R.cells N n) (met ++ [i]) (cl.ds.take j)).1).length = j := fun j hj => by rw [seq_many, List.length_take]; omega
          have gp : ∀ j, Good R.cells (seqM (dV R.cells N n) (met ++ [i]) (cl.ds.take j)).2 ∧ (met ++ [i]).length ≤ (seqM (dV R.cells N n) (met ++ [i]) (cl.ds.take j)).2.length := fun j => good_seq (fun met d g => good_dV (N := N) n met d g) _ _ g1
          have hdse : ∀ j p, cl.vs[j]? = some p → cl.ds.take (j + 1) = cl.ds.take j ++ [p.2] := fun j p hj => take_ds cl.vs hj
          have htk : cl.ds.take cl.vs.length = cl.ds := List.take_of_length_le (by show (cl.vs.map (·.2)).length ≤ _; rw [List.length_map]; exact Nat.le_refl _)
          have hdv : cl.ds.length = cl.vs.length := by show (cl.vs.map (·.2)).length = _; rw [List.length_map]
          have fin : ∀ G, But ml H1 G → But ml H G := fun G bt => b1.trans bt
          have hcl2 : R.cells.length < n + (met ++ [i]).length := by rw [List.length_append]; show _ < n + (met.length + 1); omega
          cases cl with
          | lst ps =>
            have hpd : (Cell.lst ps).ds.length = ps.length := List.length_map _
            have hrow' : H1 (M (.row i)) = some (.lst (ps.map (·.1))) := hrow
            refine ⟨_, rfl, rfl, true, rfl, iteT ⟨⟨_, rfl⟩, _, rfl, M (.row i), rfl, ⟨_, SqL.of hrow⟩, fun D hD => ?_⟩⟩
            have nDm : D ≠ ml := fun z => by subst z; rw [l1] at hD; cases hD
            refine lc_list (K := K) (a := M (.row i)) (xs := ps.map (·.1)) (fun j G => But ml H1 G ∧ G D = some (.lst ((seqM (dV R.cells N n) (met ++ [i]) ((Cell.lst ps).ds.take j)).1.map V.str)) ∧ G ml = some (.lst (metV (seqM (dV R.cells N n) (met ++ [i]) ((Cell.lst ps).ds.take j)).2))) ⟨But.of (same_new hD), upd_same, same_new hD _ _ l1⟩ (fun j G _ h => show SqL K G (M (.row i)) (ps.map (·.1)) from SqL.of (h.1 _ _ hrow' (out (.row i) (lt_of hc)))) ?_ ?_
            · rintro j x G hx ⟨bt, hGD, hGm⟩
              have hj : j < ps.length := by have := lt_of hx; rw [List.length_map] at this; exact this
              have gj := List.getElem?_eq_getElem hj
              rw [get_fst gj] at hx
              obtain rfl := Option.some.inj hx
              have hmem : ps[j] ∈ (Cell.lst ps).vs := List.getElem_mem hj
              have ktG : KeepT H G := fun b xs e => bt.tups l1 b xs (kt1 b xs e)
              obtain ⟨gg, gl⟩ := gp j
              refine ⟨rfl, yes_ok (iteT ⟨_, rfl, _, rfl, _, rfl, L, M, ta, R, N, _, _, ml, _, rfl, TA1 G bt, out, fun c hc p hp => (hvs c hc p hp).keep ktG, A, hN, hNl, (hvs _ hcm _ hmem).keep ktG, A.dr _ hcm _ hmem, hGm, gg, by omega, fun H2 b2 m2 => ?_⟩)⟩
              refine ⟨_, b2 _ _ hGD nDm, by rw [List.length_map, pre_len j (by omega), sizeLine_eq]; omega, ?_, ?_, ?_⟩
              · exact fun q o e nq => by
                  by_cases z : q = D
                  · subst z; rw [hD] at e; cases e
                  · rw [upd_ne z]; exact b2 _ _ (bt _ _ e nq) nq
              · rw [upd_same, hdse j _ gj, seqM_snoc, List.map_append]; rfl
              · rw [upd_ne nDm.symm, m2, hdse j _ gj, seqM_snoc]
            · rintro G ⟨bt, hGD, hGm⟩
              have e1 : ((ps.map (·.1)).length) = (Cell.lst ps).vs.length := List.length_map _
              rw [e1, htk] at hGD hGm
              refine ⟨_, D, _, rfl, rfl, .inl (SqL.of hGD), ?_, ?_⟩
              · rw [seq_many, sepLen]; omega
              · have hj := join_len (nmC N (Cell.lst ps)) (S.nm _ hcm) (seqM (dV R.cells N n) (met ++ [i]) (Cell.lst ps).ds).1 0
                rw [seq_many] at hj
                have et : tagI (nmC N (Cell.lst ps)) 0 (seqM (dV R.cells N n) (met ++ [i]) (Cell.lst ps).ds).1 = (seqM (dV R.cells N n) (met ++ [i]) (Cell.lst ps).ds).1 := tag_empty _ 0
                rw [et] at hj kQ
                have h1 : ("[" : Str).length = 1 := by decide +kernel
                have h2 : ("]" : Str).length = 1 := by decide +kernel
                rw [TL.join_eq]
                exact ⟨_, _, rfl, rfl, by rw [sizeLine_eq]; omega, _, _, rfl, rfl, by rw [Str.length_append, sizeLine_eq]; omega, kQ G (fin G bt) hGm⟩
          | obj sh ps =>
            have hpd : (Cell.obj sh ps).ds.length = ps.length := List.length_map _
            have hnl : (N sh).length = ps.length := hNl _ hcm sh ps rfl
            refine ⟨_, rfl, rfl, false, rfl, iteF ⟨⟨_, rfl⟩, _, rfl, M (.row i), rfl, ⟨_, SqL.of hrow⟩, fun D hD => ?_⟩⟩
            have nDm : D ≠ ml := fun z => by subst z; rw [l1] at hD; cases hD
            refine lc_list (K := K) (a := M (.row i)) (xs := rowsV M i (.obj sh ps)) (fun j G => But ml H1 G ∧ G D = some (.lst ((tagI (nmOf (N sh)) 0 (seqM (dV R.cells N n) (met ++ [i]) ((Cell.obj sh ps).ds.take j)).1).map V.str)) ∧ G ml = some (.lst (metV (seqM (dV R.cells N n) (met ++ [i]) ((Cell.obj sh ps).ds.take j)).2))) ⟨But.of (same_new hD), upd_same, same_new hD _ _ l1⟩ (fun j G _ h => SqL.of (h.1 _ _ hrow (out _ (lt_of hc)))) ?_ ?_
            · rintro j x G hx ⟨bt, hGD, hGm⟩
              have hj : j < ps.length := by have := lt_of hx; unfold rowsV at this; rw [List.length_map, List.length_range] at this; exact this
              have gx : (rowsV M i (.obj sh ps))[j]? = some (V.ref (M (.pair i j))) := by
                unfold rowsV
                rw [List.getElem?_map, List.getElem?_range hj]; rfl
              rw [gx] at hx
              obtain rfl := Option.some.inj hx
              have gj := List.getElem?_eq_getElem hj
              have hmem : ps[j] ∈ (Cell.obj sh ps).vs := List.getElem_mem hj
              have ktG : KeepT H G := fun b xs e => bt.tups l1 b xs (kt1 b xs e)
              obtain ⟨gg, gl⟩ := gp j
              have hkN : j < (N sh).length := by rw [hnl]; exact hj
              have hpl : tlive R (.pair i j) := ⟨sh, ps, hc, hj⟩
              have hpr : ∀ G, TabAt K G L M ta R N → G (M (.pair i j)) = some (.lst [.str (N sh)[j], ps[j].1]) := fun G T => by
                have z := T.at_ (.pair i j) hpl
                simp only [tcon, hc, Option.map_some, Option.getD_some, pairV, gj] at z
                rw [List.getD_eq_getElem?_getD, List.getElem?_eq_getElem hkN] at z
                exact z
              have hnj := hN sh _ (List.getElem_mem hkN)
              have hcol : (": " : Str).length = 2 := by decide +kernel
              refine ⟨rfl, yes_ok (iteT ⟨_, rfl, M (.pair i j), _, 0, .str (N sh)[j], rfl, rfl, SqL.of (hpr G (TA1 G bt)), atI_nat (j := 0) rfl, _, _, rfl, rfl, by rw [sizeLine_eq]; omega, _, rfl, M (.pair i j), _, 1, ps[j].1, rfl, rfl, SqL.of (hpr G (TA1 G bt)), atI_nat (j := 1) rfl, _, rfl, _, rfl, L, M, ta, R, N, _, _, ml, _, rfl, TA1 G bt, out, fun c hc p hp => (hvs c hc p hp).keep ktG, A, hN, hNl, (hvs _ hcm _ hmem).keep ktG, A.dr _ hcm _ hmem, hGm, gg, by omega, fun H2 b2 m2 => ?_⟩)⟩
              have hdl2 := dV_len S n (seqM (dV R.cells N n) (met ++ [i]) ((Cell.obj sh ps).ds.take j)).2 ps[j].2 gg (A.dr _ hcm _ hmem).short
              have hg2 := (good_dV (N := N) n (seqM (dV R.cells N n) (met ++ [i]) ((Cell.obj sh ps).ds.take j)).2 ps[j].2 gg).1
              have hw2 : wts R.cells (dV R.cells N n (seqM (dV R.cells N n) (met ++ [i]) ((Cell.obj sh ps).ds.take j)).2 ps[j].2).2 ≤ 72010 * 100 := Nat.le_trans (wts_le (b := 900) (fun c hc => by show (c.vs.map (·.2)).length ≤ 900; rw [List.length_map]; exact A.few c hc) _) (Nat.mul_le_mul_left _ (Nat.le_trans hg2.len A.cells))
              refine ⟨_, _, rfl, rfl, by rw [Str.length_append, sizeLine_eq]; omega, _, b2 _ _ hGD nDm, by rw [List.length_map, tag_len, pre_len j (by omega), sizeLine_eq]; omega, ?_, ?_, ?_⟩
              · exact fun q o e nq => by
                  by_cases z : q = D
                  · subst z; rw [hD] at e; cases e
                  · rw [upd_ne z]; exact b2 _ _ (bt _ _ e nq) nq
              · rw [upd_same, hdse j _ gj, seqM_snoc, tag_snoc, List.map_append, pre_len j (by omega), Nat.zero_add, nmOf_some hkN]; rfl
              · rw [upd_ne nDm.symm, m2, hdse j _ gj, seqM_snoc]
            · rintro G ⟨bt, hGD, hGm⟩
              have e1 : (rowsV M i (.obj sh ps)).length = (Cell.obj sh ps).vs.length := by unfold rowsV; rw [List.length_map, List.length_range]; rfl
              rw [e1, htk] at hGD hGm
              have hts := tag_sum (nmC N (Cell.obj sh ps)) (S.nm _ hcm) (seqM (dV R.cells N n) (met ++ [i]) (Cell.obj sh ps).ds).1 0
              rw [seq_many] at hts
              have hnm : nmOf (N sh) = nmC N (Cell.obj sh ps) := rfl
              rw [hnm] at hGD
              refine ⟨_, D, _, rfl, rfl, .inl (SqL.of hGD), ?_, ?_⟩
              · rw [tag_len, seq_many, sepLen]; omega
              · have hj := join_len (nmC N (Cell.obj sh ps)) (S.nm _ hcm) (seqM (dV R.cells N n) (met ++ [i]) (Cell.obj sh ps).ds).1 0
                rw [seq_many] at hj
                have h1 : ("{" : Str).length = 1 := by decide +kernel
                have h2 : ("}" : Str).length = 1 := by decide +kernel
                rw [TL.join_eq]
                exact ⟨_, _, rfl, rfl, by rw [sizeLine_eq]; omega, _, _, rfl, rfl, by rw [Str.length_append, sizeLine_eq]; omega, kQ G (fin G bt) hGm⟩
      | int m =>
        obtain ⟨m1, m2⟩ : -40000 ≤ m ∧ m ≤ 999999999 := hd
        refine iteF ⟨_, rfl, a, _, 0, .str "int", rfl, rfl, t.sq, atI_nat (j := 0) rfl, rfl, true, rfl, iteT fun dd ndd => ?_⟩
        have sm : Same H (upd (upd H dd (.dK [])) dd (.dK (mergeK [] [(Sum.inr "null", .str "null"), (Sum.inr "bool", .str "true"), (Sum.inr "fun", .str "fun 2()")]))) := same_put (same_new ndd) ndd
        have t1 := t.keep (KeepT.of sm)
        refine ⟨upd_same, [(Sum.inr "null", .str "null"), (Sum.inr "bool", .str "true"), (Sum.inr "fun", .str "fun 2()")], rfl, (by show 3 ≤ 15; decide), dd, rfl, .inl ⟨_, .inl upd_same⟩, _, rfl, a, _, 0, .str "int", rfl, rfl, t1.sq, atI_nat (j := 0) rfl, _, rfl, 1, rfl, a, _, -1, .int m, rfl, rfl, t1.sq, rfl, .int m, _, rfl, rfl, (fun i e => by injection e with e; subst e; exact log_mid (by omega) (by omega)), none, ?_, ?_⟩
        · have e : valV (mergeK [] [((Sum.inr "null" : Key), V.str "null"), (Sum.inr "bool", .str "true"), (Sum.inr "fun", .str "fun 2()")]) (Sum.inr "int" : Key) = none := by rfl
          rw [← e]
          exact DGet.k (k := Sum.inr "int") upd_same
        · exact kQ _ (But.of sm) (sm _ _ hm)
      | bool b =>
        obtain rfl : b = true := hd
        refine iteF ⟨_, rfl, a, _, 0, .str "bool", rfl, rfl, t.sq, atI_nat (j := 0) rfl, rfl, true, rfl, iteT fun dd ndd => ?_⟩
        have sm : Same H (upd (upd H dd (.dK [])) dd (.dK (mergeK [] [(Sum.inr "null", .str "null"), (Sum.inr "bool", .str "true"), (Sum.inr "fun", .str "fun 2()")]))) := same_put (same_new ndd) ndd
        have t1 := t.keep (KeepT.of sm)
        refine ⟨upd_same, [(Sum.inr "null", .str "null"), (Sum.inr "bool", .str "true"), (Sum.inr "fun", .str "fun 2()")], rfl, (by show 3 ≤ 15; decide), dd, rfl, .inl ⟨_, .inl upd_same⟩, _, rfl, a, _, 0, .str "bool", rfl, rfl, t1.sq, atI_nat (j := 0) rfl, _, rfl, 1, rfl, a, _, -1, .bl true, rfl, rfl, t1.sq, rfl, .bl true, _, rfl, rfl, (fun i e => nomatch e), some (.str "true"), ?_, ?_⟩
        · have e : valV (mergeK [] [((Sum.inr "null" : Key), V.str "null"), (Sum.inr "bool", .str "true"), (Sum.inr "fun", .str "fun 2()")]) (Sum.inr "bool" : Key) = some (.str "true") := by rfl
          rw [← e]
          exact DGet.k (k := Sum.inr "bool") upd_same
        · exact kQ _ (But.of sm) (sm _ _ hm)
      | nul =>
        refine iteF ⟨_, rfl, a, _, 0, .str "null", rfl, rfl, t.sq, atI_nat (j := 0) rfl, rfl, true, rfl, iteT fun dd ndd => ?_⟩
        have sm : Same H (upd (upd H dd (.dK [])) dd (.dK (mergeK [] [(Sum.inr "null", .str "null"), (Sum.inr "bool", .str "true"), (Sum.inr "fun", .str "fun 2()")]))) := same_put (same_new ndd) ndd
        have t1 := t.keep (KeepT.of sm)
        refine ⟨upd_same, [(Sum.inr "null", .str "null"), (Sum.inr "bool", .str "true"), (Sum.inr "fun", .str "fun 2()")], rfl, (by show 3 ≤ 15; decide), dd, rfl, .inl ⟨_, .inl upd_same⟩, _, rfl, a, _, 0, .str "null", rfl, rfl, t1.sq, atI_nat (j := 0) rfl, _, rfl, 1, rfl, a, _, -1, .str "null", rfl, rfl, t1.sq, rfl, .str "null", _, rfl, rfl, (fun i e => nomatch e), some (.str "null"), ?_, ?_⟩
        · have e : valV (mergeK [] [((Sum.inr "null" : Key), V.str "null"), (Sum.inr "bool", .str "true"), (Sum.inr "fun", .str "fun 2()")]) (Sum.inr "null" : Key) = some (.str "null") := by rfl
          rw [← e]
          exact DGet.k (k := Sum.inr "null") upd_same
        · exact kQ _ (But.of sm) (sm _ _ hm)
      | fn m =>
        obtain rfl : m = 2 := hd
        refine iteF ⟨_, rfl, a, _, 0, .str "fun", rfl, rfl, t.sq, atI_nat (j := 0) rfl, rfl, true, rfl, iteT fun dd ndd => ?_⟩
        have sm : Same H (upd (upd H dd (.dK [])) dd (.dK (mergeK [] [(Sum.inr "null", .str "null"), (Sum.inr "bool", .str "true"), (Sum.inr "fun", .str "fun 2()")]))) := same_put (same_new ndd) ndd
        have t1 := t.keep (KeepT.of sm)
        refine ⟨upd_same, [(Sum.inr "null", .str "null"), (Sum.inr "bool", .str "true"), (Sum.inr "fun", .str "fun 2()")], rfl, (by show 3 ≤ 15; decide), dd, rfl, .inl ⟨_, .inl upd_same⟩, _, rfl, a, _, 0, .str "fun", rfl, rfl, t1.sq, atI_nat (j := 0) rfl, _, rfl, 1, rfl, a, _, -1, .int 2, rfl, rfl, t1.sq, rfl, .int 2, _, rfl, rfl, (fun i e => by injection e with e; subst e; decide), some (.str "fun 2()"), ?_, ?_⟩
        · have e : valV (mergeK [] [((Sum.inr "null" : Key), V.str "null"), (Sum.inr "bool", .str "true"), (Sum.inr "fun", .str "fun 2()")]) (Sum.inr "fun" : Key) = some (.str "fun 2()") := by rfl
          rw [← e]
          exact DGet.k (k := Sum.inr "fun") upd_same
        · have e : (dV R.cells N (n + 1) met (.fn 2)).1 = "fun 2()" := by show ("fun " : Str) ++ intT 2 ++ ("()" : Str) = "fun 2()"; decide +kernel
          have q := kQ _ (But.of sm) (sm _ _ hm)
          rw [e] at q
          exact q
end
end My
namespace My
open PySem PySem.Spec PyProof.Rows L2
def Res.ok : Res → Prop
  | .val d => d.ok
  | .thrown x => PyData.strOk x = true
theorem Res.shaped : ∀ r : Res, r.ok → SeqAt.shaped r.data = true
  | .val d, h => d.shaped h
  | .thrown x, h => by
    have h' : PyData.strOk x = true := h
    have z := SeqAt.canLay_of_shaped (Val.shaped (.text x) h)
    have w : PyData.strOk ("thrown" : Str) = true := by decide +kernel
    have dd := argDeep (.text x)
    refine Bool.and_eq_true_iff.mpr ⟨?_, decide_eq_true ?_⟩
    · show PyData.canLay0 (.tuple [.str "thrown", (Val.text x).data]) = true
      simp only [PyData.canLay0, PyData.canLayAll0, w, Bool.true_and, Bool.and_true]
      exact z
    · show PyData.depth (.tuple [.str "thrown", (Val.text x).data]) ≤ 64
      unfold Val.data
      simp only [PyData.depth, PyData.depthAll]
      omega
section
variable {K : PySem.W.Frag} {C CT : Addr} {H : Hp} {L : Lab → Addr} {R : WS} {Q : VK} {E : XK}
theorem thr_of {x : Str} (hC : Caught CT Q E) (k : ∀ H' v, Same H H' → ThrAt K H' v x → Q v H') : Res.then_ K CT H Q E (.thrown x) := fun H' d v sm nd hv => by
  refine hC d v _ upd_same fun t nt => ?_
  have s1 := same_new (o := .xd [(("value" : Str), v)]) nd
  have s2 := same_new (o := .tup [.str "thrown", v]) nt
  exact k _ _ (fun b o z => s2 b o (s1 b o (sm b o z))) ⟨t, v, rfl, .inl upd_same, (hv.keep (KeepT.of s1)).keep (KeepT.of s2)⟩
theorem thr_at {H1 : Hp} {x : Str} (hC : Caught CT Q E) (s : Same H H1) (k : ∀ H' v, Same H H' → ThrAt K H' v x → Q v H') : Res.then_ K CT H1 Q E (.thrown x) := thr_of hC fun H' v sm h => k H' v (fun b o z => sm b o (s b o z)) h
/-- a deed with a list -/
theorem told_list {what : Str} {ar : Addr} {as : List V} (W : WorldAt K C H L R) (har : H ar = some (.lst as)) (out : ∀ m, live R.cells.length m → L m ≠ ar) (hw : (what = "item" ∨ what = "setitem") ∨ what = "len" ∨ what = "push")
    (h : ∀ E H1, Caught CT Q E → Same H H1 → (what = "item" ∧ dItem K C CT L R as H1 Q E) ∨ (what = "setitem" ∧ dSetitem K C CT L R as H1 Q E) ∨ (what = "len" ∧ dLen K C CT L R as H1 Q E) ∨ (what = "push" ∧ dPush K C CT L R as H1 Q E)) :
    spTold K C CT [.ref (L .inst), .str what, .non, .ref ar] H Q E :=
  ⟨L, R, [.str what, .non, .ref ar], rfl, rfl, W, fun E hC => ⟨L, R, what, .non, ar, as, rfl, W, har, .inr (.inr (.inl ⟨hw, fun H1 sm => ⟨L, R, what, ar, as, rfl, W.same sm, sm _ _ har, out, h E H1 hC sm⟩⟩))⟩⟩
theorem told_push {v : V} {i : Nat} {ps : List VV} {p : VV} {ar : Addr} (W : WorldAt K C H L R) (har : H ar = some (.lst [v, p.1])) (out : ∀ m, live R.cells.length m → L m ≠ ar) (hv : Vl K H v (.ref (i : Int))) (hc : R.cells[i]? = some (.lst ps)) (hp : Vl K H p.1 p.2) (hl : ps.length < 30000)
    (k : ∀ H', WorldAt K C H' L (R.setCell i (.lst (ps ++ [p]))) → Kept R.cells.length L H H' → Q v H') : spTold K C CT [.ref (L .inst), .str "push", .non, .ref ar] H Q E :=
  told_list W har out (.inr (.inr rfl)) fun E H1 hC sm => .inr (.inr (.inr ⟨rfl, v, i, ps, p, rfl, hv.keep (KeepT.of sm), hc, hp.keep (KeepT.of sm), fun _ H' W' K' => k H' W' (Kept.trans (Kept.of sm) K'), fun z => by omega⟩))
theorem told_pushLong {v : V} {i : Nat} {ps : List VV} {p : VV} {ar : Addr} (W : WorldAt K C H L R) (har : H ar = some (.lst [v, p.1])) (out : ∀ m, live R.cells.length m → L m ≠ ar) (hv : Vl K H v (.ref (i : Int))) (hc : R.cells[i]? = some (.lst ps)) (hp : Vl K H p.1 p.2) (hl : 30000 ≤ ps.length)
    (k : ∀ H' v, Same H H' → ThrAt K H' v "long" → Q v H') : spTold K C CT [.ref (L .inst), .str "push", .non, .ref ar] H Q E :=
  told_list W har out (.inr (.inr rfl)) fun E H1 hC sm => .inr (.inr (.inr ⟨rfl, v, i, ps, p, rfl, hv.keep (KeepT.of sm), hc, hp.keep (KeepT.of sm), fun z => by omega, fun _ => thr_at hC sm k⟩))
theorem told_len {v : V} {i : Nat} {ps : List VV} {ar : Addr} (W : WorldAt K C H L R) (har : H ar = some (.lst [v])) (out : ∀ m, live R.cells.length m → L m ≠ ar) (hv : Vl K H v (.ref (i : Int))) (hc : R.cells[i]? = some (.lst ps)) (k : ∀ H' u, Same H H' → Vl K H' u (.int (ps.length : Int)) → Q u H') :
    spTold K C CT [.ref (L .inst), .str "len", .non, .ref ar] H Q E :=
  told_list W har out (.inr (.inl rfl)) fun E H1 hC sm => .inr (.inr (.inl ⟨rfl, v, _, rfl, hv.keep (KeepT.of sm), In_ref hc, rfl, .inr ⟨i, ps, rfl, hc, fun H' u s q => k H' u (fun b o z => s b o (sm b o z)) q⟩⟩))
theorem told_lenKind {v : V} {i : Nat} {sh : Nat} {ps : List VV} {ar : Addr} (W : WorldAt K C H L R) (har : H ar = some (.lst [v])) (out : ∀ m, live R.cells.length m → L m ≠ ar) (hv : Vl K H v (.ref (i : Int))) (hc : R.cells[i]? = some (.obj sh ps)) (k : ∀ H' u, Same H H' → ThrAt K H' u "kind" → Q u H') :
    spTold K C CT [.ref (L .inst), .str "len", .non, .ref ar] H Q E :=
  told_list W har out (.inr (.inl rfl)) fun E H1 hC sm => .inr (.inr (.inl ⟨rfl, v, _, rfl, hv.keep (KeepT.of sm), In_ref hc, rfl, .inl ⟨by rw [kindOf_ref hc]; show ("object" : Str) ≠ "list"; decide +kernel, thr_at hC sm k⟩⟩))
theorem told_item {v u : V} {i : Nat} {n : Int} {ps : List VV} {ar : Addr} (W : WorldAt K C H L R) (har : H ar = some (.lst [v, u])) (out : ∀ m, live R.cells.length m → L m ≠ ar) (hv : Vl K H v (.ref (i : Int))) (hc : R.cells[i]? = some (.lst ps)) (hu : Vl K H u (.int n))
    (k1 : ∀ (j : Nat) p, n = (j : Int) → ps[j]? = some p → ∀ H', Same H H' → Q p.1 H') (k2 : ¬ (0 ≤ n ∧ n < (ps.length : Int)) → ∀ H' u, Same H H' → ThrAt K H' u "index" → Q u H') : spTold K C CT [.ref (L .inst), .str "item", .non, .ref ar] H Q E :=
  told_list W har out (.inl (.inl rfl)) fun E H1 hC sm => .inl ⟨rfl, v, u, _, _, rfl, hv.keep (KeepT.of sm), In_ref hc, hu.keep (KeepT.of sm), .inr ⟨i, ps, n, rfl, hc, rfl, fun j p e1 e2 H' s => k1 j p e1 e2 H' (fun b o z => s b o (sm b o z)), fun z => thr_at hC sm (k2 z)⟩⟩
theorem told_itemKind {v u : V} {i sh : Nat} {e : Val} {ps : List VV} {ar : Addr} (W : WorldAt K C H L R) (har : H ar = some (.lst [v, u])) (out : ∀ m, live R.cells.length m → L m ≠ ar) (hv : Vl K H v (.ref (i : Int))) (hc : R.cells[i]? = some (.obj sh ps)) (hu : Vl K H u e)
    (k : ∀ H' u, Same H H' → ThrAt K H' u "kind" → Q u H') : spTold K C CT [.ref (L .inst), .str "item", .non, .ref ar] H Q E :=
  told_list W har out (.inl (.inl rfl)) fun E H1 hC sm => .inl ⟨rfl, v, u, _, _, rfl, hv.keep (KeepT.of sm), In_ref hc, hu.keep (KeepT.of sm), .inl ⟨.inl (by rw [kindOf_ref hc]; show ("object" : Str) ≠ "list"; decide +kernel), thr_at hC sm k⟩⟩
theorem told_setitem {v u : V} {i : Nat} {n : Int} {ps : List VV} {p : VV} {ar : Addr} (W : WorldAt K C H L R) (har : H ar = some (.lst [v, u, p.1])) (out : ∀ m, live R.cells.length m → L m ≠ ar) (hv : Vl K H v (.ref (i : Int))) (hc : R.cells[i]? = some (.lst ps)) (hu : Vl K H u (.int n)) (hp : Vl K H p.1 p.2)
    (k1 : ∀ j : Nat, n = (j : Int) → j < ps.length → ∀ H' nv, WorldAt K C H' L (R.setCell i (.lst (ps.set j p))) → Kept R.cells.length L H H' → Vl K H' nv .nul → Q nv H') (k2 : ¬ (0 ≤ n ∧ n < (ps.length : Int)) → ∀ H' u, Same H H' → ThrAt K H' u "index" → Q u H') :
    spTold K C CT [.ref (L .inst), .str "setitem", .non, .ref ar] H Q E :=
  told_list W har out (.inl (.inr rfl)) fun E H1 hC sm => .inr (.inl ⟨rfl, v, u, i, ps, n, p, rfl, hv.keep (KeepT.of sm), hc, hu.keep (KeepT.of sm), hp.keep (KeepT.of sm), fun j e1 e2 H' nv W' K' q => k1 j e1 e2 H' nv W' (Kept.trans (Kept.of sm) K') q, fun z => thr_at hC sm (k2 z)⟩)
theorem told_getKind {v : V} {x : Str} {i : Nat} {ps : List VV} {ar : Addr} (W : WorldAt K C H L R) (har : H ar = some (.lst [v])) (hv : Vl K H v (.ref (i : Int))) (hc : R.cells[i]? = some (.lst ps)) (k : ∀ H' u, Same H H' → ThrAt K H' u "kind" → Q u H') :
    spTold K C CT [.ref (L .inst), .str "get", .str x, .ref ar] H Q E :=
  ⟨L, R, _, rfl, rfl, W, fun E hC => ⟨L, R, _, _, ar, _, rfl, W, har, .inl ⟨rfl, v, x, rfl, rfl, L, R, v, _, x, rfl, W, hv, In_ref hc, .inl ⟨by
    show (match R.cells[((i : Nat) : Int).toNat]? with | some (.obj sh _) => V.int (sh : Int) | _ => .non) = _
    rw [Int.toNat_natCast, hc], thr_of hC k⟩⟩⟩⟩
theorem told_get {v : V} {x : Str} {i sh : Nat} {ps : List VV} {rs : List Str} {ar : Addr} (W : WorldAt K C H L R) (har : H ar = some (.lst [v])) (hv : Vl K H v (.ref (i : Int))) (hc : R.cells[i]? = some (.obj sh ps)) (ch : Chain R.shapes sh rs) (hl : ps.length = rs.length)
    (k1 : slotR rs x = none → ∀ H' u, Same H H' → Vl K H' u .nul → Q u H') (k2 : ∀ k p, slotR rs x = some k → ps[k]? = some p → Q p.1 H) : spTold K C CT [.ref (L .inst), .str "get", .str x, .ref ar] H Q E :=
  ⟨L, R, _, rfl, rfl, W, fun E hC => ⟨L, R, _, _, ar, _, rfl, W, har, .inl ⟨rfl, v, x, rfl, rfl, L, R, v, _, x, rfl, W, hv, In_ref hc, .inr ⟨i, sh, ps, rs, rfl, hc, ch, hl, k1, k2⟩⟩⟩⟩
theorem told_put {v : V} {x : Str} {i sh : Nat} {ps : List VV} {rs : List Str} {p : VV} {ar : Addr} (W : WorldAt K C H L R) (har : H ar = some (.lst [v, p.1])) (hv : Vl K H v (.ref (i : Int))) (hc : R.cells[i]? = some (.obj sh ps)) (ch : Chain R.shapes sh rs) (hl : ps.length = rs.length) (hp : Vl K H p.1 p.2)
    (b0 : R.small.length = R.shapes.length) (b1 : R.widened.length < 1000) (b2 : R.shapes.length < 1000) (b3 : R.kids.length < 1000) (b4 : rs.length < 1000) (b5 : ∀ j, R.kid sh x = some j → j < R.small.length)
    (k1 : ∀ k, slotR rs x = some k → ∀ j H', Chain R.shapes j (rs.drop (rs.length - (k + 1))) → WorldAt K C H' L ((R.note j p.2).setCell i (.obj sh (ps.set k p))) → Kept R.cells.length L H H' → Q v H')
    (k2 : slotR rs x = none → (∀ j, R.kid sh x = some j → ∀ H', WorldAt K C H' L ((R.note j p.2).setCell i (.obj j (ps ++ [p]))) → Kept R.cells.length L H H' → Q v H') ∧
      (R.kid sh x = none → ∀ H' v', WorldAt K C H' L ((R.addShape v' sh x rs.length p.2).setCell i (.obj R.shapes.length (ps ++ [p]))) → Kept R.cells.length L H H' → Q v H')) : spTold K C CT [.ref (L .inst), .str "put", .str x, .ref ar] H Q E :=
  ⟨L, R, _, rfl, rfl, W, fun E hC => ⟨L, R, _, _, ar, _, rfl, W, har, .inr (.inl ⟨rfl, v, p.1, x, rfl, rfl, L, R, v, x, i, sh, ps, p, rs, rfl, W, hv, hc, ch, hl, hp, b0, b1, b2, b3, b4, b5, k1, k2⟩)⟩⟩
theorem told_not {v : V} {d : Val} {ar : Addr} (W : WorldAt K C H L R) (har : H ar = some (.lst [v])) (hv : Vl K H v d) (k1 : ∀ b, d = .bool b → ∀ H' u, Same H H' → Vl K H' u (.bool !b) → Q u H') (k2 : d.isBool = false → ∀ H' u, Same H H' → ThrAt K H' u "kind" → Q u H') :
    spTold K C CT [.ref (L .inst), .str "!", .non, .ref ar] H Q E :=
  ⟨L, R, _, rfl, rfl, W, fun E hC => ⟨L, R, _, _, ar, _, rfl, W, har, .inr (.inr (.inr (.inl ⟨rfl, v, d, rfl, hv, by
    cases d with
    | bool b => exact .inl ⟨b, rfl, k1 b rfl⟩
    | _ => exact .inr ⟨rfl, thr_of hC (k2 rfl)⟩⟩)))⟩⟩
theorem told_eq {v u : V} {d e : Val} {ar : Addr} (W : WorldAt K C H L R) (har : H ar = some (.lst [v, u])) (hv : Vl K H v d) (hu : Vl K H u e) (od : d.ok) (oe : e.ok) (k : ∀ H' r, Same H H' → Vl K H' r (.bool (decide (d = e))) → Q r H') :
    spTold K C CT [.ref (L .inst), .str "==", .non, .ref ar] H Q E :=
  ⟨L, R, _, rfl, rfl, W, fun E hC => ⟨L, R, _, _, ar, _, rfl, W, har, .inr (.inr (.inr (.inr (.inl ⟨rfl, v, u, d, e, rfl, hv, hu, od, oe, k⟩))))⟩⟩
/-- what a deed with a sign gives, by a value or a tuple that tells what was thrown -/
def ResAt (K : PySem.W.Frag) (H : Hp) (v : V) : Res → Prop
  | .val d => Vl K H v d
  | .thrown x => ThrAt K H v x
theorem ResAt.dp {K : PySem.W.Frag} {H : Hp} {v : V} : ∀ {r : Res}, ResAt K H v r → Dp K H v r.data
  | .val _, h => Vl.dp h
  | .thrown _, h => ThrAt.dp h
theorem told_sign {v u : V} {d e : Val} {sg : Str} {ar : Addr} (W : WorldAt K C H L R) (har : H ar = some (.lst [v, u])) (hsg : (sg = "+" ∨ sg = "-") ∨ sg = "*" ∨ sg = "<") (hv : Vl K H v d) (hu : Vl K H u e) (md : d.mid) (me : e.mid) (k : ∀ H' r, Same H H' → ResAt K H' r (join sg d e) → Q r H') :
    spTold K C CT [.ref (L .inst), .str sg, .non, .ref ar] H Q E :=
  ⟨L, R, _, rfl, rfl, W, fun E hC => ⟨L, R, _, _, ar, _, rfl, W, har, .inr (.inr (.inr (.inr (.inr ⟨hsg, v, u, rfl, fun H1 sm => ⟨sg, v, u, d, e, rfl, by rcases hsg with (z | z) | z | z <;> simp [z], hv.keep (KeepT.of sm), hu.keep (KeepT.of sm), md, me, by
    cases hj : join sg d e with
    | val r => exact fun H' v' s q => k H' v' (fun b o z => s b o (sm b o z)) (by rw [hj]; exact q)
    | thrown x => exact thr_at hC sm (fun H' v' s q => k H' v' s (by rw [hj]; exact q))⟩⟩))))⟩⟩
end
end My
namespace My
open PySem PySem.Spec PyProof.Rows L2
abbrev sFull : Stmt := topS 29
theorem scFull : FnScope ["wide", "row"] [] (defScope (sFull)) := ⟨rfl, rfl, rfl, by decide +kernel, rfl, by decide +kernel, by decide +kernel⟩
def spFull : Sp := fun vs H Q _ => vs = [] ∧ ∀ H', Same H H' → Q (.bl true) H'
theorem rep_flat {α : Type} (x : α) : ∀ n : Nat, (List.replicate n [x]).flatten = List.replicate n x
  | 0 => rfl
  | n + 1 => by rw [List.replicate_succ, List.flatten_cons, rep_flat x n]; rfl
theorem eqv_same (r : Res) (h : r.ok) : PyData.eqv r.data r.data = true := SeqAt.eqv_refl _ (SeqAt.canLay_of_shaped (r.shaped h))
section
variable {P : Program} {w : World} {K : PySem.W.Frag} {mg : Str → Option Value} {base : Heap} {C CT : Addr}
theorem ok_full {f fI fN fT : Addr} {fd fdI fdN fdT : FuncData} (F : Fun K "_law_full" "_law_full" sFull f fd) (T : WT K mg C) (MW : Mk K C fI) (GI : FnOk P w K mg base CX0 1 fI fdI ["self"] (spInitW K C)) (bI : Binds K fdI ["self"] [])
    (GN : FnOk P w K mg base CX0 3 fN fdN ["self", "values"] (spNewList K C)) (cN : Mc K C "new_list" fN fdN ["self", "values"]) (GT : FnOk P w K mg base CX0 6 fT fdT ["world", "what", "name", "args"] (spTold K C CT)) (cT : Fc K mg "_law_told" fT fdT ["world", "what", "name", "args"]) :
    FnOk P w K mg base CX0 7 f fd [] (spFull) := by
  refine F.ok scFull (fun vs H Q E h => ?_) (fun cdv A outer s H vs Q E hr h => ?_)
  · obtain ⟨rfl, _⟩ := h; rfl
  · refine ⟨_, pss_cons (ps_set (i := 0) scFull.nd rfl (.inl rfl) (pe_make0 MW GI (hr.mono (by decide)) rfl T.g bI .nil pass0))
      (pss_cons (ps_set (i := 1) scFull.nd rfl (.inl rfl) (pe_meth (pv 0) T.cl cN.m GN (hr.mono (by decide)) cN.b .nil pass0 (pa_cons (pe_op op_rep (pe_lst (pa_cons (pe_tup (pa_cons pe_str (pa_cons pe_int pa_nil))) pa_nil)) pe_int) pa_nil)))
      (pss_cons (ps_if (PW.pt (pw_or (pt_cmpR (op_neD (hu64 hr)) (pe_call GT hr rfl cT.g cT.kp cT.b .nil pass0 (pa_cons (pv 0) (pa_cons pe_str (pa_cons pe_non (pa_cons (pe_lst (pa_cons (pv 1) (pa_cons (pe_tup (pa_cons pe_str (pa_cons pe_int pa_nil))) pa_nil))) pa_nil))))) (pv 1) (nomark _))
          (pw_or1 (pt_cmpR (op_neD (hu64 hr)) (pe_call GT hr rfl cT.g cT.kp cT.b .nil pass0 (pa_cons (pv 0) (pa_cons pe_str (pa_cons pe_non (pa_cons (pe_lst (pa_cons (pv 1) (pa_cons (pe_tup (pa_cons pe_str (pa_cons pe_int pa_nil))) pa_nil))) pa_nil))))) (pe_tup (pa_cons pe_str (pa_cons (pe_tup (pa_cons pe_str (pa_cons pe_str pa_nil))) pa_nil))) (nomark _))))) (pss_one (ps_ret pe_bl)) pss_nil)
      (pss_one (ps_ret (pe_and (pe_cmpR (op_eqD (hu64 hr)) (pe_call GT hr rfl cT.g cT.kp cT.b .nil pass0 (pa_cons (pv 0) (pa_cons pe_str (pa_cons pe_non (pa_cons (pe_lst (pa_cons (pv 1) pa_nil)) pa_nil))))) (pe_tup (pa_cons pe_str (pa_cons pe_int pa_nil))) (nomark _))
          (pe_one (pe_cmpR (op_eqD (hu64 hr)) (pe_call GT hr rfl cT.g cT.kp cT.b .nil pass0 (pa_cons (pv 0) (pa_cons pe_str (pa_cons pe_non (pa_cons (pe_lst (pa_cons (pv 1) (pa_cons (pe_tup (pa_cons pe_str (pa_cons pe_int pa_nil))) pa_nil))) pa_nil))))) (pe_tup (pa_cons pe_str (pa_cons pe_int pa_nil))) (nomark _)))))))), ?_⟩
    obtain ⟨rfl, kQ⟩ := h
    refine fun x dx hx hdx ne => ?_
    have s0 : Same H (upd (upd H dx (.own x)) x (.ins C dx [])) := fun b o e => by rw [upd_ne (ne_of_none e hx), upd_ne (ne_of_none e hdx)]; exact e
    refine ⟨x, dx, rfl, upd_same, by rw [upd_ne ne]; exact upd_same, ne, fun H1 L v W hL hlab old => ⟨rfl, ?_⟩⟩
    have s1 : Same H H1 := fun b o e => old b o (s0 b o e) (ne_of_none e hx)
    obtain rfl := hL
    refine ⟨_, rfl, L .inst, L .own, _, rfl, W.at_ .inst trivial, f_no (by decide +kernel), by show 2 ≤ sizeLine; decide, fun t nt => ?_⟩
    have s2 := same_new (o := .tup [.str "int", .int 1]) nt
    have v2 : Vl K (upd H1 t (.tup [.str "int", .int 1])) (.ref t) (.int 1) := ⟨t, rfl, .inl upd_same⟩
    refine ⟨by show 1 ≤ sizeLine; decide, fun q nq => ⟨q, 29999, _, rfl, rfl, upd_same, by decide, by decide, by show 1 * 29999 ≤ sizeLine; rw [sizeLine_eq]; decide, fun r nr => ?_⟩⟩
    have e29 : (List.replicate (29999 : Int).toNat [V.ref t]).flatten = (List.replicate 29999 ((V.ref t, Val.int 1) : VV)).map (·.1) := by rw [List.map_replicate]; exact rep_flat _ _
    rw [e29]
    have s3 := same_new (o := .lst [.ref t]) nq
    have s4 := same_new (o := .lst ((List.replicate 29999 ((V.ref t, Val.int 1) : VV)).map (·.1))) nr
    have l4 : (upd (upd (upd H1 t (.tup [.str "int", .int 1])) q (.lst [.ref t])) r (.lst ((List.replicate 29999 ((V.ref t, Val.int 1) : VV)).map (·.1)))) r = some (.lst ((List.replicate 29999 ((V.ref t, Val.int 1) : VV)).map (·.1))) := upd_same
    have v4 := (v2.keep (KeepT.of s3)).keep (KeepT.of s4)
    have s14 : Same H1 (upd (upd (upd H1 t (.tup [.str "int", .int 1])) q (.lst [.ref t])) r (.lst ((List.replicate 29999 ((V.ref t, Val.int 1) : VV)).map (·.1)))) := fun b o z => s4 b o (s3 b o (s2 b o z))
    generalize (upd (upd (upd H1 t (.tup [.str "int", .int 1])) q (.lst [.ref t])) r (.lst ((List.replicate 29999 ((V.ref t, Val.int 1) : VV)).map (·.1)))) = H4 at l4 v4 s14
    generalize hps : List.replicate 29999 ((V.ref t, Val.int 1) : VV) = ps at l4
    have hpl : ps.length = 29999 := by rw [← hps, List.length_replicate]
    have W4 := W.same s14
    refine ⟨L, R0 v, r, ps, rfl, W4, SqL.of l4, fun p hp => by rw [← hps] at hp; rw [(List.mem_replicate.mp hp).2]; exact v4, by show 0 < 1000; decide, fun H5 L5 u W5 a2 a3 a4 a5 => ?_⟩
    have a5 : Vl K H5 u (.ref ((0 : Nat) : Int)) := a5
    have hL5 := a2 .inst trivial
    rw [← hL5]
    have s15 : Same H H4 := fun b o z => s14 b o (s1 b o z)
    have hc5 : ((R0 v).addCell (.lst ps)).cells[0]? = some (.lst ps) := rfl
    have n5 : ((R0 v).addCell (.lst ps)).cells.length = 1 := rfl
    -- what stood ahead is no part of the world
    have hout : ∀ l, live 1 l → H (L5 l) = none := fun l hl => by
      rcases a3 l hl with h | h
      · rw [a2 l h]
        rcases hlab l h with z | z | z
        · rw [z]; exact hx
        · rw [z]; exact hdx
        · exact s0.free z
      · exact s15.free h
    have kp5 : Same H H5 := fun b o z => a4 b o (s15 b o z) fun l hl y => by subst y; rcases hlab l hl with k | k | k; (rw [k] at z; rw [hx] at z; cases z); (rw [k] at z; rw [hdx] at z; cases z); (rw [s0.free k] at z; cases z)
    -- push
    refine ⟨_, rfl, _, rfl, by show 2 ≤ sizeLine; decide, fun t2 n2 => ⟨by show 2 ≤ sizeLine; decide, fun ar nar => ?_⟩⟩
    have x2 := same_new (o := .tup [.str "int", .int 2]) n2
    have x3 := same_new (o := .lst [u, .ref t2]) nar
    have w2 : Vl K (upd H5 t2 (.tup [.str "int", .int 2])) (.ref t2) (.int 2) := ⟨t2, rfl, .inl upd_same⟩
    have w3 := w2.keep (KeepT.of x3)
    have x23 : Same H5 (upd (upd H5 t2 (.tup [.str "int", .int 2])) ar (.lst [u, .ref t2])) := fun b o z => x3 b o (x2 b o z)
    have lar : (upd (upd H5 t2 (.tup [.str "int", .int 2])) ar (.lst [u, .ref t2])) ar = some (.lst [u, .ref t2]) := upd_same
    have oar : ∀ m, live ((R0 v).addCell (.lst ps)).cells.length m → L5 m ≠ ar := fun m hm z => by have := x2 _ _ (W5.at_ m hm); rw [z, nar] at this; cases this
    generalize (upd (upd H5 t2 (.tup [.str "int", .int 2])) ar (.lst [u, .ref t2])) = H6 at w3 x23 lar
    refine told_push (E := E) (i := 0) (p := (.ref t2, .int 2)) (W5.same x23) lar oar (a5.keep (KeepT.of x23)) hc5 w3 (by rw [hpl]; decide) fun H7 W7 K7 => ?_
    have kt7 : KeepT H5 H7 := fun b xs z => K7.tups (W5.same x23) b xs (x23 b _ z)
    have u7 := a5.keep kt7
    have w7 := w3.keep (K7.tups (W5.same x23))
    have kp7 : Same H H7 := fun b o z => K7 b o (x23 b o (kp5 b o z)) fun l hl y => by subst y; rw [hout l hl] at z; cases z
    have hc7 : (((R0 v).addCell (.lst ps)).setCell 0 (.lst (ps ++ [(.ref t2, .int 2)]))).cells[0]? = some (.lst (ps ++ [(.ref t2, .int 2)])) := rfl
    generalize hR7 : ((R0 v).addCell (.lst ps)).setCell 0 (.lst (ps ++ [(.ref t2, .int 2)])) = R7 at W7 hc7
    have n7 : R7.cells.length = 1 := by rw [← hR7]; rfl
    refine ⟨u, rfl, (Val.ref 0).data, (Val.ref 0).data, u7.dp, u7.dp, Val.shaped _ trivial, Val.shaped _ trivial, false, congrArg V.bl (by rw [show PyData.eqv (Val.ref 0).data (Val.ref 0).data = true from eqv_same (.val (.ref 0)) trivial]; rfl), iteF ?_⟩
    -- push once more
    refine ⟨_, rfl, _, rfl, by show 2 ≤ sizeLine; decide, fun t3 n3 => ⟨by show 2 ≤ sizeLine; decide, fun ar2 nar2 => ?_⟩⟩
    have y2 := same_new (o := .tup [.str "int", .int 3]) n3
    have y3 := same_new (o := .lst [u, .ref t3]) nar2
    have z2 : Vl K (upd H7 t3 (.tup [.str "int", .int 3])) (.ref t3) (.int 3) := ⟨t3, rfl, .inl upd_same⟩
    have z3 := z2.keep (KeepT.of y3)
    have y23 : Same H7 (upd (upd H7 t3 (.tup [.str "int", .int 3])) ar2 (.lst [u, .ref t3])) := fun b o z => y3 b o (y2 b o z)
    have lar2 : (upd (upd H7 t3 (.tup [.str "int", .int 3])) ar2 (.lst [u, .ref t3])) ar2 = some (.lst [u, .ref t3]) := upd_same
    have oar2 : ∀ m, live R7.cells.length m → L5 m ≠ ar2 := fun m hm z => by have := y2 _ _ (W7.at_ m hm); rw [z, nar2] at this; cases this
    generalize (upd (upd H7 t3 (.tup [.str "int", .int 3])) ar2 (.lst [u, .ref t3])) = H8 at z3 y23 lar2
    refine told_pushLong (E := E) (i := 0) (p := (.ref t3, .int 3)) (W7.same y23) lar2 oar2 (u7.keep (KeepT.of y23)) hc7 z3 (by rw [List.length_append, hpl]; show 30000 ≤ 29999 + 1; decide) fun H9 r9 s9 th9 => ?_
    have s79 : Same H7 H9 := fun b o z => s9 b o (y23 b o z)
    have W9 := W7.same s79
    refine ⟨by show 2 ≤ sizeLine; decide, fun p1 m1 => ⟨by show 2 ≤ sizeLine; decide, fun p2 m2 => ?_⟩⟩
    have b1 := same_new (o := .tup [.str "text", .str "long"]) m1
    have b2 := same_new (o := .tup [.str "thrown", .ref p1]) m2
    have b12 : Same H9 (upd (upd H9 p1 (.tup [.str "text", .str "long"])) p2 (.tup [.str "thrown", .ref p1])) := fun b o z => b2 b o (b1 b o z)
    have th2 : ThrAt K (upd (upd H9 p1 (.tup [.str "text", .str "long"])) p2 (.tup [.str "thrown", .ref p1])) (.ref p2) "long" := ⟨p2, .ref p1, rfl, .inl upd_same, p1, rfl, .inl (b2 _ _ upd_same)⟩
    have okl : (Res.thrown "long").ok := by show PyData.strOk ("long" : Str) = true; decide +kernel
    generalize (upd (upd H9 p1 (.tup [.str "text", .str "long"])) p2 (.tup [.str "thrown", .ref p1])) = H10 at b12 th2
    refine ⟨(Res.thrown "long").data, (Res.thrown "long").data, (th9.keep (KeepT.of b12)).dp, th2.dp, Res.shaped _ okl, Res.shaped _ okl, false, congrArg V.bl (by rw [eqv_same _ okl]; rfl), iteF ?_⟩
    -- len
    have s710 : Same H7 H10 := fun b o z => b12 b o (s79 b o z)
    have W10 := W7.same s710
    have u10 := u7.keep (KeepT.of s710)
    refine ⟨_, rfl, _, rfl, by show 1 ≤ sizeLine; decide, fun ar3 nar3 => ?_⟩
    have c3 := same_new (o := .lst [u]) nar3
    have oar3 : ∀ m, live R7.cells.length m → L5 m ≠ ar3 := fun m hm z => by have := W10.at_ m hm; rw [z, nar3] at this; cases this
    refine told_len (E := E) (i := 0) (W10.same c3) upd_same oar3 (u10.keep (KeepT.of c3)) hc7 fun H11 r11 s11 v11 => ?_
    have hl30 : ((ps ++ [((V.ref t2, Val.int 2) : VV)]).length : Int) = 30000 := by rw [List.length_append, hpl]; rfl
    rw [hl30] at v11
    refine ⟨by show 2 ≤ sizeLine; decide, fun p3 m3 => ?_⟩
    have d3 := same_new (o := .tup [.str "int", .int 30000]) m3
    have w30 : Vl K (upd H11 p3 (.tup [.str "int", .int 30000])) (.ref p3) (.int 30000) := ⟨p3, rfl, .inl upd_same⟩
    have s712 : Same H7 (upd H11 p3 (.tup [.str "int", .int 30000])) := fun b o z => d3 b o (s11 b o (c3 b o (s710 b o z)))
    have v12 := v11.keep (KeepT.of d3)
    generalize (upd H11 p3 (.tup [.str "int", .int 30000])) = H12 at w30 s712 v12
    refine ⟨(Val.int 30000).data, (Val.int 30000).data, v12.dp, w30.dp, Val.shaped _ trivial, Val.shaped _ trivial, true, congrArg V.bl (eqv_same (.val (.int 30000)) trivial), iteT ?_⟩
    -- item
    have W12 := W7.same s712
    have u12 := u7.keep (KeepT.of s712)
    refine ⟨_, rfl, _, rfl, by show 2 ≤ sizeLine; decide, fun t4 n4 => ⟨by show 2 ≤ sizeLine; decide, fun ar4 nar4 => ?_⟩⟩
    have f2 := same_new (o := .tup [.str "int", .int 29999]) n4
    have f3 := same_new (o := .lst [u, .ref t4]) nar4
    have g2 : Vl K (upd H12 t4 (.tup [.str "int", .int 29999])) (.ref t4) (.int 29999) := ⟨t4, rfl, .inl upd_same⟩
    have g3 := g2.keep (KeepT.of f3)
    have f23 : Same H12 (upd (upd H12 t4 (.tup [.str "int", .int 29999])) ar4 (.lst [u, .ref t4])) := fun b o z => f3 b o (f2 b o z)
    have oar4 : ∀ m, live R7.cells.length m → L5 m ≠ ar4 := fun m hm z => by have := f2 _ _ (W12.at_ m hm); rw [z, nar4] at this; cases this
    refine told_item (E := E) (i := 0) (W12.same f23) upd_same oar4 (u12.keep (KeepT.of f23)) hc7 g3 (fun j p ej hp H13 s13 => ?_) (fun z => absurd (show (0 : Int) ≤ 29999 ∧ 29999 < ((ps ++ [((V.ref t2, Val.int 2) : VV)]).length : Int) by rw [hl30]; decide) z)
    obtain rfl : j = 29999 := by omega
    rw [List.getElem?_append_right (by rw [hpl]; exact Nat.le_refl _), hpl] at hp
    obtain rfl := Option.some.inj hp
    refine ⟨by show 2 ≤ sizeLine; decide, fun p5 m5 => ?_⟩
    have h5 := same_new (o := .tup [.str "int", .int 2]) m5
    have s714 : Same H7 (upd H13 p5 (.tup [.str "int", .int 2])) := fun b o z => h5 b o (s13 b o (f23 b o (s712 b o z)))
    have w14 := w7.keep (KeepT.of s714)
    have w15 : Vl K (upd H13 p5 (.tup [.str "int", .int 2])) (.ref p5) (.int 2) := ⟨p5, rfl, .inl upd_same⟩
    refine ⟨(Val.int 2).data, (Val.int 2).data, w14.dp, w15.dp, Val.shaped _ trivial, Val.shaped _ trivial, ?_⟩
    rw [show PyData.eqv (Val.int 2).data (Val.int 2).data = true from eqv_same (.val (.int 2)) trivial]
    exact kQ _ fun b o z => s714 b o (kp7 b o z)
end
end My
namespace L2
open PySem PySem.Spec PyProof.Rows
theorem cr_range1 {X : Cx} : CallR X (.type "range") (fun vs H Q => ∃ j, vs = [V.int j] ∧ ∀ p, H p = none → Q (.ref p) (upd H p (.rng 0 j))) := by
  intro pins s σ H vs us Q I r h
  obtain ⟨j, rfl, q⟩ := h
  obtain ⟨u1, rfl, rj⟩ := vals1 r
  obtain ⟨u, rfl⟩ := rj
  refine PySem.call_range_1 ⟨.ref s.heap.objs.size, upd H s.heap.objs.size (.rng 0 j), I.laid (t' := s.toks + 1 + 1) (fun b o e => Heap.get?_push_of_some _ e) (Nat.le_refl _) ?_, rfl, q _ (I.hok.fresh (Nat.le_refl _))⟩
  exact ⟨s.toks, u, s.toks + 1, Heap.get?_push_size _ rfl⟩
theorem vals_of : ∀ (xs : List V) (us : List Value), xs.length = us.length → (∀ (i : Nat) x u, xs[i]? = some x → us[i]? = some u → RelV x u) → Vals xs us
  | [], [], _, _ => .nil
  | [], _ :: _, h, _ => by cases h
  | _ :: _, [], h, _ => by cases h
  | x :: xs, u :: us, h, k => .cons (k 0 x u rfl rfl) (vals_of xs us (by simpa using h) fun i a b ha hb => k (i + 1) a b (by simpa using ha) (by simpa using hb))
theorem call_list_rng {X : Cx} (hc : X.calm = true) : CallR X (.type "list") (fun xs H Q => ∃ (p : Addr) (n : Nat), xs = [.ref p] ∧ H p = some (.rng 0 (n : Int)) ∧ n ≤ 1000 ∧ ∀ l, H l = none → Q (.ref l) (upd H l (.lst ((List.range n).map fun (i : Nat) => V.int (i : Int))))) := by
  intro pins s σ H xs us Q I r h
  obtain ⟨p, n, rfl, hp, hn, q⟩ := h
  obtain ⟨u, rfl, rx⟩ := vals1 r
  cases rx
  obtain ⟨t1, t2, t3, ho⟩ := I.hok p _ hp
  have hsz : Builtin.Range.rangeSize 0 (n : Int) 1 = (n : Int) := by
    unfold Builtin.Range.rangeSize
    rw [if_pos (by decide)]
    split
    · simp
    · omega
  refine PySem.call_list_range (a := 0) (b := (n : Int)) (c := 1) (n := n) (I.ok.hd hc) ho ?_ ?_ (by omega) fun h' tk acc' c' kp e it => ?_
  · unfold Builtin.Range.small
    have f : ∀ z : Int, 0 ≤ z → z ≤ 1000 → Builtin.Range.rangeFitsLong z = true := fun z h0 h1 => by
      unfold Builtin.Range.rangeFitsLong
      simp
      omega
    have hs : Builtin.Range.rangeSize 0 (n : Int) 1 = (n : Int) := hsz
    rw [hs]
    simp [f 0 (by decide) (by decide), f 1 (by decide) (by decide), f n (by omega) (by omega)]
  · exact hsz
  · have hl : ((List.range n).map fun (i : Nat) => V.int (i : Int)).length = acc'.toList.length := by rw [List.length_map, List.length_range, Array.length_toList, it.1]
    have rv : Vals ((List.range n).map fun (i : Nat) => V.int (i : Int)) acc'.toList := vals_of _ _ hl fun i x u hx hu => by
      have hi : i < n := by have := (List.getElem?_eq_some_iff.mp hx).1; rw [List.length_map, List.length_range] at this; exact this
      rw [List.getElem?_map, List.getElem?_range hi] at hx
      obtain rfl := Option.some.inj hx
      obtain ⟨t, rfl⟩ := it.2 i u (by simpa using hu)
      exact ⟨t, by simp⟩
    refine ⟨.ref s.heap.objs.size, _, I.laid (t' := tk) kp (Nat.le_refl _) (show ObjOk X.prog X.w _ h' _ (.lst _) from ⟨?_, acc'.toList, c', rv, by simpa using e⟩), rfl, q _ (I.hok.fresh (Nat.le_refl _))⟩
    rw [List.length_map, List.length_range, sizeLine_eq]
    omega
end L2
namespace My
open PySem PySem.Spec PyProof.Rows L2
/-! ### plain: shapes -/
def Kids (R : WS) : Prop := ∀ i s p x, 0 < i → R.shapes[i]? = some s → s.frm = some (p, x) → R.kid p x = some i
theorem Chain.uniq {R : WS} (hk : Kids R) : ∀ {rs : List Str} {i j : Nat}, Chain R.shapes i rs → Chain R.shapes j rs → i = j
  | [], i, j, h1, h2 => by cases h1; cases h2; rfl
  | x :: r, i, j, h1, h2 => by
    cases h1 with
    | step a1 b1 c1 d1 e1 =>
      cases h2 with
      | step a2 b2 c2 d2 e2 =>
        have e := Chain.uniq hk e1 e2
        subst e
        have z1 := hk _ _ _ _ a1 b1 c1
        have z2 := hk _ _ _ _ a2 b2 c2
        rw [z1] at z2
        exact Option.some.inj z2
theorem Chain.fn {S : List Sh} : ∀ {rs rs' : List Str} {i : Nat}, Chain S i rs → Chain S i rs' → rs = rs'
  | [], [], _, _, _ => rfl
  | [], y :: r, i, h1, h2 => by
    cases h1
    cases h2 with
    | step a _ _ _ _ => exact absurd a (Nat.lt_irrefl 0)
  | x :: r, [], i, h1, h2 => by
    cases h2
    cases h1 with
    | step a _ _ _ _ => exact absurd a (Nat.lt_irrefl 0)
  | x :: r, y :: r', i, h1, h2 => by
    cases h1 with
    | step a1 b1 c1 d1 e1 =>
      cases h2 with
      | step a2 b2 c2 d2 e2 =>
        rw [b1] at b2
        obtain rfl := Option.some.inj b2
        rw [c1] at c2
        obtain ⟨rfl, rfl⟩ := Prod.mk.inj (Option.some.inj c2)
        rw [Chain.fn e1 e2]
theorem Chain.pre {S : List Sh} {N : List Str} {sh : Nat} (h : Chain S sh N.reverse) (k : Nat) : ∃ j, Chain S j (N.take k).reverse := by
  obtain ⟨j, hj⟩ := h.drops (N.length - k)
  rw [List.drop_reverse] at hj
  by_cases hk : k ≤ N.length
  · have e : N.length - (N.length - k) = k := by omega
    rw [e] at hj
    exact ⟨j, hj⟩
  · rw [List.take_of_length_le (by omega)]
    exact ⟨sh, h⟩
theorem slotR_at : ∀ (rs : List Str), rs.Nodup → ∀ k (h : k < rs.length), slotR rs (rs[rs.length - 1 - k]'(by omega)) = some k
  | [], _, k, h => absurd h (Nat.not_lt_zero k)
  | y :: r, nd, k, h => by
    obtain ⟨n1, n2⟩ := List.nodup_cons.mp nd
    have hl : k < r.length + 1 := h
    unfold slotR
    by_cases e : k = r.length
    · subst e
      have z : (y :: r)[(y :: r).length - 1 - r.length]'(by simp) = y := by simp
      rw [z, if_pos rfl]
    · have hk : k < r.length := by omega
      have z : (y :: r)[(y :: r).length - 1 - k]'(by simp; omega) = r[r.length - 1 - k]'(by omega) := by
        rw [List.getElem_cons]
        have c : ¬ (y :: r).length - 1 - k = 0 := by simp; omega
        rw [dif_neg c]
        congr 1
        simp
        omega
      rw [z, if_neg (fun q => n1 (by rw [q]; exact List.getElem_mem _))]
      exact slotR_at r n2 k hk
theorem slotR_rev {N : List Str} (nd : N.Nodup) {k : Nat} (h : k < N.length) : slotR N.reverse N[k] = some k := by
  have z := slotR_at N.reverse (List.pairwise_reverse.mpr (List.Pairwise.imp (fun h => Ne.symm h) nd)) k (by rw [List.length_reverse]; exact h)
  have e : N.reverse[N.reverse.length - 1 - k]'(by rw [List.length_reverse]; omega) = N[k] := by
    rw [List.getElem_reverse]
    congr 1
    rw [List.length_reverse]
    omega
  rw [e] at z
  exact z
theorem slotR_none : ∀ (rs : List Str) (x : Str), x ∉ rs → slotR rs x = none
  | [], _, _ => rfl
  | y :: r, x, h => by
    unfold slotR
    rw [if_neg (fun q => h (by rw [q]; exact List.mem_cons_self))]
    exact slotR_none r x fun q => h (List.mem_cons_of_mem _ q)
theorem slotR_mem : ∀ (rs : List Str) (x : Str), slotR rs x = none → x ∉ rs
  | [], _, _ => List.not_mem_nil
  | y :: r, x, h => by
    unfold slotR at h
    by_cases e : y = x
    · rw [if_pos e] at h; cases h
    · rw [if_neg e] at h
      intro q
      rcases List.mem_cons.mp q with z | z
      · exact e z.symm
      · exact slotR_mem r x h z
/-! ### texts compared -/
def strD (xs : List Str) : PyData := .list (xs.map PyData.str)
theorem strs_dp {K : PySem.W.Frag} {H : Hp} : ∀ xs : List Str, DpAll K H (xs.map V.str) (xs.map PyData.str)
  | [] => .nil
  | x :: r => .cons (.str x) (strs_dp r)
theorem strD_dp {K : PySem.W.Frag} {H : Hp} {a : Addr} {xs : List Str} (h : H a = some (.lst (xs.map V.str))) : Dp K H (.ref a) (strD xs) := .lst (SqL.of h) (strs_dp xs)
theorem strs_lay : ∀ {xs : List Str}, (∀ x ∈ xs, PyData.strOk x = true) → PyData.canLayAll0 (xs.map PyData.str) = true ∧ PyData.depthAll (xs.map PyData.str) ≤ 1
  | [], _ => ⟨rfl, by simp [PyData.depthAll]⟩
  | x :: r, h => by
    obtain ⟨h1, h2⟩ := strs_lay (xs := r) fun q hq => h q (List.mem_cons_of_mem _ hq)
    have z := h x List.mem_cons_self
    simp only [List.map_cons, PyData.canLayAll0, PyData.canLay0, PyData.depthAll, PyData.depth, z, h1, Bool.true_and]
    exact ⟨trivial, by omega⟩
theorem strD_shaped {xs : List Str} (h : ∀ x ∈ xs, PyData.strOk x = true) : SeqAt.shaped (strD xs) = true := by
  obtain ⟨h1, h2⟩ := strs_lay h
  have e : PyData.depth (strD xs) ≤ 5 := by unfold strD; simp only [PyData.depth]; omega
  refine Bool.and_eq_true_iff.mpr ⟨?_, decide_eq_true (by omega)⟩
  unfold strD
  simp only [PyData.canLay0, h1]
theorem strD_eqv (xs : List Str) : ∀ ys : List Str, PyData.eqv (strD xs) (strD ys) = decide (xs = ys) := by
  show ∀ ys : List Str, PyData.eqvAll (xs.map PyData.str) (ys.map PyData.str) = decide (xs = ys)
  induction xs with
  | nil => intro ys; cases ys <;> simp [PyData.eqvAll]
  | cons x r ih =>
    intro ys
    cases ys with
    | nil => simp [PyData.eqvAll]
    | cons y t =>
      have e : PyData.eqvAll ((x :: r).map PyData.str) ((y :: t).map PyData.str) = ((x == y) && PyData.eqvAll (r.map PyData.str) (t.map PyData.str)) := by simp [PyData.eqvAll, PyData.eqv]
      rw [e, ih t]
      by_cases z : x = y
      · subst z; simp
      · simp [z]
/-- ints compared -/
def intD (xs : List Int) : PyData := .list (xs.map PyData.int)
theorem ints_dp {K : PySem.W.Frag} {H : Hp} : ∀ xs : List Int, DpAll K H (xs.map V.int) (xs.map PyData.int)
  | [] => .nil
  | x :: r => .cons (.int x) (ints_dp r)
theorem intD_dp {K : PySem.W.Frag} {H : Hp} {a : Addr} {xs : List Int} (h : H a = some (.lst (xs.map V.int))) : Dp K H (.ref a) (intD xs) := .lst (SqL.of h) (ints_dp xs)
theorem ints_lay : ∀ {xs : List Int}, PyData.canLayAll0 (xs.map PyData.int) = true ∧ PyData.depthAll (xs.map PyData.int) ≤ 1
  | [] => ⟨rfl, by simp [PyData.depthAll]⟩
  | x :: r => by
    obtain ⟨h1, h2⟩ := ints_lay (xs := r)
    simp only [List.map_cons, PyData.canLayAll0, PyData.canLay0, PyData.depthAll, PyData.depth, h1, Bool.true_and]
    exact ⟨trivial, by omega⟩
theorem intD_shaped {xs : List Int} : SeqAt.shaped (intD xs) = true := by
  obtain ⟨h1, h2⟩ := ints_lay (xs := xs)
  have e : PyData.depth (intD xs) ≤ 5 := by unfold intD; simp only [PyData.depth]; omega
  refine Bool.and_eq_true_iff.mpr ⟨?_, decide_eq_true (by omega)⟩
  unfold intD
  simp only [PyData.canLay0, h1]
theorem pairD_shaped {x : Str} {k : Int} (h : PyData.strOk x = true) : SeqAt.shaped (.tuple [.str x, .int k]) = true := by
  refine Bool.and_eq_true_iff.mpr ⟨?_, decide_eq_true ?_⟩
  · simp only [PyData.canLay0, PyData.canLayAll0, h, Bool.true_and, Bool.and_true]
  · simp only [PyData.depth, PyData.depthAll]; omega
theorem pairD_eqv (x : Str) (k : Int) : PyData.eqv (.tuple [.str x, .int k]) (.tuple [.str x, .int k]) = true := by simp [PyData.eqv, PyData.eqvAll]
theorem cut_take (xs : List V) (k : Nat) (h : k ≤ xs.length) : cutV xs none (some (k : Int)) = xs.take k := by
  unfold cutV
  rw [HT.sIx_none, HT.sIx_nat, List.drop_zero, Nat.sub_zero, Nat.min_eq_left h]
theorem TabAt.rowC {K : PySem.W.Frag} {H : Hp} {L : Lab → Addr} {M : TLab → Addr} {ta : Nat → Addr} {R : WS} {N : Nat → List Str} (T : TabAt K H L M ta R N) {i : Nat} {c : Cell} (hc : R.cells[i]? = some c) : H (M (.row i)) = some (.lst (rowsV M i c)) := by
  have z := T.at_ (.row i) (lt_of hc)
  simp only [tcon, hc] at z
  exact z
theorem TabAt.pairO {K : PySem.W.Frag} {H : Hp} {L : Lab → Addr} {M : TLab → Addr} {ta : Nat → Addr} {R : WS} {N : Nat → List Str} (T : TabAt K H L M ta R N) {i sh : Nat} {ps : List VV} (hc : R.cells[i]? = some (.obj sh ps)) {k : Nat} (hk : k < ps.length) (hkN : k < (N sh).length) :
    H (M (.pair i k)) = some (.lst [.str (N sh)[k], ps[k].1]) := by
  have z := T.at_ (.pair i k) ⟨sh, ps, hc, hk⟩
  simp only [tcon, hc, Option.map_some, Option.getD_some, pairV, List.getElem?_eq_getElem hk] at z
  rw [List.getD_eq_getElem?_getD, List.getElem?_eq_getElem hkN] at z
  exact z
theorem rows_get {M : TLab → Addr} {i sh k : Nat} {ps : List VV} (hk : k < ps.length) : (rowsV M i (.obj sh ps))[k]? = some (V.ref (M (.pair i k))) := by
  unfold rowsV
  rw [List.getElem?_map, List.getElem?_range hk]; rfl
theorem rows_len {M : TLab → Addr} {i sh : Nat} {ps : List VV} : (rowsV M i (.obj sh ps)).length = ps.length := by unfold rowsV; rw [List.length_map, List.length_range]
theorem shapeV_obj {R : WS} {i sh : Nat} {ps : List VV} (hc : R.cells[i]? = some (.obj sh ps)) : R.shapeV (.ref (i : Int)) = .int (sh : Int) := by
  show (match R.cells[((i : Nat) : Int).toNat]? with | some (.obj sh _) => V.int (sh : Int) | _ => .non) = _
  rw [Int.toNat_natCast, hc]
end My
namespace My
open PySem PySem.Spec PyProof.Rows L2
abbrev sSh : Stmt := topS 28
theorem scSh : FnScope ["world", "table", "came", "spot", "rows", "names", "shape", "here", "k", "values", "other", "pair", "name", "path", "one"] ["world", "table", "came"] (defScope (sSh)) := ⟨rfl, rfl, rfl, by decide +kernel, rfl, by decide +kernel, by decide +kernel⟩
/-- what is true of shapes, kinds, and of what came -/
structure Plain (R : WS) (N : Nat → List Str) (came : List (List Str × Val)) : Prop where
  kids : ∀ i s p x, 0 < i → R.shapes[i]? = some s → s.frm = some (p, x) → R.kid p x = some i
  kidLt : ∀ p x i, R.kid p x = some i → i < R.shapes.length ∧ x ≠ "zz"
  kinds : R.small.length = R.shapes.length
  objs : ∀ c ∈ R.cells, ∀ sh ps, c = .obj sh ps → Chain R.shapes sh (N sh).reverse ∧ (N sh).length = ps.length ∧ (N sh).Nodup ∧ ∀ x ∈ N sh, x ≠ "zz"
  sml : ∀ j rs, Chain R.shapes j rs → 0 < j → ∀ b, R.small[j]? = some b → (b = true ↔ ∀ e ∈ came, e.1 = rs.reverse → e.2.small = true)
  wid : R.widened.Nodup
  widA : ∀ i ∈ R.widened, R.small[i]? = some false
  few : R.widened.length < 1000
structure CameAt (K : PySem.W.Frag) (H : Hp) (cm : Addr) (es : List (Addr × Addr × V)) (came : List (List Str × Val)) : Prop where
  ls : H cm = some (.lst (es.map fun e => V.ref e.1))
  len : es.length = came.length
  at_ : ∀ (i : Nat) e c, es[i]? = some e → came[i]? = some c → TupAt K H e.1 [.ref e.2.1, e.2.2] ∧ H e.2.1 = some (.lst (c.1.map V.str)) ∧ Vl K H e.2.2 c.2
theorem CameAt.same {K : PySem.W.Frag} {H H' : Hp} {cm : Addr} {es : List (Addr × Addr × V)} {came : List (List Str × Val)} (h : CameAt K H cm es came) (s : Same H H') : CameAt K H' cm es came :=
  ⟨s _ _ h.ls, h.len, fun i e c a b => by obtain ⟨h1, h2, h3⟩ := h.at_ i e c a b; exact ⟨h1.keep (KeepT.of s), s _ _ h2, h3.keep (KeepT.of s)⟩⟩
theorem TabAt.same {K : PySem.W.Frag} {H H' : Hp} {L : Lab → Addr} {M : TLab → Addr} {ta : Nat → Addr} {R : WS} {N : Nat → List Str} (h : TabAt K H L M ta R N) (s : Same H H') : TabAt K H' L M ta R N :=
  ⟨fun l hl => s _ _ (h.at_ l hl), h.inj, h.sep, fun i c hc => (h.tup i c hc).keep (KeepT.of s)⟩
def spSh (K : PySem.W.Frag) (C : Addr) : Sp := fun vs H Q _ => ∃ (L : Lab → Addr) (M : TLab → Addr) (ta : Nat → Addr) (R : WS) (N : Nat → List Str) (cm : Addr) (es : List (Addr × Addr × V)) (came : List (List Str × Val)), vs = [.ref (L .inst), .ref (M .tab), .ref cm] ∧ WorldAt K C H L R ∧ TabAt K H L M ta R N ∧ CameAt K H cm es came ∧ Plain R N came ∧ AllDrawn R ∧
  R.cells.length ≤ 60 ∧ (∀ sh, (N sh).length ≤ 3) ∧ (∀ sh, ∀ x ∈ N sh, PyData.strOk x = true) ∧ came.length ≤ 1000 ∧ (∀ e ∈ came, e.1.length ≤ 3 ∧ (∀ x ∈ e.1, PyData.strOk x = true) ∧ e.2.ok) ∧ ∀ H', Same H H' → Q (.bl true) H'
section
variable {P : Program} {w : World} {K : PySem.W.Frag} {mg : Str → Option Value} {base : Heap} {C : Addr}
theorem ok_shapes {f fH fN fO fC fW fS : Addr} {fd fdH fdN fdO fdC fdW fdS : FuncData} (F : Fun K "_law_shapes" "_law_shapes" sSh f fd) (T : WT K mg C) (hlen : mg "len" = none) (hsorted : mg "sorted" = none) (hlist : mg "list" = none) (hrange : mg "range" = none) (hset : mg "set" = none)
    (GH : FnOk P w K mg base CX0 2 fH fdH ["self", "value"] (spShapeOf K C)) (cH : Mc K C "shape_of" fH fdH ["self", "value"]) (GN : FnOk P w K mg base CX0 1 fN fdN ["self", "shape"] (spNamesOf K C)) (cN : Mc K C "names_of" fN fdN ["self", "shape"])
    (GO : FnOk P w K mg base CX0 1 fO fdO ["self", "shape", "name"] (spSlotOf K C)) (cO : Mc K C "slot_of" fO fdO ["self", "shape", "name"]) (GC : FnOk P w K mg base CX0 1 fC fdC ["self", "shape", "name"] (spChild K C)) (cC : Mc K C "child" fC fdC ["self", "shape", "name"])
    (GW : FnOk P w K mg base CX0 1 fW fdW ["self", "shape", "k"] (spOwner K C)) (cW : Mc K C "owner" fW fdW ["self", "shape", "k"]) (GS : FnOk P w K mg base CX0 1 fS fdS ["value"] (spSmall K)) (cS : Fc K mg "is_small" fS fdS ["value"]) :
    FnOk P w K mg base CX0 3 f fd ["world", "table", "came"] (spSh K C) := by
  refine F.ok scSh (fun vs H Q E h => ?_) (fun cdv A outer s H vs Q E hr h => ?_)
  · obtain ⟨L, M, ta, R, N, cm, es, came, rfl, _⟩ := h; rfl
  · refine ⟨_, pss_cons (ps_setLc (i := 4) (own := [("spot", 3)]) (g := gName 3) (tt := tTest (tOp rEq (tOp (rIxT K) (tDGet (tVar 1) (tVar 3)) (tC (.int 0))) (tC (.str "object")))) (by rfl) scSh.nd rfl rfl (sw_true rfl rfl rfl (by decide +kernel)) (pi_list (pe_callB (call_sortedDI rfl) (by rfl) hsorted (by decide +kernel) (pa_cons (pv 1) pa_nil))) (blkOk_by (own := [("spot", 3)]) (N := ["world", "table", "came", "spot", "rows", "names", "shape", "here", "k", "values", "other", "pair", "name", "path", "one"]) (sc := defScope sSh) (by decide +kernel)) (fun _ _ _ _ _ => pg_name (i := 3) scSh.nd rfl (Or.inl rfl)) (fun _ _ _ _ _ => pts_one (pt_cmpR op_eq (pe_ix (r := rIxT K) ix_tup (pe_dget (hu_of hr) (pv 1) (pv 3) (fun _ _ => rfl)) pe_int (fun _ _ => rfl)) pe_str (nomark _))) (fun _ _ _ _ _ => pv 3)) (pss_cons (ps_for PassesOwn.never rfl (pi_list (pv 4)) (pg_name (i := 3) scSh.nd rfl (Or.inl rfl)) (pss_cons (ps_set (i := 5) scSh.nd rfl (.inr rfl) (pe_lc (own := [("pair", 11)]) (g := gName 11) (tt := tYes) rfl scSh.nd (pi_list (pe_ix  ix_tup (pe_dget (hu_of hr) (pv 1) (pv 3) (fun _ _ => rfl)) pe_int (fun _ _ => rfl))) (blkOk_by (own := [("pair", 11)]) (N := ["world", "table", "came", "spot", "rows", "names", "shape", "here", "k", "values", "other", "pair", "name", "path", "one"]) (sc := defScope sSh) (by decide +kernel)) (fun _ _ _ _ _ => pg_name (i := 11) scSh.nd rfl (Or.inl rfl)) (fun _ _ _ _ _ => pts_nil) (fun _ _ _ _ _ => (pe_ix (r := rIxL K) ix_list (pv 11) pe_int (fun _ _ => rfl))))) (pss_cons (ps_set (i := 6) scSh.nd rfl (.inr rfl) (pe_meth (pv 0) T.cl cH.m GH (hr.mono (by decide)) cH.b .nil pass0 (pa_cons (pe_tup (pa_cons pe_str (pa_cons (pv 3) pa_nil))) pa_nil))) (pss_cons (ps_if (PW.pt (pw_or (pt_cmpR (op_neD (hu64 hr)) (pe_meth (pv 0) T.cl cN.m GN (hr.mono (by decide)) cN.b .nil pass0 (pa_cons (pv 6) pa_nil)) (pv 5) (nomark _)) (pw_or (pt_cmpR (op_neD (hu64 hr)) (pe_lc (own := [("name", 12)]) (g := gName 12) (tt := tYes) rfl scSh.nd (pi_list (pv 5)) (blkOk_by (own := [("name", 12)]) (N := ["world", "table", "came", "spot", "rows", "names", "shape", "here", "k", "values", "other", "pair", "name", "path", "one"]) (sc := defScope sSh) (by decide +kernel)) (fun _ _ _ _ _ => pg_name (i := 12) scSh.nd rfl (Or.inl rfl)) (fun _ _ _ _ _ => pts_nil) (fun _ _ _ _ _ => (pe_meth (pv 0) T.cl cO.m GO (hr.mono (by decide)) cO.b .nil pass0 (pa_cons (pv 6) (pa_cons (pv 12) pa_nil))))) (pe_callTy (call_list_rng rfl) (by rfl) hlist (by decide +kernel) (pa_cons (pe_callTy cr_range1 (by rfl) hrange (by decide +kernel) (pa_cons (pe_callB call_len_seq (by rfl) hlen PySem.boot_len (pa_cons (pv 5) pa_nil)) pa_nil)) pa_nil)) (nomark _)) (pw_or1 (pt_cmpR op_notN (pe_meth (pv 0) T.cl cO.m GO (hr.mono (by decide)) cO.b .nil pass0 (pa_cons (pv 6) (pa_cons pe_str pa_nil))) pe_non (nomark _)))))) (pss_one (ps_ret pe_bl)) pss_nil) (pss_cons (ps_set (i := 7) scSh.nd rfl (.inl rfl) pe_int) (pss_cons (ps_for PassesOwn.never rfl (pi_range1 rfl hrange (pa_cons (pe_callB call_len_seq (by rfl) hlen PySem.boot_len (pa_cons (pv 5) pa_nil)) pa_nil)) (pg_name (i := 8) scSh.nd rfl (Or.inr rfl)) (pss_cons (ps_set (i := 7) scSh.nd rfl (.inl rfl) (pe_meth (pv 0) T.cl cC.m GC (hr.mono (by decide)) cC.b .nil pass0 (pa_cons (pv 7) (pa_cons (pe_ix  ix_list (pv 5) (pv 8) (fun _ _ => rfl)) pa_nil)))) (pss_cons (ps_if (PW.pt (pw_or (pt_cmpR op_isN (pv 7) pe_non (nomark _)) (pw_or (pt_cmpR op_ne (pe_meth (pv 0) T.cl cW.m GW (hr.mono (by decide)) cW.b .nil pass0 (pa_cons (pv 6) (pa_cons (pv 8) pa_nil))) (pv 7) (nomark _)) (pw_or1 (pt_cmpR (op_neD (hu64 hr)) (pe_slice sl_tup (pe_ix  ix_list (pe_fld (pv 0) rfl) (pv 7) (fun _ _ => rfl)) (po_some pe_int) po_none) (pe_tup (pa_cons (pe_ix  ix_list (pv 5) (pv 8) (fun _ _ => rfl)) (pa_cons (pv 8) pa_nil))) (nomark _)))))) (pss_one (ps_ret pe_bl)) pss_nil) (pss_cons (ps_setLc (i := 9) (own := [("path", 13), ("one", 14)]) (g := gTup K 2 (gCons (gName 13) (gCons (gName 14) gNil))) (tt := tTest (tOp (rEqD K) (tVar 13) (tSl (rSlL K) (tVar 5) tNoPart (tPart (tOp (rI0 fun i j => .int (i + j)) (tVar 8) (tC (.int 1))))))) (by rfl) scSh.nd rfl rfl (sw_true rfl rfl rfl (by decide +kernel)) (pi_list (pv 2)) (blkOk_by (own := [("path", 13), ("one", 14)]) (N := ["world", "table", "came", "spot", "rows", "names", "shape", "here", "k", "values", "other", "pair", "name", "path", "one"]) (sc := defScope sSh) (by decide +kernel)) (fun _ _ _ _ _ => pg_tup rfl (pgs_cons (pg_name (i := 13) scSh.nd rfl (Or.inl rfl)) (pgs_cons (pg_name (i := 14) scSh.nd rfl (Or.inl rfl)) pgs_nil))) (fun _ _ _ _ _ => pts_one (pt_cmpR (op_eqD (hu64 hr)) (pv 13) (pe_slice sl_list (pv 5) po_none (po_some (pe_op op_add (pv 8) pe_int))) (nomark _))) (fun _ _ _ _ _ => pv 14)) (pss_one (ps_if (pt_cmpR op_ne (pe_cmpR op_eq (pe_ix  ix_list (pe_fld (pv 0) rfl) (pv 7) (fun _ _ => rfl)) pe_str (nomark _)) (pe_cmpR (op_eqD (hu64 hr)) (pe_lc (own := [("one", 14)]) (g := gName 14) (tt := tNot (tTest (tCall (spSmall K) [] (fun _ _ _ => False) (tCons (tVar 14) tNil)))) rfl scSh.nd (pi_list (pv 9)) (blkOk_by (own := [("one", 14)]) (N := ["world", "table", "came", "spot", "rows", "names", "shape", "here", "k", "values", "other", "pair", "name", "path", "one"]) (sc := defScope sSh) (by decide +kernel)) (fun _ _ _ _ _ => pg_name (i := 14) scSh.nd rfl (Or.inl rfl)) (fun _ _ _ _ _ => pts_one (pt_not (pt_val (pe_call GS (hr.mono (by decide)) (by rfl) cS.g cS.kp cS.b .nil pass0 (pa_cons (pv 14) pa_nil))))) (fun _ _ _ _ _ => pv 14)) (pe_lst pa_nil) (nomark _)) (nomark _)) (pss_one (ps_ret pe_bl)) pss_nil)))))) (pss_cons (ps_if (PW.pt (pw_or (pt_cmpR op_ne (pv 7) (pv 6) (nomark _)) (pw_or1 (pt_cmpR op_notN (pe_meth (pv 0) T.cl cC.m GC (hr.mono (by decide)) cC.b .nil pass0 (pa_cons (pv 6) (pa_cons pe_str pa_nil))) pe_non (nomark _))))) (pss_one (ps_ret pe_bl)) pss_nil) (pss_one (ps_for PassesOwn.never rfl (pi_list (pv 4)) (pg_name (i := 10) scSh.nd rfl (Or.inl rfl)) (pss_one (ps_if (pt_cmpR op_ne (pe_cmpR op_eq (pe_meth (pv 0) T.cl cH.m GH (hr.mono (by decide)) cH.b .nil pass0 (pa_cons (pe_tup (pa_cons pe_str (pa_cons (pv 10) pa_nil))) pa_nil)) (pv 6) (nomark _)) (pe_cmpR (op_eqD (hu64 hr)) (pe_lc (own := [("pair", 11)]) (g := gName 11) (tt := tYes) rfl scSh.nd (pi_list (pe_ix  ix_tup (pe_dget (hu_of hr) (pv 1) (pv 10) (fun _ _ => rfl)) pe_int (fun _ _ => rfl))) (blkOk_by (own := [("pair", 11)]) (N := ["world", "table", "came", "spot", "rows", "names", "shape", "here", "k", "values", "other", "pair", "name", "path", "one"]) (sc := defScope sSh) (by decide +kernel)) (fun _ _ _ _ _ => pg_name (i := 11) scSh.nd rfl (Or.inl rfl)) (fun _ _ _ _ _ => pts_nil) (fun _ _ _ _ _ => (pe_ix (r := rIxL K) ix_list (pv 11) pe_int (fun _ _ => rfl)))) (pv 5) (nomark _)) (nomark _)) (pss_one (ps_ret pe_bl)) pss_nil))))))))))) (pss_one (ps_ret (pe_and (pe_cmpR op_eq (RZ.pe_lenSetI rfl hlen rfl hset (pe_fld (pv 0) rfl)) (pe_callB call_len_seq (by rfl) hlen PySem.boot_len (pa_cons (pe_fld (pv 0) rfl) pa_nil)) (nomark _)) (pe_one (pe_cmpR (op_eqD (hu64 hr)) (pe_lc (own := [("shape", 6)]) (g := gName 6) (tt := tTest (tOp rNe (tOp (rIxL K) (tFld K (tVar 0) "kinds") (tVar 6)) (tC (.str "any")))) rfl scSh.nd (pi_list (pe_fld (pv 0) rfl)) (blkOk_by (own := [("shape", 6)]) (N := ["world", "table", "came", "spot", "rows", "names", "shape", "here", "k", "values", "other", "pair", "name", "path", "one"]) (sc := defScope sSh) (by decide +kernel)) (fun _ _ _ _ _ => pg_name (i := 6) scSh.nd rfl (Or.inl rfl)) (fun _ _ _ _ _ => pts_one (pt_cmpR op_ne (pe_ix (r := rIxL K) ix_list (pe_fld (pv 0) rfl) (pv 6) (fun _ _ => rfl)) pe_str (nomark _))) (fun _ _ _ _ _ => pv 6)) (pe_lst pa_nil) (nomark _))))))), ?_⟩
    obtain ⟨L, M, ta, R, N, cm, es, came, rfl, W, TA, CA, PL, AD, hcl, hN3, hNs, hcm, hce, kQ⟩ := h
    -- rows = [spot for spot in sorted(table) if ..]
    refine ⟨_, rfl, M .tab, _, (List.range R.cells.length).map (fun (i : Nat) => (i : Int)), rfl, .inl (TA.at_ .tab trivial), by unfold tabD; rw [List.map_map, List.map_map]; rfl, by rw [List.length_map, List.length_range]; omega, fun ys sp hperm _ hsp => ⟨sp, rfl, ⟨_, SqL.of upd_same⟩, fun D1 hD1 => ?_⟩⟩
    have s1 := same_new (o := .lst (ys.map V.int)) hsp
    refine lc_list (K := K) (a := sp) (xs := ys.map V.int) (fun j G => Same H G ∧ G sp = some (.lst (ys.map V.int)) ∧ ∃ is : List Nat, G D1 = some (.lst (is.map fun (i : Nat) => V.int (i : Int))) ∧ is.length ≤ j ∧ ∀ i ∈ is, ∃ sh ps, R.cells[i]? = some (.obj sh ps))
      ⟨fun b o z => same_new hD1 b o (s1 b o z), same_new hD1 _ _ upd_same, [], upd_same, Nat.le_refl _, fun i h => nomatch h⟩ (fun j G _ h => SqL.of h.2.1) ?_ ?_
    · rintro j x G hx ⟨sG, hsG, is, hD, hl, hi⟩
      have hjl := lt_of hx
      rw [List.length_map] at hjl
      have hyl : ys.length = R.cells.length := by rw [hperm.length_eq, List.length_map, List.length_range]
      obtain ⟨y, hy, rfl⟩ : ∃ y, ys[j]? = some y ∧ x = V.int y := by
        rw [List.getElem?_map] at hx
        cases hq : ys[j]? with
        | none => rw [hq] at hx; cases hx
        | some y => rw [hq] at hx; exact ⟨y, rfl, (Option.some.inj hx).symm⟩
      obtain ⟨i, hiR, rfl⟩ := List.mem_map.mp (hperm.mem_iff.mp (List.mem_of_getElem? hy))
      have hin := List.mem_range.mp hiR
      have gc := List.getElem?_eq_getElem hin
      generalize R.cells[i] = c at gc
      have TG := TA.same sG
      have htup := TG.tup i c gc
      refine ⟨rfl, _, rfl, _, rfl, M .tab, .ref (ta i), rfl, by rw [← tab_get (ta := ta) hin]; exact DGet.k (k := Sum.inl (i : Int)) (TG.at_ .tab trivial), ta i, _, 0, .str c.word, rfl, rfl, htup.sq, atI_nat (j := 0) rfl, rfl, _, rfl, ?_⟩
      cases c with
      | obj sh ps =>
        refine iteT ⟨_, rfl, _, hD, by rw [List.length_map, sizeLine_eq]; omega, fun b o z => ?_, ?_, is ++ [i], ?_, ?_, ?_⟩
        · by_cases q : b = D1
          · subst q; have := s1 _ _ z; rw [hD1] at this; cases this
          · rw [upd_ne q]; exact sG b o z
        · have n : sp ≠ D1 := fun q => by subst q; rw [upd_same] at hD1; cases hD1
          rw [upd_ne n]; exact hsG
        · rw [upd_same, List.map_append]; rfl
        · rw [List.length_append]; simp only [List.length_singleton]; omega
        · intro i' h'
          rcases List.mem_append.mp h' with z | z
          · exact hi i' z
          · obtain rfl := List.mem_singleton.mp z; exact ⟨sh, ps, gc⟩
      | lst ps => exact iteF ⟨sG, hsG, is, hD, by omega, hi⟩
    rintro H1 ⟨sm1, _, is, hrows, hisl, hi⟩
    rw [List.length_map, hperm.length_eq, List.length_map, List.length_range] at hisl
    refine ⟨_, rfl, D1, rfl, ⟨_, SqL.of hrows⟩, for_list (K := K) (a := D1) (xs := is.map fun (i : Nat) => V.int (i : Int)) (fun j σ G => Same H1 G ∧ ∃ o3 o5 o6 o7 o8 o9 o10 o11 o12 o13 o14, σ = [some (.ref (L .inst)), some (.ref (M .tab)), some (.ref cm), o3, some (.ref D1), o5, o6, o7, o8, o9, o10, o11, o12, o13, o14])
      ⟨fun _ _ z => z, _, _, _, _, _, _, _, _, _, _, _, rfl⟩ (fun j σ G _ h => SqL.of (h.1 _ _ hrows)) ?_ ?_⟩
    · rintro j x σ G hx ⟨sG, o3, o5, o6, o7, o8, o9, o10, o11, o12, o13, o14, rfl⟩
      obtain ⟨i, hiq, rfl⟩ : ∃ i, is[j]? = some i ∧ x = V.int (i : Int) := by
        rw [List.getElem?_map] at hx
        cases hq : is[j]? with
        | none => rw [hq] at hx; cases hx
        | some y => rw [hq] at hx; exact ⟨y, rfl, (Option.some.inj hx).symm⟩
      obtain ⟨sh, ps, gc⟩ := hi i (List.mem_of_getElem? hiq)
      have hcmem := List.mem_of_getElem? gc
      obtain ⟨ch, hln, nd, hzz⟩ := PL.objs _ hcmem sh ps rfl
      have sHG : Same H G := sm1.trans sG
      have TG := TA.same sHG
      refine ⟨_, rfl, _, rfl, M .tab, .ref (ta i), rfl, by rw [← tab_get (ta := ta) (lt_of gc)]; exact DGet.k (k := Sum.inl (i : Int)) (TG.at_ .tab trivial), ta i, _, 1, .ref (M (.row i)), rfl, rfl, (TG.tup i _ gc).sq, atI_nat (j := 1) rfl, M (.row i), rfl, ⟨_, SqL.of (TG.rowC gc)⟩, fun nl hnl => ?_⟩
      refine lc_list (K := K) (a := M (.row i)) (xs := rowsV M i (.obj sh ps)) (fun k G' => Same G G' ∧ G' nl = some (.lst (((N sh).take k).map V.str))) ⟨same_new hnl, upd_same⟩ (fun k G' _ h => SqL.of (h.1 _ _ (TG.rowC gc))) ?_ ?_
      · rintro k x G' hx ⟨sG', hGD⟩
        have hk : k < ps.length := by have := lt_of hx; rw [rows_len] at this; exact this
        rw [rows_get hk] at hx
        obtain rfl := Option.some.inj hx
        have hkN : k < (N sh).length := by rw [hln]; exact hk
        refine ⟨rfl, yes_ok (iteT ⟨_, rfl, M (.pair i k), _, 0, .str (N sh)[k], rfl, rfl, SqL.of ((TG.same sG').pairO gc hk hkN), atI_nat (j := 0) rfl, _, hGD, by rw [List.length_map, List.length_take, sizeLine_eq]; have := hN3 sh; omega, fun b o z => ?_, ?_⟩)⟩
        · by_cases q : b = nl
          · subst q; rw [hnl] at z; cases z
          · rw [upd_ne q]; exact sG' b o z
        · rw [upd_same, List.take_succ_eq_append_getElem hkN, List.map_append]; rfl
      rintro G2 ⟨s2, hnl⟩
      rw [rows_len, ← hln, List.take_length] at hnl
      have sH2 : Same H G2 := sHG.trans s2
      have t2 : Same H1 G2 := sG.trans s2
      have W2 := W.same sH2
      -- shape
      refine ⟨_, rfl, L .inst, L .own, _, rfl, W2.at_ .inst trivial, f_no (by decide +kernel), _, rfl, by show 2 ≤ sizeLine; decide, fun t nt => ?_⟩
      have s3 := same_new (o := .tup [.str "ref", .int (i : Int)]) nt
      have v3 : Vl K (upd G2 t (.tup [.str "ref", .int (i : Int)])) (.ref t) (.ref (i : Int)) := ⟨t, rfl, .inl upd_same⟩
      refine ⟨L, R, .ref t, _, rfl, W2.same s3, v3, In_ref gc, ?_⟩
      rw [shapeV_obj gc]
      have sH3 : Same H (upd G2 t (.tup [.str "ref", .int (i : Int)])) := sH2.trans s3
      have hnl3 := s3 _ _ hnl
      have t3 : Same H1 (upd G2 t (.tup [.str "ref", .int (i : Int)])) := t2.trans s3
      generalize (upd G2 t (.tup [.str "ref", .int (i : Int)])) = G3 at sH3 hnl3 t3
      have W3 := W.same sH3
      have hn3 := hN3 sh
      have hok := hNs sh
      -- names_of
      refine ⟨_, rfl, L .inst, L .own, _, rfl, W3.at_ .inst trivial, f_no (by decide +kernel), _, rfl, L, R, sh, _, rfl, W3, ch, by rw [List.length_reverse]; omega, fun G4 p4 s4 n4 e4 => ?_⟩
      rw [List.reverse_reverse] at e4
      have hnl4 := s4 _ _ hnl3
      refine ⟨_, rfl, strD (N sh), strD (N sh), strD_dp e4, strD_dp hnl4, strD_shaped hok, strD_shaped hok, false, congrArg V.bl (by rw [strD_eqv, decide_eq_true rfl]; rfl), iteF ?_⟩
      have sH4 : Same H G4 := sH3.trans s4
      have t4 : Same H1 G4 := t3.trans s4
      -- slots
      refine ⟨_, rfl, nl, rfl, ⟨_, SqL.of hnl4⟩, fun D5 hD5 => ?_⟩
      refine lc_list (K := K) (a := nl) (xs := (N sh).map V.str) (fun k G' => Same G4 G' ∧ G' D5 = some (.lst ((List.range k).map fun (i : Nat) => V.int (i : Int)))) ⟨same_new hD5, upd_same⟩ (fun k G' _ h => SqL.of (h.1 _ _ hnl4)) ?_ ?_
      · rintro k x G' hx ⟨sG', hGD⟩
        have hk : k < (N sh).length := by have := lt_of hx; rw [List.length_map] at this; exact this
        rw [List.getElem?_map, List.getElem?_eq_getElem hk] at hx
        obtain rfl := Option.some.inj hx
        have WG' := W.same (sH4.trans sG')
        refine ⟨rfl, yes_ok (iteT ⟨_, rfl, L .inst, L .own, _, rfl, WG'.at_ .inst trivial, f_no (by decide +kernel), _, rfl, _, rfl, L, R, sh, _, _, rfl, WG', ch, ?_⟩)⟩
        rw [slotR_rev nd hk]
        refine ⟨_, hGD, by rw [List.length_map, List.length_range, sizeLine_eq]; omega, fun b o z => ?_, ?_⟩
        · by_cases q : b = D5
          · subst q; rw [hD5] at z; cases z
          · rw [upd_ne q]; exact sG' b o z
        · rw [upd_same, List.range_succ, List.map_append]; rfl
      rintro G5 ⟨s5, hD5e⟩
      rw [List.length_map] at hD5e
      have sH5 : Same H G5 := sH4.trans s5
      have t5 : Same H1 G5 := t4.trans s5
      have hnl5 := s5 _ _ hnl4
      refine ⟨_, rfl, nl, _, rfl, .inl (SqL.of hnl5), _, rfl, fun rp hrp => ⟨rp, (N sh).length, rfl, by rw [upd_same, List.length_map], by omega, fun lp hlp => ?_⟩⟩
      have s6 : Same G5 (upd (upd G5 rp (.rng 0 (((N sh).map V.str).length : Int))) lp (.lst ((List.range (N sh).length).map fun (i : Nat) => V.int (i : Int)))) := fun b o z => same_new hlp b o (same_new hrp b o z)
      have hlpe : (upd (upd G5 rp (.rng 0 (((N sh).map V.str).length : Int))) lp (.lst ((List.range (N sh).length).map fun (i : Nat) => V.int (i : Int)))) lp = some (.lst ((List.range (N sh).length).map fun (i : Nat) => V.int (i : Int))) := upd_same
      generalize (upd (upd G5 rp (.rng 0 (((N sh).map V.str).length : Int))) lp (.lst ((List.range (N sh).length).map fun (i : Nat) => V.int (i : Int)))) = G6 at s6 hlpe
      have sH6 : Same H G6 := sH5.trans s6
      have t6 : Same H1 G6 := t5.trans s6
      have eint : ((List.range (N sh).length).map fun (i : Nat) => V.int (i : Int)) = ((List.range (N sh).length).map fun (i : Nat) => (i : Int)).map V.int := by rw [List.map_map]; rfl
      have hD6 := s6 _ _ hD5e
      rw [eint] at hlpe hD6
      refine ⟨intD _, intD _, intD_dp hD6, intD_dp hlpe, intD_shaped, intD_shaped, false, congrArg V.bl (by rw [SeqAt.eqv_refl _ (SeqAt.canLay_of_shaped intD_shaped)]; rfl), iteF ?_⟩
      -- slot_of(shape, "zz")
      have W6 := W.same sH6
      refine ⟨_, rfl, L .inst, L .own, _, rfl, W6.at_ .inst trivial, f_no (by decide +kernel), _, rfl, L, R, sh, _, _, rfl, W6, ch, ?_⟩
      have hzn : ("zz" : Str) ∉ (N sh).reverse := fun z => hzz _ (List.mem_reverse.mp z) rfl
      rw [slotR_none _ _ hzn]
      refine ⟨rfl, false, rfl, iteF ?_⟩
      -- here = 0
      have hnl6 := s6 _ _ hnl5
      have hks : Kids R := PL.kids
      have root : Chain R.shapes 0 ((N sh).take 0).reverse := by
        obtain ⟨j0, h0⟩ := ch.pre 0
        have e : ((N sh).take 0).reverse = [] := rfl
        rw [e] at h0 ⊢
        cases h0 with
        | root a b c => exact .root a b c
      refine ⟨_, rfl, nl, _, rfl, .inl (SqL.of hnl6), _, rfl, by rw [List.length_map]; omega, by rw [List.length_map]; omega, for_range (lo := 0) (fun k σ G => Same G6 G ∧ ∃ j o8 o9 o10 o11 o12 o13 o14, Chain R.shapes j ((N sh).take k).reverse ∧
          σ = [some (.ref (L .inst)), some (.ref (M .tab)), some (.ref cm), some (.int (i : Int)), some (.ref D1), some (.ref nl), some (.int (sh : Int)), some (.int (j : Int)), o8, o9, o10, o11, o12, o13, o14])
        ⟨fun _ _ z => z, 0, _, _, _, _, _, _, _, root, rfl⟩ ?_ ?_⟩
      · rintro k σ G7 hk ⟨s7, j, o8, o9, o10, o11, o12, o13, o14, cj, rfl⟩
        have hk : k < (N sh).length := by rw [List.length_map] at hk; omega
        have sH7 : Same H G7 := sH6.trans s7
        have W7 := W.same sH7
        have hnl7 := s7 _ _ hnl6
        have gk : ((N sh).map V.str)[k]? = some (.str (N sh)[k]) := by rw [List.getElem?_map, List.getElem?_eq_getElem hk]; rfl
        have nlk : atI ((N sh).map V.str) (0 + (k : Int)) = some (.str (N sh)[k]) := by rw [Int.zero_add]; exact atI_nat gk
        -- the next one
        obtain ⟨j', cj'⟩ := ch.pre (k + 1)
        have etk : ((N sh).take (k + 1)).reverse = (N sh)[k] :: ((N sh).take k).reverse := by rw [List.take_succ_eq_append_getElem hk, List.reverse_append]; rfl
        have hstep : ∃ s', R.shapes[j']? = some s' ∧ s'.frm = some (j, (N sh)[k]) ∧ s'.slot = (k : Int) ∧ 0 < j' := by
          rw [etk] at cj'
          cases cj' with
          | step a b c d e =>
            have ej := Chain.uniq hks e cj
            subst ej
            refine ⟨_, b, c, ?_, a⟩
            rw [d, List.length_reverse, List.length_take]
            omega
        obtain ⟨s', hs', hfrm, hslot, hj0⟩ := hstep
        have hkid : R.kid j (N sh)[k] = some j' := PL.kids _ _ _ _ hj0 hs' hfrm
        refine ⟨_, rfl, L .inst, L .own, _, rfl, W7.at_ .inst trivial, f_no (by decide +kernel), _, rfl, _, rfl, _, rfl, nl, _, _, _, rfl, rfl, SqL.of hnl7, nlk, L, R, j, (N sh)[k], rfl, W7, fun G8 s8 => ?_⟩
        rw [hkid]
        have sH8 : Same H G8 := sH7.trans s8
        have W8 := W.same sH8
        have hnl8 := s8 _ _ hnl7
        refine ⟨_, rfl, rfl, false, rfl, iteF ⟨_, rfl, L .inst, L .own, _, rfl, W8.at_ .inst trivial, f_no (by decide +kernel), _, rfl, _, rfl, L, R, sh, k, _, by rw [Int.zero_add]; rfl, W8.shAt, ch, by rw [List.length_reverse]; exact hk, fun j2 c2 => ?_⟩⟩
        have ej2 : j2 = j' := by
          have e1 : (N sh).reverse.drop ((N sh).reverse.length - (k + 1)) = ((N sh).take (k + 1)).reverse := by
            rw [List.drop_reverse, List.length_reverse]
            congr 2
            omega
          rw [e1] at c2
          exact Chain.uniq hks c2 cj'
        subst ej2
        refine ⟨_, rfl, rfl, false, congrArg V.bl (by show (!decide (V.int (j2 : Int) = V.int (j2 : Int))) = false; rw [decide_eq_true rfl]; rfl), iteF ?_⟩
        obtain ⟨a, ga, ta'⟩ := W8.shapeAt hs'
        have ee : s'.enc = [.int (j : Int), .str (N sh)[k], .int (k : Int)] := by unfold Sh.enc; rw [hfrm, hslot]
        rw [ee] at ta'
        refine ⟨_, rfl, L .inst, C, L .own, _, _, rfl, W8.at_ .inst trivial, T.cl, T.nShapes, f_shapes, _, rfl, L .shapes, _, (j2 : Int), _, rfl, rfl, SqL.of (W8.at_ .shapes trivial), atI_nat ga, 1, rfl, a, _, rfl, ta'.sq, (by show ¬ (HT.sIx 3 0 (some 1) = 0 ∧ HT.sIx 3 3 none = 3); decide), fun p9 n9 => ?_⟩
        have ecut : cutV [V.int (j : Int), .str (N sh)[k], .int (k : Int)] (some 1) none = [.str (N sh)[k], .int (k : Int)] := rfl
        rw [ecut]
        have s9 := same_new (o := .tup [.str (N sh)[k], .int (k : Int)]) n9
        have l9 : (upd G8 p9 (.tup [.str (N sh)[k], .int (k : Int)])) p9 = some (.tup [.str (N sh)[k], .int (k : Int)]) := upd_same
        have hnl9 := s9 _ _ hnl8
        have sH9 : Same H (upd G8 p9 (.tup [.str (N sh)[k], .int (k : Int)])) := sH8.trans s9
        generalize (upd G8 p9 (.tup [.str (N sh)[k], .int (k : Int)])) = G9 at s9 l9 hnl9 sH9
        refine ⟨_, rfl, _, rfl, nl, _, _, _, rfl, rfl, SqL.of hnl9, nlk, _, rfl, by show 2 ≤ sizeLine; decide, fun p10 n10 => ?_⟩
        rw [Int.zero_add]
        have s10 := same_new (o := .tup [.str (N sh)[k], .int (k : Int)]) n10
        have l9' := s10 _ _ l9
        have okk := hok _ (List.getElem_mem hk)
        have d9 : ∀ {p : Addr} {G : Hp}, G p = some (.tup [.str (N sh)[k], .int (k : Int)]) → Dp K G (.ref p) (.tuple [.str (N sh)[k], .int (k : Int)]) := fun h => .tup (SqT.of h) (.cons (.str _) (.cons (.int _) .nil))
        refine ⟨_, _, d9 l9', d9 upd_same, pairD_shaped okk, pairD_shaped okk, false, congrArg V.bl (by rw [pairD_eqv]; rfl), iteF ?_⟩
        have sH10 : Same H (upd G9 p10 (.tup [.str (N sh)[k], .int (k : Int)])) := sH9.trans s10
        have hnl10 := s10 _ _ hnl9
        have s710 : Same G7 (upd G9 p10 (.tup [.str (N sh)[k], .int (k : Int)])) := (s8.trans s9).trans s10
        generalize (upd G9 p10 (.tup [.str (N sh)[k], .int (k : Int)])) = G10 at sH10 hnl10 s710
        -- values
        have CA10 := CA.same sH10
        refine ⟨_, rfl, cm, rfl, ⟨_, SqL.of CA10.ls⟩, fun D11 hD11 => ?_⟩
        refine lc_list (K := K) (a := cm) (xs := es.map fun e => V.ref e.1) (fun m G => Same G10 G ∧ ∃ qs : List VV, G D11 = some (.lst (qs.map (·.1))) ∧ qs.length ≤ m ∧ (∀ q ∈ qs, Vl K G q.1 q.2 ∧ ∃ c ∈ came, c.1 = (N sh).take (k + 1) ∧ c.2 = q.2) ∧ ∀ m' c, m' < m → came[m']? = some c → c.1 = (N sh).take (k + 1) → ∃ q ∈ qs, q.2 = c.2)
          ⟨same_new hD11, [], upd_same, Nat.le_refl _, (fun q h => nomatch h), fun m' c h => absurd h (Nat.not_lt_zero _)⟩ (fun m G _ h => SqL.of (h.1 _ _ CA10.ls)) ?_ ?_
        · rintro m x G hx ⟨sG', qs, hqs, hql, hq1, hq2⟩
          have hm : m < es.length := by have := lt_of hx; rw [List.length_map] at this; exact this
          have hmc : m < came.length := by rw [← CA.len]; exact hm
          have ge := List.getElem?_eq_getElem hm
          have gc' := List.getElem?_eq_getElem hmc
          rw [List.getElem?_map, ge] at hx
          obtain rfl := Option.some.inj hx
          obtain ⟨h1, h2, h3⟩ := (CA10.same sG').at_ m _ _ ge gc'
          obtain ⟨he1, he2, he3⟩ := hce _ (List.getElem_mem hmc)
          generalize es[m] = e at h1 h2 h3
          generalize hcd : came[m] = c at h1 h2 h3 he1 he2 he3 gc'
          refine ⟨e.1, _, rfl, h1.sq, rfl, _, _, rfl, _, _, rfl, rfl, rfl, ?_⟩
          have hnlG := sG' _ _ hnl10
          have ec : cutV ((N sh).map V.str) none (some ((k : Int) + 1)) = ((N sh).take (k + 1)).map V.str := by
            have e1 : (k : Int) + 1 = ((k + 1 : Nat) : Int) := by omega
            rw [e1, cut_take _ _ (by rw [List.length_map]; omega), List.map_take]
          refine ⟨_, rfl, _, rfl, _, rfl, _, _, rfl, rfl, _, rfl, nl, _, rfl, SqL.of hnlG, fun pq nq => ?_⟩
          have sq := same_new (o := .lst (cutV ((N sh).map V.str) none (some ((k : Int) + 1)))) nq
          have lq : (upd G pq (.lst (cutV ((N sh).map V.str) none (some ((k : Int) + 1))))) pq = some (.lst (((N sh).take (k + 1)).map V.str)) := by rw [upd_same, ec]
          have nDq : D11 ≠ pq := ne_of_none hqs nq
          have okt : ∀ x ∈ (N sh).take (k + 1), PyData.strOk x = true := fun x hx => hok x (List.mem_of_mem_take hx)
          refine ⟨strD c.1, strD ((N sh).take (k + 1)), strD_dp (sq _ _ h2), strD_dp lq, strD_shaped he2, strD_shaped okt, decide (c.1 = (N sh).take (k + 1)), congrArg V.bl (strD_eqv _ _), ?_⟩
          have sG2 : Same G10 (upd G pq (.lst (cutV ((N sh).map V.str) none (some ((k : Int) + 1))))) := sG'.trans sq
          have hqs2 := sq _ _ hqs
          have h3' := h3.keep (KeepT.of sq)
          have hq1' : ∀ q ∈ qs, Vl K (upd G pq (.lst (cutV ((N sh).map V.str) none (some ((k : Int) + 1))))) q.1 q.2 ∧ ∃ c ∈ came, c.1 = (N sh).take (k + 1) ∧ c.2 = q.2 := fun q hq => ⟨(hq1 q hq).1.keep (KeepT.of sq), (hq1 q hq).2⟩
          by_cases hcp : c.1 = (N sh).take (k + 1)
          · rw [decide_eq_true hcp]
            have sp := fun b o (z : G10 b = some o) => (show (upd (upd G pq (.lst (cutV ((N sh).map V.str) none (some ((k : Int) + 1))))) D11 (.lst (qs.map (·.1) ++ [e.2.2]))) b = some o from by
              by_cases q : b = D11
              · subst q; rw [hD11] at z; cases z
              · rw [upd_ne q]; exact sG2 b o z)
            have ktD : KeepT (upd G pq (.lst (cutV ((N sh).map V.str) none (some ((k : Int) + 1))))) (upd (upd G pq (.lst (cutV ((N sh).map V.str) none (some ((k : Int) + 1))))) D11 (.lst (qs.map (·.1) ++ [e.2.2]))) := fun b ys z => by rw [upd_ne (fun q => by subst q; rw [hqs2] at z; cases z)]; exact z
            refine iteT ⟨_, rfl, _, hqs2, by rw [List.length_map, sizeLine_eq]; omega, sp, qs ++ [(e.2.2, c.2)], by rw [upd_same, List.map_append]; rfl, by rw [List.length_append]; simp only [List.length_singleton]; omega, fun q hq => ?_, fun m' c' hm' hc' hcp' => ?_⟩
            · rcases List.mem_append.mp hq with z | z
              · exact ⟨(hq1' q z).1.keep ktD, (hq1' q z).2⟩
              · obtain rfl := List.mem_singleton.mp z
                exact ⟨h3'.keep ktD, c, List.mem_of_getElem? gc', hcp, rfl⟩
            · by_cases em : m' = m
              · subst em
                rw [gc'] at hc'
                obtain rfl := Option.some.inj hc'
                exact ⟨(e.2.2, c.2), List.mem_append_right _ (List.mem_singleton.mpr rfl), rfl⟩
              · obtain ⟨q, hq, eq⟩ := hq2 m' c' (by omega) hc' hcp'
                exact ⟨q, List.mem_append_left _ hq, eq⟩
          · rw [decide_eq_false hcp]
            refine iteF ⟨sG2, qs, hqs2, by omega, hq1', fun m' c' hm' hc' hcp' => ?_⟩
            by_cases em : m' = m
            · subst em
              rw [gc'] at hc'
              obtain rfl := Option.some.inj hc'
              exact absurd hcp' hcp
            · exact hq2 m' c' (by omega) hc' hcp'
        rintro G12 ⟨s12, qs, hqs, hql, hq1, hq2⟩
        rw [List.length_map, CA.len] at hql hq2
        have sH12 : Same H G12 := sH10.trans s12
        have W12 := W.same sH12
        have hnl12 := s12 _ _ hnl10
        -- kinds
        have hj2 : j2 < R.small.length := by rw [PL.kinds]; exact lt_of hs'
        have gj2 : (R.small.map fun b => V.str (kw b))[j2]? = some (.str (kw R.small[j2])) := by rw [List.getElem?_map, List.getElem?_eq_getElem hj2]; rfl
        refine ⟨_, rfl, L .inst, C, L .own, _, _, rfl, W12.at_ .inst trivial, T.cl, T.nKinds, f_kinds, _, rfl, L .kinds, _, (j2 : Int), _, rfl, rfl, SqL.of (W12.at_ .kinds trivial), atI_nat gj2, rfl, _, rfl, D11, rfl, ⟨_, SqL.of hqs⟩, fun D13 hD13 => ?_⟩
        refine lc_list (K := K) (a := D11) (xs := qs.map (·.1)) (fun m G => Same G12 G ∧ ∃ bs : List VV, G D13 = some (.lst (bs.map (·.1))) ∧ bs.length ≤ m ∧ (∀ q ∈ bs, q ∈ qs ∧ q.2.small = false) ∧ ∀ m' q, m' < m → qs[m']? = some q → q.2.small = false → q ∈ bs)
          ⟨same_new hD13, [], upd_same, Nat.le_refl _, (fun q h => nomatch h), fun m' c h => absurd h (Nat.not_lt_zero _)⟩ (fun m G _ h => SqL.of (h.1 _ _ hqs)) ?_ ?_
        · rintro m x G hx ⟨sG', bs, hbs, hbl, hb1, hb2⟩
          have hm : m < qs.length := by have := lt_of hx; rw [List.length_map] at this; exact this
          have gq := List.getElem?_eq_getElem hm
          rw [get_fst gq] at hx
          obtain rfl := Option.some.inj hx
          generalize qs[m] = q at gq
          have hqm := List.mem_of_getElem? gq
          refine ⟨rfl, _, rfl, q.1, q.2, rfl, (hq1 q hqm).1.keep (KeepT.of sG'), q.2.small, rfl, ?_⟩
          cases hsm : q.2.small with
          | false =>
            refine iteT ⟨_, rfl, _, hbs, by rw [List.length_map, sizeLine_eq]; omega, fun b o z => ?_, bs ++ [q], by rw [upd_same, List.map_append]; rfl, by rw [List.length_append]; simp only [List.length_singleton]; omega, fun q' hq' => ?_, fun m' q' hm' hq' hs2 => ?_⟩
            · by_cases e : b = D13
              · subst e; rw [hD13] at z; cases z
              · rw [upd_ne e]; exact sG' b o z
            · rcases List.mem_append.mp hq' with z | z
              · exact hb1 q' z
              · obtain rfl := List.mem_singleton.mp z; exact ⟨hqm, hsm⟩
            · by_cases em : m' = m
              · subst em
                rw [gq] at hq'
                obtain rfl := Option.some.inj hq'
                exact List.mem_append_right _ (List.mem_singleton.mpr rfl)
              · exact List.mem_append_left _ (hb2 m' q' (by omega) hq' hs2)
          | true =>
            refine iteF ⟨sG', bs, hbs, by omega, hb1, fun m' q' hm' hq' hs2 => ?_⟩
            by_cases em : m' = m
            · subst em
              rw [gq] at hq'
              obtain rfl := Option.some.inj hq'
              rw [hsm] at hs2; cases hs2
            · exact hb2 m' q' (by omega) hq' hs2
        rintro G13 ⟨s13, bs, hbs, hbl, hb1, hb2⟩
        rw [List.length_map] at hb2
        refine ⟨by show 0 ≤ sizeLine; decide, fun p14 n14 => ?_⟩
        have s14 := same_new (o := .lst []) n14
        have sH14 : Same H (upd G13 p14 (.lst [])) := (sH12.trans s13).trans s14
        have dB : Dp K (upd G13 p14 (.lst [])) (.ref D13) (.list ((bs.map (·.2)).map Val.data)) := by
          have z := DpAll.of (K := K) (H := upd G13 p14 (.lst [])) (ps := bs) fun q hq => ((hq1 q (hb1 q hq).1).1.keep (KeepT.of s13)).keep (KeepT.of s14)
          have e : (bs.map fun p => p.2.data) = (bs.map (·.2)).map Val.data := by rw [List.map_map]; rfl
          rw [e] at z
          exact .lst (SqL.of (s14 _ _ hbs)) z
        have okB : ∀ d ∈ bs.map (·.2), d.ok := fun d hd => by
          obtain ⟨q, hq, rfl⟩ := List.mem_map.mp hd
          obtain ⟨c, hcm', _, ec⟩ := (hq1 q (hb1 q hq).1).2
          rw [← ec]
          exact (hce c hcm').2.2
        refine ⟨_, .list [], dB, .lst (SqL.of upd_same) .nil, shaped_all okB, by rfl, rfl, false, ?_, iteF ?_⟩
        · have hsml := PL.sml j2 _ cj' hj0 R.small[j2] (List.getElem?_eq_getElem hj2)
          rw [List.reverse_reverse] at hsml
          rw [kw_small]
          have hbe : PyData.eqv (.list ((bs.map (·.2)).map Val.data)) (.list []) = R.small[j2] := by
            cases bs with
            | nil =>
              have : R.small[j2] = true := hsml.mpr fun e he hee => by
                obtain ⟨m', hm'⟩ := List.getElem?_of_mem he
                obtain ⟨q, hq, eq⟩ := hq2 m' e (lt_of hm') hm' hee
                obtain ⟨m2, hm2⟩ := List.getElem?_of_mem hq
                cases hse : e.2.small with
                | true => rfl
                | false => exact absurd (hb2 m2 q (lt_of hm2) hm2 (by rw [eq]; exact hse)) List.not_mem_nil
              rw [this]; rfl
            | cons q r =>
              have hq := hb1 q List.mem_cons_self
              obtain ⟨c, hcm', ec1, ec2⟩ := (hq1 q hq.1).2
              have : R.small[j2] = false := by
                cases hv : R.small[j2] with
                | false => rfl
                | true =>
                  have z := hsml.mp hv c hcm' ec1
                  rw [ec2, hq.2] at z; cases z
              rw [this]; rfl
          rw [hbe]
          show V.bl (!decide (V.bl R.small[j2] = V.bl R.small[j2])) = V.bl false
          rw [decide_eq_true rfl]; rfl
        have s614 : Same G6 (upd G13 p14 (.lst [])) := ((((s7.trans s710).trans s12).trans s13).trans s14)
        exact ⟨s614, j2, _, _, _, _, _, _, _, cj', rfl⟩
      · rintro σ G7 ⟨s7, j, o8, o9, o10, o11, o12, o13, o14, cj, rfl⟩
        have sH7 : Same H G7 := sH6.trans s7
        have W7 := W.same sH7
        have hnl7 := s7 _ _ hnl6
        have ej : j = sh := by
          rw [List.take_of_length_le (by rw [List.length_map]; omega)] at cj
          exact Chain.uniq hks cj ch
        subst ej
        refine ⟨_, rfl, _, rfl, rfl, false, congrArg V.bl (by rw [decide_eq_true rfl]; rfl), iteF ⟨_, rfl, L .inst, L .own, _, rfl, W7.at_ .inst trivial, f_no (by decide +kernel), _, rfl, L, R, j, _, rfl, W7, fun G8 s8 => ?_⟩⟩
        have hkz : R.kid j "zz" = none := by
          cases z : R.kid j "zz" with
          | none => rfl
          | some i' => exact absurd rfl (PL.kidLt _ _ _ z).2
        rw [hkz]
        refine ⟨rfl, false, rfl, iteF ?_⟩
        have hnl8 := s8 _ _ hnl7
        have t8 : Same H1 G8 := (t6.trans s7).trans s8
        have hrows8 := t8 _ _ hrows
        refine ⟨_, rfl, D1, rfl, ⟨_, SqL.of hrows8⟩, for_list (K := K) (a := D1) (xs := is.map fun (i : Nat) => V.int (i : Int)) (fun m σ G => Same G8 G ∧ ∃ o10 o11 o12 o13 o14, σ = [some (.ref (L .inst)), some (.ref (M .tab)), some (.ref cm), some (.int (i : Int)), some (.ref D1), some (.ref nl), some (.int (j : Int)), some (.int (j : Int)), o8, o9, o10, o11, o12, o13, o14])
          ⟨fun _ _ z => z, _, _, _, _, _, rfl⟩ (fun m σ G _ h => SqL.of (h.1 _ _ hrows8)) ?_ ?_⟩
        · rintro m x σ G9 hx ⟨sO, o10, o11, o12, o13, o14, rfl⟩
          obtain ⟨i', hiq', rfl⟩ : ∃ i, is[m]? = some i ∧ x = V.int (i : Int) := by
            rw [List.getElem?_map] at hx
            cases hq : is[m]? with
            | none => rw [hq] at hx; cases hx
            | some y => rw [hq] at hx; exact ⟨y, rfl, (Option.some.inj hx).symm⟩
          obtain ⟨sh', ps', gc'⟩ := hi i' (List.mem_of_getElem? hiq')
          obtain ⟨ch', hln', _, _⟩ := PL.objs _ (List.mem_of_getElem? gc') sh' ps' rfl
          have sH9 : Same H G9 := (sH7.trans s8).trans sO
          have W9 := W.same sH9
          refine ⟨_, rfl, L .inst, L .own, _, rfl, W9.at_ .inst trivial, f_no (by decide +kernel), _, rfl, by show 2 ≤ sizeLine; decide, fun p10 n10 => ?_⟩
          have sA := same_new (o := .tup [.str "ref", .int (i' : Int)]) n10
          have vA : Vl K (upd G9 p10 (.tup [.str "ref", .int (i' : Int)])) (.ref p10) (.ref (i' : Int)) := ⟨p10, rfl, .inl upd_same⟩
          refine ⟨L, R, .ref p10, _, rfl, W9.same sA, vA, In_ref gc', ?_⟩
          rw [shapeV_obj gc']
          have TA10 : TabAt K (upd G9 p10 (.tup [.str "ref", .int (i' : Int)])) L M ta R N := (TA.same sH9).same sA
          refine ⟨_, rfl, rfl, ?_⟩
          refine ⟨_, rfl, _, rfl, M .tab, .ref (ta i'), rfl, by rw [← tab_get (ta := ta) (lt_of gc')]; exact DGet.k (k := Sum.inl (i' : Int)) (TA10.at_ .tab trivial), ta i', _, 1, .ref (M (.row i')), rfl, rfl, (TA10.tup i' _ gc').sq, atI_nat (j := 1) rfl, M (.row i'), rfl, ⟨_, SqL.of (TA10.rowC gc')⟩, fun D12 hD12 => ?_⟩
          refine lc_list (K := K) (a := M (.row i')) (xs := rowsV M i' (.obj sh' ps')) (fun k G' => Same (upd G9 p10 (.tup [.str "ref", .int (i' : Int)])) G' ∧ G' D12 = some (.lst (((N sh').take k).map V.str))) ⟨same_new hD12, upd_same⟩ (fun k G' _ h => SqL.of (h.1 _ _ (TA10.rowC gc'))) ?_ ?_
          · rintro k x G' hx ⟨sG', hGD⟩
            have hk : k < ps'.length := by have := lt_of hx; rw [rows_len] at this; exact this
            rw [rows_get hk] at hx
            obtain rfl := Option.some.inj hx
            have hkN : k < (N sh').length := by rw [hln']; exact hk
            refine ⟨rfl, yes_ok (iteT ⟨_, rfl, M (.pair i' k), _, 0, .str (N sh')[k], rfl, rfl, SqL.of ((TA10.same sG').pairO gc' hk hkN), atI_nat (j := 0) rfl, _, hGD, by rw [List.length_map, List.length_take, sizeLine_eq]; have := hN3 sh'; omega, fun b o z => ?_, ?_⟩)⟩
            · by_cases q : b = D12
              · subst q; rw [hD12] at z; cases z
              · rw [upd_ne q]; exact sG' b o z
            · rw [upd_same, List.take_succ_eq_append_getElem hkN, List.map_append]; rfl
          rintro G12 ⟨s12, hnl'⟩
          rw [rows_len, ← hln', List.take_length] at hnl'
          have okl' := hNs sh'
          have s812 : Same G8 G12 := (sO.trans sA).trans s12
          have hnl12 := s812 _ _ hnl8
          refine ⟨_, rfl, strD (N sh'), strD (N j), strD_dp hnl', strD_dp hnl12, strD_shaped okl', strD_shaped hok, rfl, false, ?_, iteF ⟨s812, _, _, _, _, _, rfl⟩⟩
          rw [strD_eqv]
          have e1 : decide (V.int (sh' : Int) = V.int (j : Int)) = decide (N sh' = N j) := by
            by_cases z : N sh' = N j
            · rw [decide_eq_true z]
              have e0 : sh' = j := by
                have c1 := ch'
                rw [z] at c1
                exact Chain.uniq hks c1 ch
              rw [e0, decide_eq_true rfl]
            · rw [decide_eq_false z]
              refine decide_eq_false fun q => z ?_
              have e2 : (sh' : Int) = (j : Int) := V.int.inj q
              have e3 : sh' = j := by omega
              rw [e3]
          rw [e1]
          show V.bl (!decide (V.bl (decide (N sh' = N j)) = V.bl (decide (N sh' = N j)))) = V.bl false
          rw [decide_eq_true rfl]; rfl
        · rintro σ G9 ⟨sO, o10, o11, o12, o13, o14, rfl⟩
          exact ⟨t8.trans sO, _, _, _, _, _, _, _, _, _, _, _, rfl⟩
    · rintro σ G ⟨sG, o3, o5, o6, o7, o8, o9, o10, o11, o12, o13, o14, rfl⟩
      have sHG : Same H G := sm1.trans sG
      have WG := W.same sHG
      have ewid : (R.widened.map fun (n : Nat) => V.int (n : Int)) = (R.widened.map fun (n : Nat) => (n : Int)).map V.int := by rw [List.map_map]; rfl
      have hwid := WG.at_ .widened trivial
      have ndw : (R.widened.map fun (n : Nat) => (n : Int)).Nodup := List.Pairwise.map (R := fun (a b : Nat) => a ≠ b) (S := fun (a b : Int) => a ≠ b) (fun (n : Nat) => (n : Int)) (fun a b h z => h (by omega)) PL.wid
      refine ⟨_, rfl, L .inst, C, L .own, _, _, rfl, WG.at_ .inst trivial, T.cl, T.nWidened, f_widened, L .widened, R.widened.map (fun (n : Nat) => (n : Int)), rfl, by rw [← ewid]; exact SqL.of hwid, ndw, by rw [List.length_map]; have := PL.few; omega, _, rfl, L .inst, C, L .own, _, _, rfl, WG.at_ .inst trivial, T.cl, T.nWidened, f_widened, L .widened, _, rfl, .inl (SqL.of hwid), rfl, true, congrArg V.bl (decide_eq_true (congrArg (fun (n : Nat) => V.int (n : Int)) (by rw [List.length_map, List.length_map]))), iteT ?_⟩
      refine ⟨_, rfl, L .inst, C, L .own, _, _, rfl, WG.at_ .inst trivial, T.cl, T.nWidened, f_widened, L .widened, rfl, ⟨_, SqL.of hwid⟩, fun D9 hD9 => ?_⟩
      refine lc_list (K := K) (a := L .widened) (xs := R.widened.map fun (n : Nat) => V.int (n : Int)) (fun m G' => Same G G' ∧ G' D9 = some (.lst [])) ⟨same_new hD9, upd_same⟩ (fun m G' _ h => SqL.of (h.1 _ _ hwid)) ?_ ?_
      · rintro m x G' hx ⟨sG', hGD⟩
        obtain ⟨i, hiq, rfl⟩ : ∃ i, R.widened[m]? = some i ∧ x = V.int (i : Int) := by
          rw [List.getElem?_map] at hx
          cases hq : R.widened[m]? with
          | none => rw [hq] at hx; cases hx
          | some y => rw [hq] at hx; exact ⟨y, rfl, (Option.some.inj hx).symm⟩
        have hfa := PL.widA i (List.mem_of_getElem? hiq)
        have gk : (R.small.map fun b => V.str (kw b))[i]? = some (.str "any") := by rw [List.getElem?_map, hfa]; rfl
        have WG' := W.same (sHG.trans sG')
        exact ⟨rfl, _, rfl, L .inst, C, L .own, _, _, rfl, WG'.at_ .inst trivial, T.cl, T.nKinds, f_kinds, _, rfl, L .kinds, _, (i : Int), _, rfl, rfl, SqL.of (WG'.at_ .kinds trivial), atI_nat gk, rfl, false, rfl, iteF ⟨sG', hGD⟩⟩
      · rintro G' ⟨sG', hGD⟩
        refine ⟨by show 0 ≤ sizeLine; decide, fun p n => ⟨.list [], .list [], .lst (SqL.of (same_new n _ _ hGD)) .nil, .lst (SqL.of upd_same) .nil, by rfl, by rfl, kQ _ ((sHG.trans sG').trans (same_new n))⟩⟩
end
end My
namespace My
open PySem PySem.Spec PyProof.Rows L2
def ABC (x : Str) : Prop := x = "a" ∨ x = "b" ∨ x = "c"
/-- what is true of shapes, kinds, objects and of what came -/
structure PLs (R : WS) (N : Nat → List Str) (came : List (List Str × Val)) : Prop where
  root : ∃ s, R.shapes[0]? = some s ∧ s.frm = none ∧ s.slot = -1
  all : ∀ j, j < R.shapes.length → Chain R.shapes j (N j).reverse
  kids : Kids R
  kidS : ∀ p x i, R.kid p x = some i → 0 < i ∧ ∃ s, R.shapes[i]? = some s ∧ s.frm = some (p, x)
  kinds : R.small.length = R.shapes.length
  abc : ∀ sh, (N sh).Nodup ∧ ∀ x ∈ N sh, ABC x
  objs : ∀ c ∈ R.cells, ∀ sh ps, c = .obj sh ps → sh < R.shapes.length ∧ (N sh).length = ps.length
  sml : ∀ j, 0 < j → ∀ b, R.small[j]? = some b → (b = true ↔ ∀ e ∈ came, e.1 = N j → e.2.small = true)
  wid : R.widened.Nodup
  widA : ∀ i ∈ R.widened, R.small[i]? = some false
  vals : ∀ c ∈ R.cells, ∀ sh ps, c = .obj sh ps → ∀ (k : Nat) (p : VV), ps[k]? = some p → ((N sh).take (k + 1), p.2) ∈ came
  paths : ∀ e ∈ came, ∃ j, 0 < j ∧ j < R.shapes.length ∧ N j = e.1
theorem rev_inj {a b : List Str} (h : a.reverse = b.reverse) : a = b := by rw [← List.reverse_reverse a, h, List.reverse_reverse]
section
variable {R : WS} {N : Nat → List Str} {came : List (List Str × Val)}
theorem PLs.inj (P : PLs R N came) {i j : Nat} (hi : i < R.shapes.length) (hj : j < R.shapes.length) (e : N i = N j) : i = j := by
  have h1 := P.all i hi
  rw [e] at h1
  exact Chain.uniq P.kids h1 (P.all j hj)
theorem note_kid (j : Nat) (d : Val) : (R.note j d).kid = R.kid := by unfold WS.note; split <;> rfl
theorem PLs.note (P : PLs R N came) {j : Nat} {d : Val} (h0 : 0 < j) (hj : j < R.shapes.length) : PLs (R.note j d) N (came ++ [(N j, d)]) := by
  have hjs : j < R.small.length := by rw [P.kinds]; exact hj
  have paths' : ∀ e ∈ came ++ [(N j, d)], ∃ j, 0 < j ∧ j < R.shapes.length ∧ N j = e.1 := fun e he => by
    rcases List.mem_append.mp he with z | z
    · exact P.paths e z
    · obtain rfl := List.mem_singleton.mp z; exact ⟨j, h0, hj, rfl⟩
  have vals' : ∀ c ∈ R.cells, ∀ sh ps, c = .obj sh ps → ∀ (k : Nat) (p : VV), ps[k]? = some p → ((N sh).take (k + 1), p.2) ∈ came ++ [(N j, d)] := fun c hc sh ps e k p hp => List.mem_append_left _ (P.vals c hc sh ps e k p hp)
  by_cases c : R.small[j]? = some true ∧ d.small = false
  · have e : R.note j d = { R with small := R.small.set j false, widened := R.widened ++ [j] } := if_pos c
    rw [e]
    refine ⟨P.root, P.all, P.kids, P.kidS, by show (R.small.set j false).length = _; rw [List.length_set]; exact P.kinds, P.abc, P.objs, fun i hi b hb => ?_, ?_, fun i hi => ?_, vals', paths'⟩
    · have hb : (R.small.set j false)[i]? = some b := hb
      rw [List.getElem?_set] at hb
      by_cases z : j = i
      · subst z
        rw [if_pos rfl, if_pos hjs] at hb
        obtain rfl := Option.some.inj hb
        refine ⟨fun q => (by cases q), fun q => ?_⟩
        have := q (N j, d) (List.mem_append_right _ (List.mem_singleton.mpr rfl)) rfl
        rw [c.2] at this
        exact this
      · rw [if_neg z] at hb
        refine (P.sml i hi b hb).trans ⟨fun q e he hee => ?_, fun q e he => q e (List.mem_append_left _ he)⟩
        rcases List.mem_append.mp he with y | y
        · exact q e y hee
        · obtain rfl := List.mem_singleton.mp y
          exact absurd (P.inj hj (by rw [← P.kinds]; exact lt_of hb) hee) z
    · show (R.widened ++ [j]).Nodup
      rw [List.nodup_append]
      refine ⟨P.wid, by simp, fun a ha b hb => ?_⟩
      obtain rfl := List.mem_singleton.mp hb
      intro z
      subst z
      have := P.widA a ha
      rw [c.1] at this
      cases this
    · have hi : i ∈ R.widened ++ [j] := hi
      show (R.small.set j false)[i]? = some false
      rw [List.getElem?_set]
      by_cases z : j = i
      · subst z; rw [if_pos rfl, if_pos hjs]
      · rw [if_neg z]
        rcases List.mem_append.mp hi with y | y
        · exact P.widA i y
        · exact absurd (List.mem_singleton.mp y).symm z
  · have e : R.note j d = R := if_neg c
    rw [e]
    refine ⟨P.root, P.all, P.kids, P.kidS, P.kinds, P.abc, P.objs, fun i hi b hb => ?_, P.wid, P.widA, vals', paths'⟩
    refine (P.sml i hi b hb).trans ⟨fun q e he hee => ?_, fun q e he => q e (List.mem_append_left _ he)⟩
    rcases List.mem_append.mp he with y | y
    · exact q e y hee
    · obtain rfl := List.mem_singleton.mp y
      have z : i = j := P.inj (by rw [← P.kinds]; exact lt_of hb) hj hee.symm
      subst z
      show d.small = true
      cases hd : d.small with
      | true => rfl
      | false =>
        exfalso
        have hbt : b = false := by
          cases b with
          | false => rfl
          | true => exact absurd ⟨hb, hd⟩ c
        subst hbt
        exact absurd ((P.sml i hi false hb).mpr q) (by simp)
theorem PLs.setCell (P : PLs R N came) {i sh : Nat} {ps : List VV} (h1 : sh < R.shapes.length) (h2 : (N sh).length = ps.length) (h3 : ∀ (k : Nat) (p : VV), ps[k]? = some p → ((N sh).take (k + 1), p.2) ∈ came) : PLs (R.setCell i (.obj sh ps)) N came := by
  refine ⟨P.root, P.all, P.kids, P.kidS, P.kinds, P.abc, fun c hc sh' ps' e => ?_, P.sml, P.wid, P.widA, fun c hc sh' ps' e => ?_, P.paths⟩
  · rcases List.mem_or_eq_of_mem_set hc with z | z
    · exact P.objs c z sh' ps' e
    · rw [z] at e; cases e; exact ⟨h1, h2⟩
  · rcases List.mem_or_eq_of_mem_set hc with z | z
    · exact P.vals c z sh' ps' e
    · rw [z] at e; cases e; exact h3
theorem PLs.setList (P : PLs R N came) {i : Nat} {ps : List VV} : PLs (R.setCell i (.lst ps)) N came := by
  refine ⟨P.root, P.all, P.kids, P.kidS, P.kinds, P.abc, fun c hc sh' ps' e => ?_, P.sml, P.wid, P.widA, fun c hc sh' ps' e => ?_, P.paths⟩
  · rcases List.mem_or_eq_of_mem_set hc with z | z
    · exact P.objs c z sh' ps' e
    · rw [z] at e; cases e
  · rcases List.mem_or_eq_of_mem_set hc with z | z
    · exact P.vals c z sh' ps' e
    · rw [z] at e; cases e
theorem PLs.printed (P : PLs R N came) (l : List Str) : PLs { R with printed := l } N came := ⟨P.root, P.all, P.kids, P.kidS, P.kinds, P.abc, P.objs, P.sml, P.wid, P.widA, P.vals, P.paths⟩
theorem Chain.mono {S : List Sh} (s : Sh) : ∀ {rs : List Str} {i : Nat}, Chain S i rs → Chain (S ++ [s]) i rs
  | _, _, .root a b c => .root (by rw [List.getElem?_append_left (lt_of a)]; exact a) b c
  | _, _, .step a b c d e => .step a (by rw [List.getElem?_append_left (lt_of b)]; exact b) c d (Chain.mono s e)
theorem kid_add {R : WS} {v : V} {sh : Nat} {x : Str} {k : Nat} {d : Val} (h : R.kid sh x = none) (p : Nat) (y : Str) : (R.addShape v sh x k d).kid p y = if (p, y) = (sh, x) then some R.shapes.length else R.kid p y := by
  show ((R.kids ++ [((sh, x), R.shapes.length)]).find? fun e => decide (e.1 = (p, y))).map (·.2) = _
  rw [List.find?_append]
  by_cases z : (p, y) = (sh, x)
  · rw [if_pos z]
    have h0 : (R.kids.find? fun e => decide (e.1 = (p, y))) = none := by
      rw [z]
      cases q : R.kids.find? fun e => decide (e.1 = (sh, x)) with
      | none => rfl
      | some e =>
        have : R.kid sh x = some e.2 := by show ((R.kids.find? fun e => decide (e.1 = (sh, x))).map (·.2)) = _; rw [q]; rfl
        rw [h] at this; cases this
    rw [h0, z]
    simp
  · rw [if_neg z]
    have h1 : ([((sh, x), R.shapes.length)] : List ((Nat × Str) × Nat)).find? (fun e => decide (e.1 = (p, y))) = none := by
      rw [List.find?_cons, decide_eq_false (fun q => z q.symm)]
      rfl
    rw [h1, Option.or_none]
    rfl
def addN (N : Nat → List Str) (n sh : Nat) (x : Str) : Nat → List Str := fun i => if i = n then N sh ++ [x] else N i
theorem PLs.add (P : PLs R N came) {sh : Nat} {x : Str} {d : Val} {v : V} (hs : sh < R.shapes.length) (hk : R.kid sh x = none) (hx : x ∉ N sh) (ha : ABC x) :
    PLs (R.addShape v sh x (N sh).reverse.length d) (addN N R.shapes.length sh x) (came ++ [(N sh ++ [x], d)]) := by
  have hlen : (R.addShape v sh x (N sh).reverse.length d).shapes.length = R.shapes.length + 1 := by show (R.shapes ++ [_]).length = _; rw [List.length_append]; rfl
  have oldN : ∀ i, i < R.shapes.length → addN N R.shapes.length sh x i = N i := fun i hi => if_neg (by omega)
  have newN : addN N R.shapes.length sh x R.shapes.length = N sh ++ [x] := if_pos rfl
  have getNew : (R.addShape v sh x (N sh).reverse.length d).shapes[R.shapes.length]? = some ⟨v, some (sh, x), ((N sh).reverse.length : Int)⟩ := by
    show (R.shapes ++ [_])[R.shapes.length]? = _
    rw [List.getElem?_append_right (Nat.le_refl _), Nat.sub_self]; rfl
  have noPath : ∀ j, j < R.shapes.length → N j ≠ N sh ++ [x] := fun j hj e => by
    have c := P.all j hj
    rw [e, List.reverse_append] at c
    cases c with
    | step a b c' d' e' =>
      have hp := Chain.uniq P.kids e' (P.all sh hs)
      subst hp
      have := P.kids _ _ _ _ a b c'
      rw [hk] at this
      cases this
  obtain ⟨s0, r1, r2, r3⟩ := P.root
  have hpos : 0 < R.shapes.length := Nat.lt_of_le_of_lt (Nat.zero_le _) hs
  refine ⟨⟨s0, by show (R.shapes ++ [_])[0]? = _; rw [List.getElem?_append_left hpos]; exact r1, r2, r3⟩, fun j hj => ?_, fun i s p y h0 h1 h2 => ?_, fun p y i h => ?_, ?_, fun i => ?_, fun c hc sh' ps e => ?_, fun i hi b hb => ?_, P.wid, fun i hi => ?_, fun c hc sh' ps e k p hp => ?_, fun e he => ?_⟩
  · rw [hlen] at hj
    by_cases z : j = R.shapes.length
    · subst z
      rw [newN, List.reverse_append]
      exact .step hpos getNew rfl rfl (Chain.mono _ (P.all sh hs))
    · rw [oldN j (by omega)]
      exact Chain.mono _ (P.all j (by omega))
  · rw [kid_add hk]
    by_cases z : i = R.shapes.length
    · subst z
      rw [getNew] at h1
      obtain rfl := Option.some.inj h1
      have e : (p, y) = (sh, x) := (Option.some.inj h2).symm
      rw [if_pos e]
    · have hi : i < R.shapes.length := by have := lt_of h1; rw [hlen] at this; omega
      have h1' : R.shapes[i]? = some s := by
        have q : (R.shapes ++ [(⟨v, some (sh, x), ((N sh).reverse.length : Int)⟩ : Sh)])[i]? = some s := h1
        rw [List.getElem?_append_left hi] at q
        exact q
      have := P.kids i s p y h0 h1' h2
      rw [if_neg (fun q => by
        obtain ⟨rfl, rfl⟩ := Prod.mk.inj q
        rw [hk] at this
        cases this)]
      exact this
  · rw [kid_add hk] at h
    by_cases z : (p, y) = (sh, x)
    · rw [if_pos z] at h
      obtain rfl := Option.some.inj h
      exact ⟨hpos, _, getNew, congrArg some z.symm⟩
    · rw [if_neg z] at h
      obtain ⟨a, s, b, c⟩ := P.kidS p y i h
      exact ⟨a, s, by show (R.shapes ++ [_])[i]? = _; rw [List.getElem?_append_left (lt_of b)]; exact b, c⟩
  · rw [hlen]
    show (R.small ++ [d.small]).length = _
    rw [List.length_append, P.kinds]; rfl
  · by_cases z : i = R.shapes.length
    · subst z
      rw [newN]
      obtain ⟨nd, ab⟩ := P.abc sh
      refine ⟨?_, fun y hy => ?_⟩
      · rw [List.nodup_append]
        refine ⟨nd, by simp, fun a ha' b hb => ?_⟩
        obtain rfl := List.mem_singleton.mp hb
        exact fun q => hx (by rw [← q]; exact ha')
      · rcases List.mem_append.mp hy with q | q
        · exact ab y q
        · obtain rfl := List.mem_singleton.mp q; exact ha
    · have e : addN N R.shapes.length sh x i = N i := if_neg z
      rw [e]
      exact P.abc i
  · obtain ⟨a, b⟩ := P.objs c hc sh' ps e
    exact ⟨by rw [hlen]; omega, by rw [oldN sh' a]; exact b⟩
  · have hb' : (R.small ++ [d.small])[i]? = some b := hb
    by_cases z : i = R.shapes.length
    · subst z
      have hb'' : (R.small ++ [d.small])[R.small.length]? = some b := by rw [P.kinds]; exact hb'
      rw [List.getElem?_append_right (Nat.le_refl _), Nat.sub_self] at hb''
      obtain rfl := Option.some.inj hb''
      rw [newN]
      refine ⟨fun q e he hee => ?_, fun q => q (N sh ++ [x], d) (List.mem_append_right _ (List.mem_singleton.mpr rfl)) rfl⟩
      rcases List.mem_append.mp he with y | y
      · obtain ⟨j, _, hj, ej⟩ := P.paths e y
        exact absurd (ej.trans hee) (noPath j hj)
      · obtain rfl := List.mem_singleton.mp y; exact q
    · have hi' : i < R.small.length := by have := lt_of hb'; rw [List.length_append] at this; simp only [List.length_singleton] at this; rw [P.kinds] at this ⊢; omega
      rw [List.getElem?_append_left hi'] at hb'
      have hi2 : i < R.shapes.length := by rw [← P.kinds]; exact hi'
      rw [oldN i hi2]
      refine (P.sml i hi b hb').trans ⟨fun q e he hee => ?_, fun q e he => q e (List.mem_append_left _ he)⟩
      rcases List.mem_append.mp he with y | y
      · exact q e y hee
      · obtain rfl := List.mem_singleton.mp y
        exact absurd hee.symm (noPath i hi2)
  · show (R.small ++ [d.small])[i]? = some false
    have := P.widA i hi
    rw [List.getElem?_append_left (lt_of this)]
    exact this
  · obtain ⟨a, _⟩ := P.objs c hc sh' ps e
    rw [oldN sh' a]
    exact List.mem_append_left _ (P.vals c hc sh' ps e k p hp)
  · rcases List.mem_append.mp he with y | y
    · obtain ⟨j, a, b, c⟩ := P.paths e y
      exact ⟨j, a, by rw [hlen]; omega, by rw [oldN j b]; exact c⟩
    · obtain rfl := List.mem_singleton.mp y
      exact ⟨R.shapes.length, hpos, by rw [hlen]; omega, newN⟩
end
end My
namespace My
open PySem PySem.Spec PyProof.Rows L2
abbrev sLaw : Stmt := topS 30
abbrev nLaw : List Str := ["script", "draws", "world", "table", "came", "met", "t", "refs", "turn", "at", "here", "told", "kind", "rows", "bad", "name", "known", "names", "index", "due", "other", "found", "one", "two", "sign", "many", "words", "spot", "pair"]
theorem scLaw : FnScope nLaw ["script"] (defScope sLaw) := ⟨rfl, rfl, rfl, by decide +kernel, rfl, by decide +kernel, by decide +kernel⟩
def forBody : Stmt → List Stmt
  | .For _ _ b _ _ => b
  | _ => []
def ifThen : Stmt → List Stmt
  | .If _ a _ _ => a
  | _ => []
def ifElse : Stmt → List Stmt
  | .If _ _ b _ => b
  | _ => []
def noS : Stmt := .Pass ⟨0, 0, 0, 0⟩
abbrev loopB : List Stmt := forBody ((defBody sLaw).getD 5 noS)
abbrev tailS : List Stmt := loopB.drop 5
abbrev objS : List Stmt := ifThen (loopB.getD 4 noS)
abbrev lstS : List Stmt := ifElse (loopB.getD 4 noS)
example : loopB.length = 14 := by decide +kernel
example : tailS.length = 9 := by decide +kernel
example : objS.length = 6 := by decide +kernel
example : lstS.length = 9 := by decide +kernel
/-- what stays in the law's loop -/
structure Cn where
  L : Lab → Addr
  ta : Nat → Addr
  n : Nat
  da : Addr
  ds : List Int
  rf : Addr
  rps : List VV
  cm : Addr
  ml : Addr
  tb : Addr
def Out (k : Cn) (M : TLab → Addr) (R : WS) (q : Addr) : Prop := (∀ l, live k.n l → k.L l ≠ q) ∧ (∀ l, tlive R l → M l ≠ q) ∧ q ≠ k.cm
structure LSx (K : PySem.W.Frag) (k : Cn) (H : Hp) (M : TLab → Addr) (R : WS) (N : Nat → List Str) (es : List (Addr × Addr × V)) (came cp : List (List Str × Val)) (b : Nat) : Prop where
  n : R.cells.length = k.n
  pos : 0 < k.n
  n9 : k.n ≤ 9
  b9 : b ≤ 200
  tab : TabAt K H k.L M k.ta R N
  tb : M .tab = k.tb
  ca : CameAt K H k.cm es came
  pl : PLs R N cp
  dr : ∀ c ∈ R.cells, ∀ p ∈ c.vs, Drawn k.n p.2
  few : ∀ c ∈ R.cells, c.vs.length ≤ b
  bS : R.shapes.length ≤ b + 1
  bK : R.kids.length ≤ b
  bW : R.widened.length ≤ b
  bP : R.printed.length ≤ b
  bC : came.length ≤ b
  ce : ∀ e ∈ came, e.2.ok
  draws : H k.da = some (.lst (k.ds.map V.int))
  dok : DrawsOk 3780 k.ds
  refs : H k.rf = some (.lst (k.rps.map (·.1)))
  rlen : k.rps.length = k.n
  ri : ∀ (i : Nat) (p : VV), k.rps[i]? = some p → p.2 = .ref (i : Int)
  rv : ∀ p ∈ k.rps, Vl K H p.1 p.2
  met : H k.ml = some (.lst [])
  outs : ∀ q, (q = k.da ∨ q = k.rf ∨ q = k.ml ∨ ∃ e ∈ es, q = e.2.1) → Out k M R q
  cmL : ∀ l, live k.n l → k.L l ≠ k.cm
  cmM : ∀ l, tlive R l → M l ≠ k.cm
abbrev LS (K : PySem.W.Frag) (k : Cn) (H : Hp) (M : TLab → Addr) (R : WS) (N : Nat → List Str) (es : List (Addr × Addr × V)) (came : List (List Str × Val)) (b : Nat) : Prop := LSx K k H M R N es came came b
/-- only things of the world change -/
theorem LSx.kept {K : PySem.W.Frag} {k : Cn} {H H' : Hp} {M : TLab → Addr} {R : WS} {N : Nat → List Str} {es : List (Addr × Addr × V)} {came cp : List (List Str × Val)} {b : Nat} (S : LSx K k H M R N es came cp b) (kp : Kept k.n k.L H H') (kt : KeepT H H') : LSx K k H' M R N es came cp b :=
  { n := S.n, pos := S.pos, n9 := S.n9, b9 := S.b9
    tab := ⟨fun l hl => kp _ _ (S.tab.at_ l hl) fun m hm z => S.tab.sep l m hl (by rw [S.n]; exact hm) z.symm, S.tab.inj, S.tab.sep, fun i c hc => (S.tab.tup i c hc).keep kt⟩
    tb := S.tb
    ca := ⟨kp _ _ S.ca.ls S.cmL, S.ca.len, fun i e c a d => by obtain ⟨h1, h2, h3⟩ := S.ca.at_ i e c a d; exact ⟨h1.keep kt, kp _ _ h2 (S.outs _ (.inr (.inr (.inr ⟨e, List.mem_of_getElem? a, rfl⟩)))).1, h3.keep kt⟩⟩
    pl := S.pl, dr := S.dr, few := S.few, bS := S.bS, bK := S.bK, bW := S.bW, bP := S.bP, bC := S.bC, ce := S.ce
    draws := kp _ _ S.draws (S.outs _ (.inl rfl)).1
    dok := S.dok
    refs := kp _ _ S.refs (S.outs _ (.inr (.inl rfl))).1
    rlen := S.rlen, ri := S.ri
    rv := fun p hp => (S.rv p hp).keep kt
    met := kp _ _ S.met (S.outs _ (.inr (.inr (.inl rfl)))).1
    outs := S.outs, cmL := S.cmL, cmM := S.cmM }
theorem LSx.same {K : PySem.W.Frag} {k : Cn} {H H' : Hp} {M : TLab → Addr} {R : WS} {N : Nat → List Str} {es : List (Addr × Addr × V)} {came cp : List (List Str × Val)} {b : Nat} (S : LSx K k H M R N es came cp b) (s : Same H H') : LSx K k H' M R N es came cp b := S.kept (Kept.of s) (KeepT.of s)
theorem LS.kept {K : PySem.W.Frag} {k : Cn} {H H' : Hp} {M : TLab → Addr} {R : WS} {N : Nat → List Str} {es : List (Addr × Addr × V)} {came : List (List Str × Val)} {b : Nat} (S : LS K k H M R N es came b) (kp : Kept k.n k.L H H') (kt : KeepT H H') : LS K k H' M R N es came b := LSx.kept S kp kt
theorem LS.same {K : PySem.W.Frag} {k : Cn} {H H' : Hp} {M : TLab → Addr} {R : WS} {N : Nat → List Str} {es : List (Addr × Addr × V)} {came : List (List Str × Val)} {b : Nat} (S : LS K k H M R N es came b) (s : Same H H') : LS K k H' M R N es came b := LSx.same S s
/-- the frame's values in the loop -/
def sg (k : Cn) (o : Nat → Option V) : L2.St :=
  [o 0, some (.ref k.da), some (.ref (k.L .inst)), some (.ref k.tb), some (.ref k.cm), some (.ref k.ml), o 6, some (.ref k.rf), o 8, o 9, o 10, o 11, o 12, o 13, o 14, o 15, o 16, o 17, o 18, o 19, o 20, o 21, o 22, o 23, o 24, o 25, o 26, o 27, o 28]
def o_ (o : Nat → Option V) (i : Nat) (v : Option V) : Nat → Option V := fun j => if j = i then v else o j
theorem TabAt.cong {K : PySem.W.Frag} {H : Hp} {L : Lab → Addr} {M : TLab → Addr} {ta : Nat → Addr} {R R' : WS} {N : Nat → List Str} (T : TabAt K H L M ta R N) (e : R'.cells = R.cells) : TabAt K H L M ta R' N := by
  have tl : ∀ l, tlive R' l → tlive R l := fun l h => by
    cases l with
    | tab => trivial
    | row i => show i < R.cells.length; rw [← e]; exact h
    | pair i k => obtain ⟨sh, ps, h1, h2⟩ := h; exact ⟨sh, ps, by rw [← e]; exact h1, h2⟩
  have tc : ∀ l, tcon M ta R' N l = tcon M ta R N l := fun l => by
    cases l with
    | tab => show HO.dK (tabD ta R'.cells.length) = _; rw [e]; rfl
    | row i => show HO.lst ((R'.cells[i]?.map (rowsV M i)).getD []) = _; rw [e]; rfl
    | pair i k => show HO.lst ((R'.cells[i]?.map (pairV N k)).getD []) = _; rw [e]; rfl
  exact ⟨fun l h => by rw [tc]; exact T.at_ l (tl l h), fun l m h1 h2 => T.inj l m (tl l h1) (tl m h2), fun l m h1 h2 => T.sep l m (tl l h1) (by rw [← e]; exact h2), fun i c hc => T.tup i c (by rw [← e]; exact hc)⟩
theorem tlive_cong {R R' : WS} (e : R'.cells = R.cells) {l : TLab} (h : tlive R' l) : tlive R l := by
  cases l with
  | tab => trivial
  | row i => show i < R.cells.length; rw [← e]; exact h
  | pair i k => obtain ⟨sh, ps, h1, h2⟩ := h; exact ⟨sh, ps, by rw [← e]; exact h1, h2⟩
/-- a text more was printed -/
theorem LS.print {K : PySem.W.Frag} {k : Cn} {H : Hp} {M : TLab → Addr} {R : WS} {N : Nat → List Str} {es : List (Addr × Addr × V)} {came : List (List Str × Val)} {b : Nat} (S : LS K k H M R N es came b) (hb : b < 200) (l : List Str) (hl : l.length ≤ b + 1) : LS K k H M { R with printed := l } N es came (b + 1) :=
  { n := S.n, pos := S.pos, n9 := S.n9, b9 := hb, tab := S.tab.cong rfl, tb := S.tb, ca := S.ca, pl := S.pl.printed l, dr := S.dr
    few := fun c hc => Nat.le_succ_of_le (S.few c hc), bS := Nat.le_succ_of_le S.bS, bK := Nat.le_succ_of_le S.bK, bW := Nat.le_succ_of_le S.bW, bP := hl, bC := Nat.le_succ_of_le S.bC
    ce := S.ce, draws := S.draws, dok := S.dok, refs := S.refs, rlen := S.rlen, ri := S.ri, rv := S.rv, met := S.met
    outs := fun q h => ⟨(S.outs q h).1, fun l hl => (S.outs q h).2.1 l (tlive_cong rfl hl), (S.outs q h).2.2⟩, cmL := S.cmL, cmM := fun l hl => S.cmM l (tlive_cong rfl hl) }
theorem LS.mono {K : PySem.W.Frag} {k : Cn} {H : Hp} {M : TLab → Addr} {R : WS} {N : Nat → List Str} {es : List (Addr × Addr × V)} {came : List (List Str × Val)} {b b' : Nat} (S : LS K k H M R N es came b) (h : b ≤ b') (h2 : b' ≤ 200) : LS K k H M R N es came b' :=
  { S with b9 := h2, few := fun c hc => Nat.le_trans (S.few c hc) h, bS := by have := S.bS; omega, bK := Nat.le_trans S.bK h, bW := Nat.le_trans S.bW h, bP := Nat.le_trans S.bP h, bC := Nat.le_trans S.bC h }
theorem tlive_list {R : WS} {i : Nat} {ps ps' : List VV} (hc : R.cells[i]? = some (.lst ps)) {l : TLab} (h : tlive (R.setCell i (.lst ps')) l) : tlive R l := by
  cases l with
  | tab => trivial
  | row j =>
    have h' : j < (R.cells.set i (.lst ps')).length := h
    rw [List.length_set] at h'
    exact h'
  | pair j k =>
    obtain ⟨sh, qs, h1, h2⟩ := h
    rw [setCell_get (lt_of hc)] at h1
    by_cases z : i = j
    · rw [if_pos z] at h1; cases h1
    · rw [if_neg z] at h1; exact ⟨sh, qs, h1, h2⟩
/-- a list's row changes -/
theorem TabAt.putRow {K : PySem.W.Frag} {H : Hp} {L : Lab → Addr} {M : TLab → Addr} {ta : Nat → Addr} {R : WS} {N : Nat → List Str} (T : TabAt K H L M ta R N) {i : Nat} {ps ps' : List VV} (hc : R.cells[i]? = some (.lst ps)) : TabAt K (upd H (M (.row i)) (.lst (ps'.map (·.1)))) L M ta (R.setCell i (.lst ps')) N := by
  have hl : (R.setCell i (.lst ps')).cells.length = R.cells.length := List.length_set
  have kt : KeepT H (upd H (M (.row i)) (.lst (ps'.map (·.1)))) := fun b xs e => by
    rw [upd_ne (fun z => by subst z; rw [T.rowC hc] at e; cases e)]; exact e
  refine ⟨fun l h => ?_, fun l m h1 h2 => T.inj l m (tlive_list hc h1) (tlive_list hc h2), fun l m h1 h2 => T.sep l m (tlive_list hc h1) (by rw [← hl]; exact h2), fun j c hj => ?_⟩
  · by_cases z : l = .row i
    · subst z
      rw [upd_same]
      show _ = some (HO.lst (((R.setCell i (.lst ps')).cells[i]?.map (rowsV M i)).getD []))
      rw [setCell_get (lt_of hc), if_pos rfl]; rfl
    · rw [upd_ne (fun q => z (T.inj l (.row i) (tlive_list hc h) (lt_of hc) q)), T.at_ l (tlive_list hc h)]
      cases l with
      | tab => show some (HO.dK (tabD ta R.cells.length)) = some (HO.dK (tabD ta (R.setCell i (.lst ps')).cells.length)); rw [hl]
      | row j =>
        have n : i ≠ j := fun q => z (by rw [q])
        show some (HO.lst ((R.cells[j]?.map (rowsV M j)).getD [])) = some (HO.lst (((R.setCell i (.lst ps')).cells[j]?.map (rowsV M j)).getD []))
        rw [setCell_get (lt_of hc), if_neg n]
      | pair j k =>
        obtain ⟨sh, qs, h1, _⟩ := h
        rw [setCell_get (lt_of hc)] at h1
        have n : i ≠ j := fun q => by rw [if_pos q] at h1; cases h1
        show some (HO.lst ((R.cells[j]?.map (pairV N k)).getD [])) = some (HO.lst (((R.setCell i (.lst ps')).cells[j]?.map (pairV N k)).getD []))
        rw [setCell_get (lt_of hc), if_neg n]
  · rw [setCell_get (lt_of hc)] at hj
    by_cases z : i = j
    · subst z
      rw [if_pos rfl] at hj
      obtain rfl := Option.some.inj hj
      exact (T.tup i _ hc).keep kt
    · rw [if_neg z] at hj
      exact (T.tup j c hj).keep kt
theorem LS.putRow {K : PySem.W.Frag} {k : Cn} {H : Hp} {M : TLab → Addr} {R : WS} {N : Nat → List Str} {es : List (Addr × Addr × V)} {came : List (List Str × Val)} {b : Nat} (S : LS K k H M R N es came b) {i : Nat} {ps ps' : List VV} (hc : R.cells[i]? = some (.lst ps)) (hd : ∀ p ∈ ps', Drawn k.n p.2) (hl : ps'.length ≤ b) :
    LS K k (upd H (M (.row i)) (.lst (ps'.map (·.1)))) M (R.setCell i (.lst ps')) N es came b := by
  have hr : tlive R (.row i) := lt_of hc
  have kt : KeepT H (upd H (M (.row i)) (.lst (ps'.map (·.1)))) := fun b xs e => by
    rw [upd_ne (fun z => by subst z; rw [S.tab.rowC hc] at e; cases e)]; exact e
  have ou : ∀ q, Out k M R q → ∀ o, H q = some o → (upd H (M (.row i)) (.lst (ps'.map (·.1)))) q = some o := fun q h o e => by rw [upd_ne (fun z => h.2.1 _ hr z.symm)]; exact e
  exact
  { n := by show (R.cells.set i _).length = _; rw [List.length_set]; exact S.n
    pos := S.pos, n9 := S.n9, b9 := S.b9, tab := S.tab.putRow hc, tb := S.tb
    ca := ⟨by rw [upd_ne (fun z => S.cmM _ hr z.symm)]; exact S.ca.ls, S.ca.len, fun j e c a d => by obtain ⟨h1, h2, h3⟩ := S.ca.at_ j e c a d; exact ⟨h1.keep kt, ou _ (S.outs _ (.inr (.inr (.inr ⟨e, List.mem_of_getElem? a, rfl⟩)))) _ h2, h3.keep kt⟩⟩
    pl := S.pl.setList
    dr := fun c hcm p hp => by
      rcases List.mem_or_eq_of_mem_set hcm with z | z
      · exact S.dr c z p hp
      · subst z; exact hd p hp
    few := fun c hcm => by
      rcases List.mem_or_eq_of_mem_set hcm with z | z
      · exact S.few c z
      · subst z; exact hl
    bS := S.bS, bK := S.bK, bW := S.bW, bP := S.bP, bC := S.bC, ce := S.ce
    draws := ou _ (S.outs _ (.inl rfl)) _ S.draws
    dok := S.dok
    refs := ou _ (S.outs _ (.inr (.inl rfl))) _ S.refs
    rlen := S.rlen, ri := S.ri, rv := fun p hp => (S.rv p hp).keep kt
    met := ou _ (S.outs _ (.inr (.inr (.inl rfl)))) _ S.met
    outs := fun q h => ⟨(S.outs q h).1, fun l hl' => (S.outs q h).2.1 l (tlive_list hc hl'), (S.outs q h).2.2⟩
    cmL := S.cmL, cmM := fun l hl' => S.cmM l (tlive_list hc hl') }
/-- the law's own things change, the world stands -/
theorem WorldAt.row {K : PySem.W.Frag} {C : Addr} {H : Hp} {L : Lab → Addr} {R R0 : WS} {M : TLab → Addr} {q : Addr} {xs ys : List V} (W : WorldAt K C H L R) (h : ∀ m, live R.cells.length m → L m ≠ q) (hq : H q = some (.lst xs)) : WorldAt K C (upd H q (.lst ys)) L R :=
  W.keep (fun l hl => by rw [upd_ne (h l hl)]) (fun b zs e => by rw [upd_ne (fun z => by subst z; rw [hq] at e; cases e)]; exact e)
end My
namespace My
open PySem PySem.Spec PyProof.Rows L2
/-- names of built-ins that the module leaves alone -/
structure Bn (mg : Str → Option Value) : Prop where
  len : mg "len" = none
  int : mg "int" = none
  str : mg "str" = none
  range : mg "range" = none
  sorted : mg "sorted" = none
theorem sign4 : ∀ {i c : Nat}, i < 4 → ("+-*<" : Str).cps[i]? = some c → ((⟨#[c]⟩ : Str) = "+" ∨ (⟨#[c]⟩ : Str) = "-") ∨ (⟨#[c]⟩ : Str) = "*" ∨ (⟨#[c]⟩ : Str) = "<" := by
  intro i c hi h
  have : i = 0 ∨ i = 1 ∨ i = 2 ∨ i = 3 := by omega
  have e : ("+-*<" : Str).cps = #[43, 45, 42, 60] := by decide +kernel
  rw [e] at h
  rcases this with rfl | rfl | rfl | rfl <;> (obtain rfl := Option.some.inj h)
  · exact .inl (.inl (by decide +kernel))
  · exact .inl (.inr (by decide +kernel))
  · exact .inr (.inl (by decide +kernel))
  · exact .inr (.inr (by decide +kernel))
theorem strOk_append {a b : Str} (ha : PyData.strOk a = true) (hb : PyData.strOk b = true) : PyData.strOk (a ++ b) = true := by
  show (a.cps ++ b.cps).all (· < 0x110000) = true
  rw [Array.all_append]
  exact Bool.and_eq_true_iff.mpr ⟨ha, hb⟩
theorem join_ok {sg : Str} {d e : Val} (hd : d.ok) (he : e.ok) : (join sg d e).ok := by
  have kd : (Res.thrown "kind").ok := by show PyData.strOk ("kind" : Str) = true; decide +kernel
  have lg : (Res.thrown "long").ok := by show PyData.strOk ("long" : Str) = true; decide +kernel
  have gt : (Res.thrown "great").ok := by show PyData.strOk ("great" : Str) = true; decide +kernel
  have gr : ∀ n : Int, (great n).ok := fun n => by
    unfold great
    by_cases c : 1000000000 < (if n < 0 then -n else n)
    · rw [if_pos c]; exact gt
    · rw [if_neg c]; trivial
  have tt : ∀ a b : Str, (Val.text a).ok → (Val.text b).ok → (join sg (.text a) (.text b)).ok := fun a b ha hb => by
    show (if sg = "+" then (if 40 < a.length + b.length then Res.thrown "long" else .val (.text (a ++ b))) else Res.thrown "kind").ok
    by_cases c : sg = "+"
    · rw [if_pos c]
      by_cases c2 : 40 < a.length + b.length
      · rw [if_pos c2]; exact lg
      · rw [if_neg c2]; exact strOk_append ha hb
    · rw [if_neg c]; exact kd
  have ii : ∀ m n : Int, (join sg (.int m) (.int n)).ok := fun m n => by
    rw [join_int]
    by_cases c : sg = "<"
    · rw [if_pos c]; trivial
    · rw [if_neg c]
      by_cases c2 : sg = "+"
      · rw [if_pos c2]; exact gr _
      · rw [if_neg c2]
        by_cases c3 : sg = "-"
        · rw [if_pos c3]; exact gr _
        · rw [if_neg c3]; exact gr _
  cases d <;> cases e <;> first
    | exact kd
    | exact tt _ _ hd he
    | exact ii _ _
def notRes : Val → Res
  | .bool b => .val (.bool !b)
  | _ => .thrown "kind"
theorem told_not' {K : PySem.W.Frag} {C CT : Addr} {H : Hp} {L : Lab → Addr} {R : WS} {Q : VK} {E : XK} {v : V} {d : Val} {ar : Addr} (W : WorldAt K C H L R) (har : H ar = some (.lst [v])) (hv : Vl K H v d) (k : ∀ H' u, Same H H' → ResAt K H' u (notRes d) → Q u H') :
    spTold K C CT [.ref (L .inst), .str "!", .non, .ref ar] H Q E :=
  told_not W har hv (fun b e H' u s h => k H' u s (by rw [e]; exact h)) (fun e H' u s h => k H' u s (by cases d <;> first | exact h | cases e))
theorem cut_drop (a b : List V) : cutV (a ++ b) (some (a.length : Int)) none = b := by
  unfold cutV
  rw [HT.sIx_none, HT.sIx_nat, Nat.min_eq_left (by rw [List.length_append]; omega), List.drop_left, List.take_of_length_le (by rw [List.length_append]; omega)]
theorem char_lt (c : Char) : c.toNat < 0x110000 := by
  have h := c.valid
  show c.val.toNat < 0x110000
  rcases h with h | h
  · have h' : c.val.toNat < 0xd800 := h
    omega
  · exact h.2
theorem strOk_of (s : String) : PyData.strOk (Str.ofString s) = true := by
  rw [Str.ofString_eq_toList]
  show ((s.toList.map Char.toNat).toArray).all (fun x => decide (x < 0x110000)) = true
  rw [List.all_toArray]
  rw [List.all_eq_true]
  intro x hx
  obtain ⟨c, _, rfl⟩ := List.mem_map.mp hx
  exact decide_eq_true (char_lt c)
theorem intT_ok (n : Int) : PyData.strOk (intT n) = true := strOk_of _
theorem text_strOk {R : WS} {d : Val} {n : Nat} (h : Drawn n d) (hin : d.In R) : PyData.strOk (textOf d (R.kindOf d)) = true := by
  cases d with
  | int z => exact intT_ok z
  | bool b =>
    obtain rfl : b = true := h
    show PyData.strOk ("true" : Str) = true
    decide +kernel
  | nul => show PyData.strOk ("null" : Str) = true; decide +kernel
  | text s => exact h.2
  | fn z => show PyData.strOk ("fun" : Str) = true; decide +kernel
  | ref z =>
    obtain ⟨i, c, rfl, hc⟩ := hin z rfl
    show PyData.strOk (R.kindOf (.ref (i : Int))) = true
    rw [kindOf_ref hc]
    cases c
    · show PyData.strOk ("object" : Str) = true; decide +kernel
    · show PyData.strOk ("list" : Str) = true; decide +kernel
theorem ResAt.keep {K : PySem.W.Frag} {H H' : Hp} {v : V} : ∀ {r : Res}, ResAt K H v r → KeepT H H' → ResAt K H' v r
  | .val _, h, k => Vl.keep h k
  | .thrown _, h, k => ThrAt.keep h k
section
variable {P : Program} {w : World} {K : PySem.W.Frag} {mg : Str → Option Value} {base : Heap} {C CT : Addr}
theorem tail_ok {fT fD fG fM fU : Addr} {fdT fdD fdG fdM fdU : FuncData} (T : WT K mg C) (B : Bn mg)
    (GT : FnOk P w K mg base CX0 6 fT fdT ["world", "what", "name", "args"] (spTold K C CT)) (cT : Fc K mg "_law_told" fT fdT ["world", "what", "name", "args"]) (GD : FnOk P w K mg base CX0 2 fD fdD ["draws", "k", "refs"] (spDrawn K)) (cD : Fc K mg "_law_drawn" fD fdD ["draws", "k", "refs"])
    (GG : FnOk P w K mg base CX0 1 fG fdG ["sign", "one", "two"] (spSign K)) (cG : Fc K mg "_law_sign" fG fdG ["sign", "one", "two"]) (GM : FnOk P w K mg base CX0 1 fM fdM ["one", "two"] (spSame K)) (cM : Fc K mg "same" fM fdM ["one", "two"])
    (GU : FnOk P w K mg base CX0 3 fU fdU ["self", "value"] (spOut K C)) (cU : Mc K C "out" fU fdU ["self", "value"])
    {f : Addr} {cdv : Value} {A : Around} {outer : List Env} {s : Shared} {H0 : Hp} {E : XK} (hr : Room 11 (A.deeper (envOfC "law" (defScope sLaw) s.heap.objs.size f cdv))) :
    ∃ t, PSs (cxOf CX0 P w K mg base nLaw "law" (defScope sLaw) f cdv A outer s H0 E).nox tailS t ∧ ∀ (k : Cn) (D : Ends) (o : Nat → Option V) (H : Hp) (M : TLab → Addr) (R : WS) (N : Nat → List Str) (es : List (Addr × Addr × V)) (came : List (List Str × Val)) (b : Nat) (at_ : Int) (vb : V),
      WorldAt K C H k.L R → LS K k H M R N es came b → b < 190 → 0 ≤ at_ → at_ ≤ 100000 → o 9 = some (.int at_) → o 14 = some vb → ThrAt K H vb "kind" → (∀ o' H' R', WorldAt K C H' k.L R' → LS K k H' M R' N es came (b + 1) → D.nx (sg k o') H') → t D (sg k o) H := by
  refine ⟨_, (pss_cons (ps_par (i := 22) (j := 23) (by rfl) scLaw.nd rfl rfl (by decide) rfl rfl (pa_cons (pe_call GD (hr.mono (by decide)) rfl cD.g cD.kp cD.b .nil pass0 (pa_cons (pv 1) (pa_cons (pe_op op_add (pv 9) pe_int) (pa_cons (pv 7) pa_nil)))) (pa_cons (pe_call GD (hr.mono (by decide)) rfl cD.g cD.kp cD.b .nil pass0 (pa_cons (pv 1) (pa_cons (pe_op op_add (pv 9) pe_int) (pa_cons (pv 7) pa_nil)))) pa_nil)) (by rfl)) (pss_cons (ps_for PassesOwn.never rfl (pi_str pe_str) (pg_name (i := 24) scLaw.nd rfl (Or.inl rfl)) (pss_one (ps_if (pt_cmpR (op_neD (hu64 hr)) (pe_call GT (hr.mono (by decide)) rfl cT.g cT.kp cT.b .nil pass0 (pa_cons (pv 2) (pa_cons (pv 24) (pa_cons pe_non (pa_cons (pe_lst (pa_cons (pv 22) (pa_cons (pv 23) pa_nil))) pa_nil))))) (pe_call GG (hr.mono (by decide)) rfl cG.g cG.kp cG.b .nil pass0 (pa_cons (pv 24) (pa_cons (pv 22) (pa_cons (pv 23) pa_nil)))) (nomark _)) (pss_one (ps_ret pe_bl)) pss_nil))) (pss_cons (ps_if (PW.pt (pw_or (pt_cmpR (op_neD (hu64 hr)) (pe_call GT (hr.mono (by decide)) rfl cT.g cT.kp cT.b .nil pass0 (pa_cons (pv 2) (pa_cons pe_str (pa_cons pe_non (pa_cons (pe_lst (pa_cons (pv 22) (pa_cons (pv 23) pa_nil))) pa_nil))))) (pe_tup (pa_cons pe_str (pa_cons (pe_cmpR (op_eqD (hu64 hr)) (pv 22) (pv 23) (nomark _)) pa_nil))) (nomark _)) (pw_or1 (pt_cmpR op_ne (pe_call GM (hr.mono (by decide)) rfl cM.g cM.kp cM.b .nil pass0 (pa_cons (pv 22) (pa_cons (pv 23) pa_nil))) (pe_cmpR (op_eqD (hu64 hr)) (pv 22) (pv 23) (nomark _)) (nomark _))))) (pss_one (ps_ret pe_bl)) pss_nil) (pss_cons (ps_if (pt_cmpR (op_neD (hu64 hr)) (pe_call GT (hr.mono (by decide)) rfl cT.g cT.kp cT.b .nil pass0 (pa_cons (pv 2) (pa_cons pe_str (pa_cons pe_non (pa_cons (pe_lst (pa_cons (pv 22) pa_nil)) pa_nil))))) (pe_ix  ix_list (pe_lst (pa_cons (pv 14) (pa_cons (pe_tup (pa_cons pe_str (pa_cons pe_bl pa_nil))) pa_nil))) (pe_callTy call_int1 (by rfl) B.int (by decide +kernel) (pa_cons (pe_cmpR op_eq (pe_ix  ix_tup (pv 22) pe_int (fun _ _ => rfl)) pe_str (nomark _)) pa_nil)) (fun _ _ => rfl)) (nomark _)) (pss_one (ps_ret pe_bl)) pss_nil) (pss_cons (ps_set (i := 25) scLaw.nd rfl (.inl rfl) (pe_callB call_len_seq (by rfl) B.len PySem.boot_len (pa_cons (pe_fld (pv 2) rfl) pa_nil))) (pss_cons (ps_expr (pe_meth (pv 2) T.cl cU.m GU (hr.mono (by decide)) cU.b .nil pass0 (pa_cons (pv 22) pa_nil))) (pss_cons (ps_set (i := 26) scLaw.nd rfl (.inl rfl) (pe_disp (pps_cons pe_str pe_str (pps_cons pe_str pe_str (pps_cons pe_str pe_str pps_nil))) (by rfl) (by rfl) (fun z => by cases z) (by decide))) (pss_cons (ps_if (pt_cmpR op_eq (pe_ix  ix_tup (pv 22) pe_int (fun _ _ => rfl)) pe_str (nomark _)) (pss_one (ps_set (i := 26) scLaw.nd rfl (.inl rfl) (pe_disp (pps_cons pe_str (pe_ix  ix_tup (pe_dget (hu_of hr) (pv 3) (pe_ix  ix_tup (pv 22) pe_int (fun _ _ => rfl)) (fun _ _ => rfl)) pe_int (fun _ _ => rfl)) pps_nil) (by rfl) (by rfl) (fun z => by cases z) (by decide)))) pss_nil) (pss_one (ps_if (pt_cmpR (op_neD (hu64 hr)) (pe_slice sl_list (pe_fld (pv 2) rfl) (po_some (pv 25)) po_none) (pe_lst (pa_cons (pe_dget2 (hu_of hr) (pv 26) (pe_ix  ix_tup (pv 22) pe_int (fun _ _ => rfl)) (pe_callTy call_str_any (by rfl) B.str (by decide +kernel) (pa_cons (pe_ix  ix_tup (pv 22) (pe_un un_neg pe_int) (fun _ _ => rfl)) pa_nil)) ⟨rfl, rfl, rfl, rfl⟩) pa_nil)) (nomark _)) (pss_one (ps_ret pe_bl)) pss_nil)))))))))), ?_⟩
  intro k D o H M R N es came b at_ vb W S hb ha0 ha1 ho9 ho14 hvb kQ
  have hpl : k.rps.length = k.n := S.rlen
  have hn9 := S.n9
  have hp0 := S.pos
  -- one, two
  refine ⟨_, rfl, _, congrArg some ho9, _, _, rfl, rfl, _, rfl, k.da, k.rf, k.ds, at_ + 15, k.rps, rfl, SqL.of S.draws, S.dok, by omega, by omega, SqL.of S.refs, by omega, by omega, S.rv, S.ri, fun H1 v1 d q1 hv1 hd1 => ?_⟩
  have S1 := S.same q1
  refine ⟨_, rfl, _, congrArg some ho9, _, _, rfl, rfl, _, rfl, k.da, k.rf, k.ds, at_ + 20, k.rps, rfl, SqL.of S1.draws, S.dok, by omega, by omega, SqL.of S1.refs, by omega, by omega, S1.rv, S.ri, fun H2 v2 e q2 hv2 hd2 => ?_⟩
  have hv1 := hv1.keep (KeepT.of q2)
  rw [hpl] at hd1 hd2
  have q12 : Same H H2 := q1.trans q2
  -- the signs
  refine ⟨_, _, rfl, _, rfl, fun i m σ G => m = 4 - i ∧ i ≤ 4 ∧ Same H2 G ∧ ∃ o24, σ = sg k (o_ (o_ (o_ o 22 (some v1)) 23 (some v2)) 24 o24), ⟨4, rfl, by decide, fun _ _ z => z, o 24, rfl⟩, ?_⟩
  rintro i m σ G ⟨rfl, hi, sG, o24, rfl⟩
  by_cases hlt : i < 4
  · refine .inr ⟨by show i < 4; exact hlt, fun σ' H' => ∃ m', m' < 4 - i ∧ _, fun _ _ z => z, ?_⟩
    rintro x H' ⟨rfl, c, hcc, rfl⟩
    have hsg := sign4 hlt hcc
    generalize (⟨#[c]⟩ : Str) = sgn at hsg
    have WG := W.same (q12.trans sG)
    have w1 := hv1.keep (KeepT.of sG)
    have w2 := hv2.keep (KeepT.of sG)
    refine ⟨_, rfl, _, rfl, _, rfl, _, rfl, by show 2 ≤ sizeLine; decide, fun ar nar => ?_⟩
    have sA := same_new (o := .lst [v1, v2]) nar
    refine told_sign (E := E) (WG.same sA) upd_same hsg (w1.keep (KeepT.of sA)) (w2.keep (KeepT.of sA)) hd1.mid hd2.mid fun H3 r3 s3 res3 => ?_
    have sB := sA.trans s3
    refine ⟨_, rfl, _, rfl, _, rfl, sgn, v1, v2, d, e, rfl, by rcases hsg with (z | z) | z | z <;> simp [z], w1.keep (KeepT.of sB), w2.keep (KeepT.of sB), hd1.mid, hd2.mid, fun H4 r4 s4 dp4 => ?_⟩
    have hok := join_ok (sg := sgn) hd1.ok hd2.ok
    have res4 : ResAt K H4 r3 (join sgn d e) := res3.keep (KeepT.of s4)
    exact ⟨_, _, res4.dp, dp4, Res.shaped _ hok, Res.shaped _ hok, false, congrArg V.bl (by rw [eqv_same _ hok]; rfl), iteF ⟨4 - (i + 1), by omega, rfl, hlt, sG.trans (sB.trans s4), some (.str sgn), rfl⟩⟩
  have ei : i = 4 := by omega
  subst ei
  refine .inl ⟨Nat.le_refl _, ?_⟩
  have sG2 : Same H G := q12.trans sG
  have WG := W.same sG2
  have w1 := hv1.keep (KeepT.of sG)
  have w2 := hv2.keep (KeepT.of sG)
  have SG := S.same sG2
  have vbG := hvb.keep (KeepT.of sG2)
  -- ==
  refine ⟨_, rfl, _, rfl, _, rfl, by show 2 ≤ sizeLine; decide, fun ar nar => ?_⟩
  have sA := same_new (o := .lst [v1, v2]) nar
  refine told_eq (E := E) (WG.same sA) upd_same (w1.keep (KeepT.of sA)) (w2.keep (KeepT.of sA)) hd1.ok hd2.ok fun H3 r3 s3 res3 => ?_
  have sB := sA.trans s3
  have x1 := w1.keep (KeepT.of sB)
  have x2 := w2.keep (KeepT.of sB)
  refine ⟨_, rfl, _, rfl, d.data, e.data, x1.dp, x2.dp, d.shaped hd1.ok, e.shaped hd2.ok, by show 2 ≤ sizeLine; decide, fun t nt => ?_⟩
  rw [eqvVal]
  have sC := same_new (o := .tup [.str "bool", .bl (decide (d = e))]) nt
  have bt : Vl K (upd H3 t (.tup [.str "bool", .bl (decide (d = e))])) (.ref t) (.bool (decide (d = e))) := ⟨t, rfl, .inl upd_same⟩
  have x3 := res3.keep (KeepT.of sC)
  have sD : Same G (upd H3 t (.tup [.str "bool", .bl (decide (d = e))])) := sB.trans sC
  generalize (upd H3 t (.tup [.str "bool", .bl (decide (d = e))])) = H4 at bt x3 sD
  have okb : (Res.val (.bool (decide (d = e)))).ok := trivial
  refine ⟨_, _, x3.dp, bt.dp, Val.shaped _ trivial, Val.shaped _ trivial, false, congrArg V.bl (by rw [show PyData.eqv (Val.bool (decide (d = e))).data (Val.bool (decide (d = e))).data = true from eqv_same _ okb]; rfl), iteF ?_⟩
  have y1 := w1.keep (KeepT.of sD)
  have y2 := w2.keep (KeepT.of sD)
  refine ⟨_, rfl, _, rfl, v1, v2, d, e, rfl, y1, y2, hd1.ok, hd2.ok, _, rfl, _, rfl, d.data, e.data, y1.dp, y2.dp, d.shaped hd1.ok, e.shaped hd2.ok, rfl, false, ?_, iteF ?_⟩
  · rw [eqvVal]
    show V.bl (!decide (V.bl (decide (d = e)) = V.bl (decide (d = e)))) = V.bl false
    rw [decide_eq_true rfl]; rfl
  -- !
  obtain ⟨a1, rfl, t1⟩ := id y1
  have y4 : ThrAt K H4 vb "kind" := vbG.keep (KeepT.of sD)
  have sG4 : Same H H4 := sG2.trans sD
  have W4 := W.same sG4
  refine ⟨_, rfl, _, rfl, by show 1 ≤ sizeLine; decide, fun ar2 nar2 => ?_⟩
  have sE := same_new (o := .lst [.ref a1]) nar2
  have W4 := W4.same sE
  refine told_not' (E := E) W4 upd_same (y1.keep (KeepT.of sE)) fun H5 r5 s5 res5 => ?_
  have s45 := sE.trans s5
  have t5 := t1.keep (KeepT.of s45)
  refine ⟨_, congrArg some ho14, by show 2 ≤ sizeLine; decide, fun t6 n6 => ⟨by show 2 ≤ sizeLine; decide, fun l6 m6 => ?_⟩⟩
  have sF := same_new (o := .tup [.str "bool", .bl false]) n6
  have sH := same_new (o := .lst [vb, .ref t6]) m6
  have fb : Vl K (upd (upd H5 t6 (.tup [.str "bool", .bl false])) l6 (.lst [vb, .ref t6])) (.ref t6) (.bool false) := Vl.keep ⟨t6, rfl, .inl upd_same⟩ (KeepT.of sH)
  have s58 : Same H5 (upd (upd H5 t6 (.tup [.str "bool", .bl false])) l6 (.lst [vb, .ref t6])) := sF.trans sH
  have l68 : (upd (upd H5 t6 (.tup [.str "bool", .bl false])) l6 (.lst [vb, .ref t6])) l6 = some (.lst [vb, .ref t6]) := upd_same
  generalize (upd (upd H5 t6 (.tup [.str "bool", .bl false])) l6 (.lst [vb, .ref t6])) = H8 at fb s58 l68
  have s48 : Same H4 H8 := s45.trans s58
  have t8 := t1.keep (KeepT.of s48)
  have b8 := y4.keep (KeepT.of s48)
  have r8 := res5.keep (KeepT.of s58)
  have pick : ∃ u, atI [vb, V.ref t6] (if d.isBool = true then 1 else 0) = some u ∧ ResAt K H8 u (notRes d) := by
    cases d with
    | bool bb =>
      have hbt : bb = true := hd1
      subst hbt
      exact ⟨.ref t6, rfl, fb⟩
    | _ => exact ⟨vb, rfl, b8⟩
  obtain ⟨u8, eu8, res8⟩ := pick
  have okn : (notRes d).ok := by
    have okk : (Res.thrown "kind").ok := by show PyData.strOk ("kind" : Str) = true; decide +kernel
    cases d <;> first | exact okk | trivial
  refine ⟨_, rfl, a1, _, 0, .str d.word, rfl, rfl, t8.sq, atI_nat (j := 0) rfl, rfl, .inr ⟨_, rfl, ?_⟩⟩
  rw [d.word_bool]
  refine ⟨l6, _, _, u8, rfl, rfl, SqL.of l68, eu8, _, _, r8.dp, res8.dp, Res.shaped _ okn, Res.shaped _ okn, false, congrArg V.bl (by rw [eqv_same _ okn]; rfl), iteF ?_⟩
  have sH8 : Same H H8 := sG4.trans s48
  have W8 := W.same sH8
  have S8 := S.same sH8
  have y8 := y1.keep (KeepT.of s48)
  have hin : d.In R := fun z ez => by
    subst ez
    obtain ⟨i, hi, rfl⟩ := hd1
    have hi' : i < R.cells.length := by rw [S.n]; exact hi
    exact ⟨i, _, rfl, List.getElem?_eq_getElem hi'⟩
  -- many, out
  refine ⟨_, rfl, k.L .inst, C, k.L .own, _, _, rfl, W8.at_ .inst trivial, T.cl, T.nPrinted, f_printed, k.L .printed, _, rfl, .inl (SqL.of (W8.at_ .printed trivial)), ?_⟩
  refine ⟨_, rfl, k.L .inst, k.L .own, _, rfl, W8.at_ .inst trivial, f_no (by decide +kernel), _, rfl, k.L, R, .ref a1, d, rfl, W8, y8, hin, hd1.mid, by have := S.bP; omega, fun H9 W9 K9 => ?_⟩
  have kt9 := K9.tups W8
  have S9 := (S8.kept (by rw [← S.n]; exact K9) kt9).print (by omega) (R.printed ++ [textOf d (R.kindOf d)]) (by rw [List.length_append]; have := S.bP; simp only [List.length_singleton]; omega)
  have t9 := t8.keep kt9
  have epr : (R.printed.map V.str).length = R.printed.length := List.length_map _
  refine fun wd nwd => ?_
  have sW : Same H9 (upd (upd H9 wd (.dK [])) wd (.dK (mergeK [] [(Sum.inr "bool", .str "true"), (Sum.inr "null", .str "null"), (Sum.inr "fun", .str "fun")]))) := same_put (same_new nwd) nwd
  have lW : (upd (upd H9 wd (.dK [])) wd (.dK (mergeK [] [((Sum.inr "bool" : Key), V.str "true"), (Sum.inr "null", .str "null"), (Sum.inr "fun", .str "fun")]))) wd = some (.dK (mergeK [] [((Sum.inr "bool" : Key), V.str "true"), (Sum.inr "null", .str "null"), (Sum.inr "fun", .str "fun")])) := upd_same
  refine ⟨upd_same, [(Sum.inr "bool", .str "true"), (Sum.inr "null", .str "null"), (Sum.inr "fun", .str "fun")], rfl, (by show 3 ≤ 15; decide), ?_⟩
  generalize (upd (upd H9 wd (.dK [])) wd (.dK (mergeK [] [((Sum.inr "bool" : Key), V.str "true"), (Sum.inr "null", .str "null"), (Sum.inr "fun", .str "fun")]))) = H10 at sW lW
  have t10 := t9.keep (KeepT.of sW)
  refine ⟨_, rfl, a1, _, 0, .str d.word, rfl, rfl, t10.sq, atI_nat (j := 0) rfl, rfl, _, congrArg V.bl d.word_ref, ?_⟩
  have W10 := W9.same sW
  have S10 := S9.same sW
  have hpr : H10 (k.L .printed) = some (.lst ((R.printed ++ [textOf d (R.kindOf d)]).map V.str)) := W10.at_ .printed trivial
  have ecut : cutV ((R.printed ++ [textOf d (R.kindOf d)]).map V.str) (some ((R.printed.map V.str).length : Int)) none = [textOf d (R.kindOf d)].map V.str := by
    rw [List.map_append]
    exact cut_drop _ _
  have oktx : ∀ x ∈ [textOf d (R.kindOf d)], PyData.strOk x = true := fun x hx => by
    obtain rfl := List.mem_singleton.mp hx
    exact text_strOk hd1 hin
  cases d with
  | int z =>
    have e0W := W10
    have e0S := S10
    have e0pr := hpr
    have e0t := t10
    have eg : (none : Option V) = valV (mergeK [] [((Sum.inr "bool" : Key), V.str "true"), (Sum.inr "null", .str "null"), (Sum.inr "fun", .str "fun")]) (Sum.inr "int" : Key) := by rfl
    refine iteF ?_
    refine ⟨_, rfl, k.L .inst, C, k.L .own, _, _, rfl, e0W.at_ .inst trivial, T.cl, T.nPrinted, f_printed, _, rfl, _, rfl, k.L .printed, _, rfl, SqL.of e0pr, fun pp npp => ?_⟩
    have sP := same_new (o := .lst (cutV ((R.printed ++ [textOf (.int z) (R.kindOf (.int z))]).map V.str) (some ((R.printed.map V.str).length : Int)) none)) npp
    have lP : (upd H10 pp (.lst (cutV ((R.printed ++ [textOf (.int z) (R.kindOf (.int z))]).map V.str) (some ((R.printed.map V.str).length : Int)) none))) pp = some (.lst ([textOf (.int z) (R.kindOf (.int z))].map V.str)) := by rw [upd_same]; exact congrArg (fun l => some (HO.lst l)) ecut
    have tP := e0t.keep (KeepT.of sP)
    refine ⟨_, rfl, wd, rfl, .inl ⟨_, .inl (sP _ _ lW)⟩, _, rfl, a1, _, 0, .str "int", rfl, rfl, tP.sq, atI_nat (j := 0) rfl, _, rfl, 1, rfl, a1, _, -1, (.int z), rfl, rfl, tP.sq, rfl, (.int z), _, rfl, rfl, (fun i e => by injection e with e; subst e; exact log_mid (by have h : -40000 ≤ z ∧ z ≤ 999999999 := hd1; omega) (by have h : -40000 ≤ z ∧ z ≤ 999999999 := hd1; omega)), (none : Option V), ?_, by show 1 ≤ sizeLine; decide, fun qq nqq => ?_⟩
    · rw [eg]
      exact DGet.k (k := Sum.inr "int") (sP _ _ lW)
    · have sQ := same_new (o := .lst [V.str (textOf (.int z) (R.kindOf (.int z)))]) nqq
      have lQ : (upd (upd H10 pp (.lst (cutV ((R.printed ++ [textOf (.int z) (R.kindOf (.int z))]).map V.str) (some ((R.printed.map V.str).length : Int)) none))) qq (.lst [V.str (textOf (.int z) (R.kindOf (.int z)))])) qq = some (.lst ([textOf (.int z) (R.kindOf (.int z))].map V.str)) := upd_same
      refine ⟨strD [textOf (.int z) (R.kindOf (.int z))], strD [textOf (.int z) (R.kindOf (.int z))], strD_dp (sQ _ _ lP), strD_dp lQ, strD_shaped oktx, strD_shaped oktx, false, congrArg V.bl (by rw [strD_eqv, decide_eq_true rfl]; rfl), iteF ?_⟩
      exact kQ (o_ (o_ (o_ (o_ (o_ o 22 (some (.ref a1))) 23 (some v2)) 24 o24) 25 (some (.int ((R.printed.map V.str).length : Int)))) 26 (some (.ref wd))) _ _ (e0W.same (sP.trans sQ)) (e0S.same (sP.trans sQ))
  | bool bb =>
    obtain rfl : bb = true := hd1
    have e0W := W10
    have e0S := S10
    have e0pr := hpr
    have e0t := t10
    have eg : some (V.str "true") = valV (mergeK [] [((Sum.inr "bool" : Key), V.str "true"), (Sum.inr "null", .str "null"), (Sum.inr "fun", .str "fun")]) (Sum.inr "bool" : Key) := by rfl
    refine iteF ?_
    refine ⟨_, rfl, k.L .inst, C, k.L .own, _, _, rfl, e0W.at_ .inst trivial, T.cl, T.nPrinted, f_printed, _, rfl, _, rfl, k.L .printed, _, rfl, SqL.of e0pr, fun pp npp => ?_⟩
    have sP := same_new (o := .lst (cutV ((R.printed ++ [textOf (.bool true) (R.kindOf (.bool true))]).map V.str) (some ((R.printed.map V.str).length : Int)) none)) npp
    have lP : (upd H10 pp (.lst (cutV ((R.printed ++ [textOf (.bool true) (R.kindOf (.bool true))]).map V.str) (some ((R.printed.map V.str).length : Int)) none))) pp = some (.lst ([textOf (.bool true) (R.kindOf (.bool true))].map V.str)) := by rw [upd_same]; exact congrArg (fun l => some (HO.lst l)) ecut
    have tP := e0t.keep (KeepT.of sP)
    refine ⟨_, rfl, wd, rfl, .inl ⟨_, .inl (sP _ _ lW)⟩, _, rfl, a1, _, 0, .str "bool", rfl, rfl, tP.sq, atI_nat (j := 0) rfl, _, rfl, 1, rfl, a1, _, -1, (.bl true), rfl, rfl, tP.sq, rfl, (.bl true), _, rfl, rfl, (fun i e => nomatch e), some (V.str "true"), ?_, by show 1 ≤ sizeLine; decide, fun qq nqq => ?_⟩
    · rw [eg]
      exact DGet.k (k := Sum.inr "bool") (sP _ _ lW)
    · have sQ := same_new (o := .lst [V.str (textOf (.bool true) (R.kindOf (.bool true)))]) nqq
      have lQ : (upd (upd H10 pp (.lst (cutV ((R.printed ++ [textOf (.bool true) (R.kindOf (.bool true))]).map V.str) (some ((R.printed.map V.str).length : Int)) none))) qq (.lst [V.str (textOf (.bool true) (R.kindOf (.bool true)))])) qq = some (.lst ([textOf (.bool true) (R.kindOf (.bool true))].map V.str)) := upd_same
      refine ⟨strD [textOf (.bool true) (R.kindOf (.bool true))], strD [textOf (.bool true) (R.kindOf (.bool true))], strD_dp (sQ _ _ lP), strD_dp lQ, strD_shaped oktx, strD_shaped oktx, false, congrArg V.bl (by rw [strD_eqv, decide_eq_true rfl]; rfl), iteF ?_⟩
      exact kQ (o_ (o_ (o_ (o_ (o_ o 22 (some (.ref a1))) 23 (some v2)) 24 o24) 25 (some (.int ((R.printed.map V.str).length : Int)))) 26 (some (.ref wd))) _ _ (e0W.same (sP.trans sQ)) (e0S.same (sP.trans sQ))
  | nul =>
    have e0W := W10
    have e0S := S10
    have e0pr := hpr
    have e0t := t10
    have eg : some (V.str "null") = valV (mergeK [] [((Sum.inr "bool" : Key), V.str "true"), (Sum.inr "null", .str "null"), (Sum.inr "fun", .str "fun")]) (Sum.inr "null" : Key) := by rfl
    refine iteF ?_
    refine ⟨_, rfl, k.L .inst, C, k.L .own, _, _, rfl, e0W.at_ .inst trivial, T.cl, T.nPrinted, f_printed, _, rfl, _, rfl, k.L .printed, _, rfl, SqL.of e0pr, fun pp npp => ?_⟩
    have sP := same_new (o := .lst (cutV ((R.printed ++ [textOf .nul (R.kindOf .nul)]).map V.str) (some ((R.printed.map V.str).length : Int)) none)) npp
    have lP : (upd H10 pp (.lst (cutV ((R.printed ++ [textOf .nul (R.kindOf .nul)]).map V.str) (some ((R.printed.map V.str).length : Int)) none))) pp = some (.lst ([textOf .nul (R.kindOf .nul)].map V.str)) := by rw [upd_same]; exact congrArg (fun l => some (HO.lst l)) ecut
    have tP := e0t.keep (KeepT.of sP)
    refine ⟨_, rfl, wd, rfl, .inl ⟨_, .inl (sP _ _ lW)⟩, _, rfl, a1, _, 0, .str "null", rfl, rfl, tP.sq, atI_nat (j := 0) rfl, _, rfl, 1, rfl, a1, _, -1, (.str "null"), rfl, rfl, tP.sq, rfl, (.str "null"), _, rfl, rfl, (fun i e => nomatch e), some (V.str "null"), ?_, by show 1 ≤ sizeLine; decide, fun qq nqq => ?_⟩
    · rw [eg]
      exact DGet.k (k := Sum.inr "null") (sP _ _ lW)
    · have sQ := same_new (o := .lst [V.str (textOf .nul (R.kindOf .nul))]) nqq
      have lQ : (upd (upd H10 pp (.lst (cutV ((R.printed ++ [textOf .nul (R.kindOf .nul)]).map V.str) (some ((R.printed.map V.str).length : Int)) none))) qq (.lst [V.str (textOf .nul (R.kindOf .nul))])) qq = some (.lst ([textOf .nul (R.kindOf .nul)].map V.str)) := upd_same
      refine ⟨strD [textOf .nul (R.kindOf .nul)], strD [textOf .nul (R.kindOf .nul)], strD_dp (sQ _ _ lP), strD_dp lQ, strD_shaped oktx, strD_shaped oktx, false, congrArg V.bl (by rw [strD_eqv, decide_eq_true rfl]; rfl), iteF ?_⟩
      exact kQ (o_ (o_ (o_ (o_ (o_ o 22 (some (.ref a1))) 23 (some v2)) 24 o24) 25 (some (.int ((R.printed.map V.str).length : Int)))) 26 (some (.ref wd))) _ _ (e0W.same (sP.trans sQ)) (e0S.same (sP.trans sQ))
  | text z =>
    have e0W := W10
    have e0S := S10
    have e0pr := hpr
    have e0t := t10
    have eg : (none : Option V) = valV (mergeK [] [((Sum.inr "bool" : Key), V.str "true"), (Sum.inr "null", .str "null"), (Sum.inr "fun", .str "fun")]) (Sum.inr "text" : Key) := by rfl
    refine iteF ?_
    refine ⟨_, rfl, k.L .inst, C, k.L .own, _, _, rfl, e0W.at_ .inst trivial, T.cl, T.nPrinted, f_printed, _, rfl, _, rfl, k.L .printed, _, rfl, SqL.of e0pr, fun pp npp => ?_⟩
    have sP := same_new (o := .lst (cutV ((R.printed ++ [textOf (.text z) (R.kindOf (.text z))]).map V.str) (some ((R.printed.map V.str).length : Int)) none)) npp
    have lP : (upd H10 pp (.lst (cutV ((R.printed ++ [textOf (.text z) (R.kindOf (.text z))]).map V.str) (some ((R.printed.map V.str).length : Int)) none))) pp = some (.lst ([textOf (.text z) (R.kindOf (.text z))].map V.str)) := by rw [upd_same]; exact congrArg (fun l => some (HO.lst l)) ecut
    have tP := e0t.keep (KeepT.of sP)
    refine ⟨_, rfl, wd, rfl, .inl ⟨_, .inl (sP _ _ lW)⟩, _, rfl, a1, _, 0, .str "text", rfl, rfl, tP.sq, atI_nat (j := 0) rfl, _, rfl, 1, rfl, a1, _, -1, (.str z), rfl, rfl, tP.sq, rfl, (.str z), _, rfl, rfl, (fun i e => nomatch e), (none : Option V), ?_, by show 1 ≤ sizeLine; decide, fun qq nqq => ?_⟩
    · rw [eg]
      exact DGet.k (k := Sum.inr "text") (sP _ _ lW)
    · have sQ := same_new (o := .lst [V.str (textOf (.text z) (R.kindOf (.text z)))]) nqq
      have lQ : (upd (upd H10 pp (.lst (cutV ((R.printed ++ [textOf (.text z) (R.kindOf (.text z))]).map V.str) (some ((R.printed.map V.str).length : Int)) none))) qq (.lst [V.str (textOf (.text z) (R.kindOf (.text z)))])) qq = some (.lst ([textOf (.text z) (R.kindOf (.text z))].map V.str)) := upd_same
      refine ⟨strD [textOf (.text z) (R.kindOf (.text z))], strD [textOf (.text z) (R.kindOf (.text z))], strD_dp (sQ _ _ lP), strD_dp lQ, strD_shaped oktx, strD_shaped oktx, false, congrArg V.bl (by rw [strD_eqv, decide_eq_true rfl]; rfl), iteF ?_⟩
      exact kQ (o_ (o_ (o_ (o_ (o_ o 22 (some (.ref a1))) 23 (some v2)) 24 o24) 25 (some (.int ((R.printed.map V.str).length : Int)))) 26 (some (.ref wd))) _ _ (e0W.same (sP.trans sQ)) (e0S.same (sP.trans sQ))
  | fn z =>
    obtain rfl : z = 2 := hd1
    have e0W := W10
    have e0S := S10
    have e0pr := hpr
    have e0t := t10
    have eg : some (V.str "fun") = valV (mergeK [] [((Sum.inr "bool" : Key), V.str "true"), (Sum.inr "null", .str "null"), (Sum.inr "fun", .str "fun")]) (Sum.inr "fun" : Key) := by rfl
    refine iteF ?_
    refine ⟨_, rfl, k.L .inst, C, k.L .own, _, _, rfl, e0W.at_ .inst trivial, T.cl, T.nPrinted, f_printed, _, rfl, _, rfl, k.L .printed, _, rfl, SqL.of e0pr, fun pp npp => ?_⟩
    have sP := same_new (o := .lst (cutV ((R.printed ++ [textOf (.fn 2) (R.kindOf (.fn 2))]).map V.str) (some ((R.printed.map V.str).length : Int)) none)) npp
    have lP : (upd H10 pp (.lst (cutV ((R.printed ++ [textOf (.fn 2) (R.kindOf (.fn 2))]).map V.str) (some ((R.printed.map V.str).length : Int)) none))) pp = some (.lst ([textOf (.fn 2) (R.kindOf (.fn 2))].map V.str)) := by rw [upd_same]; exact congrArg (fun l => some (HO.lst l)) ecut
    have tP := e0t.keep (KeepT.of sP)
    refine ⟨_, rfl, wd, rfl, .inl ⟨_, .inl (sP _ _ lW)⟩, _, rfl, a1, _, 0, .str "fun", rfl, rfl, tP.sq, atI_nat (j := 0) rfl, _, rfl, 1, rfl, a1, _, -1, (.int 2), rfl, rfl, tP.sq, rfl, (.int 2), _, rfl, rfl, (fun i e => by injection e with e; subst e; decide), some (V.str "fun"), ?_, by show 1 ≤ sizeLine; decide, fun qq nqq => ?_⟩
    · rw [eg]
      exact DGet.k (k := Sum.inr "fun") (sP _ _ lW)
    · have sQ := same_new (o := .lst [V.str (textOf (.fn 2) (R.kindOf (.fn 2)))]) nqq
      have lQ : (upd (upd H10 pp (.lst (cutV ((R.printed ++ [textOf (.fn 2) (R.kindOf (.fn 2))]).map V.str) (some ((R.printed.map V.str).length : Int)) none))) qq (.lst [V.str (textOf (.fn 2) (R.kindOf (.fn 2)))])) qq = some (.lst ([textOf (.fn 2) (R.kindOf (.fn 2))].map V.str)) := upd_same
      refine ⟨strD [textOf (.fn 2) (R.kindOf (.fn 2))], strD [textOf (.fn 2) (R.kindOf (.fn 2))], strD_dp (sQ _ _ lP), strD_dp lQ, strD_shaped oktx, strD_shaped oktx, false, congrArg V.bl (by rw [strD_eqv, decide_eq_true rfl]; rfl), iteF ?_⟩
      exact kQ (o_ (o_ (o_ (o_ (o_ o 22 (some (.ref a1))) 23 (some v2)) 24 o24) 25 (some (.int ((R.printed.map V.str).length : Int)))) 26 (some (.ref wd))) _ _ (e0W.same (sP.trans sQ)) (e0S.same (sP.trans sQ))
  | ref z =>
    obtain ⟨i, hi, rfl⟩ := hd1
    have hi' : i < R.cells.length := by rw [S.n]; exact hi
    have hc := List.getElem?_eq_getElem hi'
    generalize R.cells[i] = c at hc
    refine iteT (fun wd2 nwd2 => ?_)
    have sX := same_new (o := .dK []) nwd2
    have S11 := S10.same sX
    have t11 := t10.keep (KeepT.of sX)
    have htab : (upd H10 wd2 (.dK [])) k.tb = some (.dK (tabD k.ta R.cells.length)) := by
      rw [← S.tb]
      exact S11.tab.at_ .tab trivial
    refine ⟨_, rfl, _, rfl, a1, _, 1, .int (i : Int), rfl, rfl, t11.sq, atI_nat (j := 1) rfl, k.tb, .ref (k.ta i), rfl, by rw [← tab_get (ta := k.ta) hi']; exact DGet.k (k := Sum.inl (i : Int)) htab, k.ta i, _, 0, .str c.word, rfl, rfl, (S11.tab.tup i c hc).sq, atI_nat (j := 0) rfl, upd_same, [(Sum.inr "ref", .str c.word)], rfl, (by show 1 ≤ 15; decide), ?_⟩
    have sY : Same H10 (upd (upd H10 wd2 (.dK [])) wd2 (.dK (mergeK [] [(Sum.inr "ref", .str c.word)]))) := same_put sX nwd2
    have lY : (upd (upd H10 wd2 (.dK [])) wd2 (.dK (mergeK [] [(Sum.inr "ref", .str c.word)]))) wd2 = some (.dK (mergeK [] [(Sum.inr "ref", .str c.word)])) := upd_same
    generalize (upd (upd H10 wd2 (.dK [])) wd2 (.dK (mergeK [] [(Sum.inr "ref", .str c.word)]))) = H11 at sY lY
    have e0W := W10.same sY
    have e0S := S10.same sY
    have e0pr := sY _ _ hpr
    have e0t := t10.keep (KeepT.of sY)
    have etx : textOf (.ref (i : Int)) (R.kindOf (.ref (i : Int))) = c.word := by show R.kindOf (.ref (i : Int)) = _; exact kindOf_ref hc
    have eg : some (V.str (textOf (.ref (i : Int)) (R.kindOf (.ref (i : Int))))) = valV (mergeK [] [((Sum.inr "ref" : Key), V.str c.word)]) (Sum.inr "ref" : Key) := by rw [etx]; rfl
    refine ⟨_, rfl, k.L .inst, C, k.L .own, _, _, rfl, e0W.at_ .inst trivial, T.cl, T.nPrinted, f_printed, _, rfl, _, rfl, k.L .printed, _, rfl, SqL.of e0pr, fun pp npp => ?_⟩
    have sP := same_new (o := .lst (cutV ((R.printed ++ [textOf (.ref (i : Int)) (R.kindOf (.ref (i : Int)))]).map V.str) (some ((R.printed.map V.str).length : Int)) none)) npp
    have lP : (upd H11 pp (.lst (cutV ((R.printed ++ [textOf (.ref (i : Int)) (R.kindOf (.ref (i : Int)))]).map V.str) (some ((R.printed.map V.str).length : Int)) none))) pp = some (.lst ([textOf (.ref (i : Int)) (R.kindOf (.ref (i : Int)))].map V.str)) := by rw [upd_same]; exact congrArg (fun l => some (HO.lst l)) ecut
    have tP := e0t.keep (KeepT.of sP)
    refine ⟨_, rfl, wd2, rfl, .inl ⟨_, .inl (sP _ _ lY)⟩, _, rfl, a1, _, 0, .str "ref", rfl, rfl, tP.sq, atI_nat (j := 0) rfl, _, rfl, 1, rfl, a1, _, -1, (.int (i : Int)), rfl, rfl, tP.sq, rfl, (.int (i : Int)), _, rfl, rfl, (fun j e => by injection e with e; subst e; exact log_mid (by omega) (by have := S.n9; omega)), some (V.str (textOf (.ref (i : Int)) (R.kindOf (.ref (i : Int))))), ?_, by show 1 ≤ sizeLine; decide, fun qq nqq => ?_⟩
    · rw [eg]
      exact DGet.k (k := Sum.inr "ref") (sP _ _ lY)
    · have sQ := same_new (o := .lst [V.str (textOf (.ref (i : Int)) (R.kindOf (.ref (i : Int))))]) nqq
      have lQ : (upd (upd H11 pp (.lst (cutV ((R.printed ++ [textOf (.ref (i : Int)) (R.kindOf (.ref (i : Int)))]).map V.str) (some ((R.printed.map V.str).length : Int)) none))) qq (.lst [V.str (textOf (.ref (i : Int)) (R.kindOf (.ref (i : Int))))])) qq = some (.lst ([textOf (.ref (i : Int)) (R.kindOf (.ref (i : Int)))].map V.str)) := upd_same
      refine ⟨strD [textOf (.ref (i : Int)) (R.kindOf (.ref (i : Int)))], strD [textOf (.ref (i : Int)) (R.kindOf (.ref (i : Int)))], strD_dp (sQ _ _ lP), strD_dp lQ, strD_shaped oktx, strD_shaped oktx, false, congrArg V.bl (by rw [strD_eqv, decide_eq_true rfl]; rfl), iteF ?_⟩
      exact kQ (o_ (o_ (o_ (o_ (o_ o 22 (some (.ref a1))) 23 (some v2)) 24 o24) 25 (some (.int ((R.printed.map V.str).length : Int)))) 26 (some (.ref wd2))) _ _ (e0W.same (sP.trans sQ)) (e0S.same (sP.trans sQ))
end
end My
namespace My
open PySem PySem.Spec PyProof.Rows L2
/-- what stands at a place of a list -/
def atR (ps : List VV) (n : Int) : Res := if 0 ≤ n then (match ps[n.toNat]? with | some p => .val p.2 | none => .thrown "index") else .thrown "index"
theorem atR_in {ps : List VV} {j : Nat} {p : VV} (h : ps[j]? = some p) : atR ps (j : Int) = .val p.2 := by
  unfold atR
  rw [if_pos (by omega), Int.toNat_natCast, h]
theorem atR_out {ps : List VV} {n : Int} (h : ¬ (0 ≤ n ∧ n < (ps.length : Int))) : atR ps n = .thrown "index" := by
  unfold atR
  by_cases c : 0 ≤ n
  · rw [if_pos c, List.getElem?_eq_none (by omega)]
  · rw [if_neg c]
theorem atR_ok {n : Nat} {ps : List VV} {z : Int} (h : ∀ p ∈ ps, Drawn n p.2) : (atR ps z).ok := by
  have w : (Res.thrown "index").ok := by show PyData.strOk ("index" : Str) = true; decide +kernel
  unfold atR
  split
  · split
    · rename_i p hp; exact (h p (List.mem_of_getElem? hp)).ok
    · exact w
  · exact w
theorem WorldAt.newL {K : PySem.W.Frag} {C : Addr} {H : Hp} {L : Lab → Addr} {R : WS} (W : WorldAt K C H L R) {q : Addr} (n : H q = none) : ∀ m, live R.cells.length m → L m ≠ q := fun m hm z => by
  have := W.at_ m hm
  rw [z, n] at this
  cases this
theorem kdOk : (Res.thrown "kind").ok := by show PyData.strOk ("kind" : Str) = true; decide +kernel
theorem ixOk : (Res.thrown "index").ok := by show PyData.strOk ("index" : Str) = true; decide +kernel
theorem ThrAt.mk {K : PySem.W.Frag} {H : Hp} {x : Str} {a p : Addr} (ha : H a = some (.tup [.str "text", .str x])) (hp : H p = some (.tup [.str "thrown", .ref a])) : ThrAt K H (.ref p) x := ⟨p, .ref a, rfl, .inl hp, ⟨a, rfl, .inl ha⟩⟩
section
variable {K : PySem.W.Frag} {C CT : Addr} {H : Hp} {L : Lab → Addr} {R : WS} {Q : VK} {E : XK}
theorem told_item' {v u : V} {i : Nat} {n : Int} {ps : List VV} {ar : Addr} (W : WorldAt K C H L R) (har : H ar = some (.lst [v, u])) (out : ∀ m, live R.cells.length m → L m ≠ ar) (hv : Vl K H v (.ref (i : Int))) (hc : R.cells[i]? = some (.lst ps)) (hu : Vl K H u (.int n))
    (k : ∀ H' u, Same H H' → ResAt K H' u (atR ps n) → Q u H') : spTold K C CT [.ref (L .inst), .str "item", .non, .ref ar] H Q E :=
  told_item (E := E) W har out hv hc hu (fun j p e1 e2 H' s => k H' p.1 s (by subst e1; rw [atR_in e2]; exact (W.vs _ (List.mem_of_getElem? hc) p (List.mem_of_getElem? e2)).keep (KeepT.of s))) (fun z H' u s h => k H' u s (by rw [atR_out z]; exact h))
end
theorem chain_out {tl : TE} {σ : L2.St} {H : Hp} {Q : VK} {i : Nat} {ix n : Int} (hx : σ[i]? = some (some (.int ix))) (hl : ∀ Q' : VK, Q' (.int n) H → tl σ H Q') (h : ¬ (0 ≤ ix ∧ ix < n)) (q : Q (.bl false) H) :
    tChain (rI0 fun i j => .bl (decide (i ≤ j))) (rI0 fun i j => .bl (decide (i < j))) (tC (.int 0)) (tVar i) tl σ H Q := by
  by_cases c : 0 ≤ ix
  · refine ⟨_, hx, 0, ix, rfl, rfl, true, congrArg V.bl (decide_eq_true c), iteT (hl _ ⟨ix, n, rfl, rfl, ?_⟩)⟩
    show Q (V.bl (decide (ix < n))) H
    rw [decide_eq_false (fun z => h ⟨c, z⟩)]
    exact q
  · exact ⟨_, hx, 0, ix, rfl, rfl, false, congrArg V.bl (decide_eq_false c), iteF q⟩
theorem menu {K : PySem.W.Frag} {H : Hp} {t1 t2 t3 l4 : Addr} (n1 : H t1 = none) (n2 : (upd H t1 (.tup [.str "text", .str "index"])) t2 = none) (n3 : (upd (upd H t1 (.tup [.str "text", .str "index"])) t2 (.tup [.str "thrown", .ref t1])) t3 = none) (n4 : (upd (upd (upd H t1 (.tup [.str "text", .str "index"])) t2 (.tup [.str "thrown", .ref t1])) t3 (.tup [.str "null"])) l4 = none) :
    Same H (upd (upd (upd (upd H t1 (.tup [.str "text", .str "index"])) t2 (.tup [.str "thrown", .ref t1])) t3 (.tup [.str "null"])) l4 (.lst [.ref t2, .ref t3])) ∧ ThrAt K (upd (upd (upd (upd H t1 (.tup [.str "text", .str "index"])) t2 (.tup [.str "thrown", .ref t1])) t3 (.tup [.str "null"])) l4 (.lst [.ref t2, .ref t3])) (.ref t2) "index" ∧
      Vl K (upd (upd (upd (upd H t1 (.tup [.str "text", .str "index"])) t2 (.tup [.str "thrown", .ref t1])) t3 (.tup [.str "null"])) l4 (.lst [.ref t2, .ref t3])) (.ref t3) .nul ∧ (upd (upd (upd (upd H t1 (.tup [.str "text", .str "index"])) t2 (.tup [.str "thrown", .ref t1])) t3 (.tup [.str "null"])) l4 (.lst [.ref t2, .ref t3])) l4 = some (.lst [.ref t2, .ref t3]) := by
  have s1 : Same H (upd H t1 (.tup [.str "text", .str "index"])) := same_new n1
  have s2 := same_new (o := .tup [.str "thrown", .ref t1]) n2
  have s3 := same_new (o := .tup [.str "null"]) n3
  have s4 := same_new (o := .lst [.ref t2, .ref t3]) n4
  exact ⟨((s1.trans s2).trans s3).trans s4, ThrAt.mk (s4 _ _ (s3 _ _ (s2 _ _ upd_same))) (s4 _ _ (s3 _ _ upd_same)), ⟨t3, rfl, .inl (s4 _ _ upd_same)⟩, upd_same⟩
section
variable {P : Program} {w : World} {K : PySem.W.Frag} {mg : Str → Option Value} {base : Heap} {C CT : Addr}
def LsPost (K : PySem.W.Frag) (C : Addr) (k : Cn) (D : Ends) (M : TLab → Addr) (N : Nat → List Str) (es : List (Addr × Addr × V)) (came : List (List Str × Val)) (b : Nat) (at_ : Int) (vb : V) : Prop :=
  ∀ o' H' R', WorldAt K C H' k.L R' → LS K k H' M R' N es came b → o' 9 = some (.int at_) → o' 14 = some vb → ThrAt K H' vb "kind" → D.nx (sg k o') H'
theorem lstC_ok {fT : Addr} {fdT : FuncData} (T : WT K mg C) (B : Bn mg)
    (GT : FnOk P w K mg base CX0 6 fT fdT ["world", "what", "name", "args"] (spTold K C CT)) (cT : Fc K mg "_law_told" fT fdT ["world", "what", "name", "args"])
    {f : Addr} {cdv : Value} {A : Around} {outer : List Env} {s : Shared} {H0 : Hp} {E : XK} (hr : Room 11 (A.deeper (envOfC "law" (defScope sLaw) s.heap.objs.size f cdv))) :
    ∃ t, PSs (cxOf CX0 P w K mg base nLaw "law" (defScope sLaw) f cdv A outer s H0 E).nox (lstS.drop 6) t ∧ ∀ (k : Cn) (D : Ends) (o : Nat → Option V) (H : Hp) (M : TLab → Addr) (R : WS) (N : Nat → List Str) (es : List (Addr × Addr × V)) (came : List (List Str × Val)) (b : Nat) (at_ ix : Int) (vb v10 v20 : V) (i : Nat) (ps : List VV) (d20 : Val),
      WorldAt K C H k.L R → LS K k H M R N es came b → R.cells[i]? = some (.lst ps) → o 9 = some (.int at_) → o 14 = some vb → ThrAt K H vb "kind" → o 10 = some v10 → Vl K H v10 (.ref (i : Int)) → o 13 = some (.ref (M (.row i))) → o 18 = some (.int ix) → -1 ≤ ix → ix ≤ (ps.length : Int) → o 20 = some v20 → Vl K H v20 d20 → Drawn k.n d20 →
      LsPost K C k D M N es came b at_ vb → t D (sg k o) H := by
  refine ⟨_, (pss_cons (ps_if (pt_chain op_le op_lt pe_int (pv 18) (pe_callB call_len_seq (by rfl) B.len PySem.boot_len (pa_cons (pv 13) pa_nil))) (pss_one (ps_asg (pv 20) (pg_sub (pv 13) (pv 18) set_list))) pss_nil) (pss_cons (ps_set (i := 21) scLaw.nd rfl (.inl rfl) (pe_call GT (hr.mono (by decide)) rfl cT.g cT.kp cT.b .nil pass0 (pa_cons (pv 2) (pa_cons pe_str (pa_cons pe_non (pa_cons (pe_lst (pa_cons (pv 10) (pa_cons (pe_tup (pa_cons pe_str (pa_cons (pv 18) pa_nil))) (pa_cons (pv 20) pa_nil)))) pa_nil)))))) (pss_one (ps_if (PW.pt (pw_or (pt_cmpR (op_neD (hu64 hr)) (pv 21) (pe_ix  ix_list (pe_lst (pa_cons (pe_tup (pa_cons pe_str (pa_cons (pe_tup (pa_cons pe_str (pa_cons pe_str pa_nil))) pa_nil))) (pa_cons (pe_tup (pa_cons pe_str pa_nil)) pa_nil))) (pe_callTy call_int1 (by rfl) B.int (by decide +kernel) (pa_cons (pe_chain op_le op_lt pe_int (pv 18) (pe_callB call_len_seq (by rfl) B.len PySem.boot_len (pa_cons (pv 13) pa_nil))) pa_nil)) (fun _ _ => rfl)) (nomark _)) (pw_or1 (pt_cmpR (op_neD (hu64 hr)) (pe_call GT (hr.mono (by decide)) rfl cT.g cT.kp cT.b .nil pass0 (pa_cons (pv 2) (pa_cons pe_str (pa_cons pe_str (pa_cons (pe_lst (pa_cons (pv 10) pa_nil)) pa_nil))))) (pv 14) (nomark _))))) (pss_one (ps_ret pe_bl)) pss_nil)))), ?_⟩
  intro k D o H M R N es came b at_ ix vb v10 v20 i ps d20 W S hc ho9 ho14 hvb ho10 hv10 ho13 ho18 hx0 hx1 ho20 hv20 hd20 kQ
  have hrow : H (M (.row i)) = some (.lst (ps.map (·.1))) := S.tab.rowC hc
  by_cases hin : 0 ≤ ix ∧ ix < (ps.length : Int)
  · obtain ⟨j, rfl⟩ : ∃ j : Nat, ix = (j : Int) := ⟨ix.toNat, by omega⟩
    have hj : j < ps.length := by omega
    have rl : (((ps.map (·.1)).length : Nat) : Int) = (ps.length : Int) := by rw [List.length_map]
    have lt2 : V.bl (decide ((j : Int) < (((ps.map (·.1)).length : Nat) : Int))) = V.bl true := by rw [rl, decide_eq_true hin.2]
    refine ⟨_, congrArg some ho18, 0, (j : Int), rfl, rfl, true, congrArg V.bl (decide_eq_true hin.1), iteT ⟨_, congrArg some ho13, M (.row i), _, rfl, .inl (SqL.of hrow), (j : Int), _, rfl, rfl, true, lt2, iteT ?_⟩⟩
    refine ⟨v20, congrArg some ho20, _, congrArg some ho13, _, congrArg some ho18, M (.row i), _, (j : Int), j, rfl, rfl, hrow, ixN_nat (by rw [List.length_map]; exact hj), ?_⟩
    have em : (ps.map (·.1)).set j v20 = (ps.set j (v20, d20)).map (·.1) := by rw [List.map_set]
    rw [em]
    have hd' : ∀ p ∈ ps.set j (v20, d20), Drawn k.n p.2 := fun p hp => by
      rcases List.mem_or_eq_of_mem_set hp with z | z
      · exact S.dr _ (List.mem_of_getElem? hc) p z
      · subst z; exact hd20
    have S1 := S.putRow hc hd' (by rw [List.length_set]; exact S.few _ (List.mem_of_getElem? hc))
    have sepR : ∀ m, live R.cells.length m → k.L m ≠ M (.row i) := fun m hm z => S.tab.sep (.row i) m (lt_of hc) hm z.symm
    have W1 := WorldAt.row (R0 := R) (M := M) (ys := (ps.set j (v20, d20)).map (·.1)) W sepR hrow
    have kt1 : KeepT H (upd H (M (.row i)) (.lst ((ps.set j (v20, d20)).map (·.1)))) := fun b xs e => by
      rw [upd_ne (fun z => by subst z; rw [hrow] at e; cases e)]; exact e
    have vb1 := hvb.keep kt1
    have x10 := hv10.keep kt1
    have x20 := hv20.keep kt1
    have hcs : (R.setCell i (.lst (ps.set j (v20, d20)))).cells[i]? = some (.lst (ps.set j (v20, d20))) := by rw [setCell_get (lt_of hc), if_pos rfl]
    have hrow1 : (upd H (M (.row i)) (.lst ((ps.set j (v20, d20)).map (·.1)))) (M (.row i)) = some (.lst ((ps.set j (v20, d20)).map (·.1))) := upd_same
    generalize (upd H (M (.row i)) (.lst ((ps.set j (v20, d20)).map (·.1)))) = H1 at S1 W1 vb1 x10 x20 hrow1
    -- setitem
    refine ⟨_, rfl, _, congrArg some ho10, _, congrArg some ho18, by show 2 ≤ sizeLine; decide, fun t nt => ⟨_, congrArg some ho20, by show 3 ≤ sizeLine; decide, fun ar nar => ?_⟩⟩
    have sA := (same_new (o := .tup [.str "int", .int (j : Int)]) nt).trans (same_new (o := .lst [v10, .ref t, v20]) nar)
    have tj : Vl K (upd (upd H1 t (.tup [.str "int", .int (j : Int)])) ar (.lst [v10, .ref t, v20])) (.ref t) (.int (j : Int)) := Vl.keep ⟨t, rfl, .inl upd_same⟩ (KeepT.of (same_new (o := .lst [v10, .ref t, v20]) nar))
    have out : ∀ m, live R.cells.length m → k.L m ≠ ar := (W1.same (same_new nt)).newL nar
    refine told_setitem (E := E) (p := (v20, d20)) (W1.same sA) upd_same out (x10.keep (KeepT.of sA)) hc tj (x20.keep (KeepT.of sA)) (fun j' ej lj H2 nv W2 K2 hnv => ?_) (fun z => absurd hin z)
    obtain rfl : j = j' := by omega
    rw [S.n] at K2
    have K12 : Kept k.n k.L H1 H2 := Kept.trans (Kept.of sA) K2
    have kt2 : KeepT H1 H2 := KeepT.trans (KeepT.of sA) (Kept.tups (W1.same sA) (by rw [S.n]; exact K2))
    have S2 := S1.kept K12 kt2
    have vb2 := vb1.keep kt2
    have x10 := x10.keep kt2
    have hrow2 : H2 (M (.row i)) = some (.lst ((ps.set j (v20, d20)).map (·.1))) := S2.tab.rowC hcs
    have rl2 : ((((ps.set j (v20, d20)).map (·.1)).length : Nat) : Int) = (ps.length : Int) := by rw [List.length_map, List.length_set]
    have lt3 : V.bl (decide ((j : Int) < ((((ps.set j (v20, d20)).map (·.1)).length : Nat) : Int))) = V.bl true := by rw [rl2, decide_eq_true hin.2]
    refine ⟨_, rfl, by show 2 ≤ sizeLine; decide, fun t1 n1 => ⟨by show 2 ≤ sizeLine; decide, fun t2 n2 => ⟨by show 1 ≤ sizeLine; decide, fun t3 n3 => ⟨by show 2 ≤ sizeLine; decide, fun l4 n4 => ?_⟩⟩⟩⟩
    obtain ⟨sM, hM1, hM2, hM3⟩ := menu (K := K) n1 n2 n3 n4
    generalize (upd (upd (upd (upd H2 t1 (.tup [.str "text", .str "index"])) t2 (.tup [.str "thrown", .ref t1])) t3 (.tup [.str "null"])) l4 (.lst [.ref t2, .ref t3])) = H3 at sM hM1 hM2 hM3
    have S3 := S2.same sM
    have W3 := W2.same sM
    have vb3 := vb2.keep (KeepT.of sM)
    have x10 := x10.keep (KeepT.of sM)
    have hnv := hnv.keep (KeepT.of sM)
    have hrow3 := sM _ _ hrow2
    refine ⟨_, congrArg some ho18, 0, (j : Int), rfl, rfl, true, congrArg V.bl (decide_eq_true hin.1), iteT ⟨_, congrArg some ho13, M (.row i), _, rfl, .inl (SqL.of hrow3), (j : Int), _, rfl, rfl, .inr ⟨true, congrArg (fun v => [v]) lt3, l4, _, 1, .ref t3, rfl, rfl, SqL.of hM3, atI_nat (j := 1) rfl, _, _, hnv.dp, hM2.dp, Val.shaped _ trivial, Val.shaped _ trivial, false, congrArg V.bl (by rw [eqvVal]; rfl), iteF ?_⟩⟩⟩
    refine ⟨_, rfl, _, congrArg some ho10, by show 1 ≤ sizeLine; decide, fun ar2 nar2 => ?_⟩
    have sG := same_new (o := .lst [v10]) nar2
    refine told_getKind (E := E) (W3.same sG) upd_same (x10.keep (KeepT.of sG)) hcs fun H4 u s4 thr => ?_
    have s34 := sG.trans s4
    have vb4 := vb3.keep (KeepT.of s34)
    refine ⟨_, congrArg some ho14, _, _, thr.dp, vb4.dp, Res.shaped _ kdOk, Res.shaped _ kdOk, false, congrArg V.bl (by rw [eqv_same _ kdOk]; rfl), iteF ?_⟩
    exact kQ (o_ o 21 (some nv)) H4 _ (W3.same s34) (S3.same s34) ho9 ho14 vb4
  · have hin' : ∀ {n : Nat}, n = ps.length → ¬ (0 ≤ ix ∧ ix < (n : Int)) := fun e => by rw [e]; exact hin
    refine chain_out (n := (((ps.map (·.1)).length : Nat) : Int)) (congrArg some ho18) (fun Q' q => ⟨_, congrArg some ho13, M (.row i), _, rfl, .inl (SqL.of hrow), q⟩) (hin' (by rw [List.length_map])) ⟨false, rfl, iteF ?_⟩
    -- setitem
    refine ⟨_, rfl, _, congrArg some ho10, _, congrArg some ho18, by show 2 ≤ sizeLine; decide, fun t nt => ⟨_, congrArg some ho20, by show 3 ≤ sizeLine; decide, fun ar nar => ?_⟩⟩
    have sA := (same_new (o := .tup [.str "int", .int ix]) nt).trans (same_new (o := .lst [v10, .ref t, v20]) nar)
    have tj : Vl K (upd (upd H t (.tup [.str "int", .int ix])) ar (.lst [v10, .ref t, v20])) (.ref t) (.int ix) := Vl.keep ⟨t, rfl, .inl upd_same⟩ (KeepT.of (same_new (o := .lst [v10, .ref t, v20]) nar))
    have out : ∀ m, live R.cells.length m → k.L m ≠ ar := (W.same (same_new nt)).newL nar
    refine told_setitem (E := E) (p := (v20, d20)) (W.same sA) upd_same out (hv10.keep (KeepT.of sA)) hc tj (hv20.keep (KeepT.of sA)) (fun j' ej lj H2 nv W2 K2 hnv => absurd ⟨by omega, by omega⟩ hin) (fun _ H2 u s2 thr => ?_)
    have sB := sA.trans s2
    refine ⟨_, rfl, by show 2 ≤ sizeLine; decide, fun t1 n1 => ⟨by show 2 ≤ sizeLine; decide, fun t2 n2 => ⟨by show 1 ≤ sizeLine; decide, fun t3 n3 => ⟨by show 2 ≤ sizeLine; decide, fun l4 n4 => ?_⟩⟩⟩⟩
    obtain ⟨sM, hM1, hM2, hM3⟩ := menu (K := K) n1 n2 n3 n4
    generalize (upd (upd (upd (upd H2 t1 (.tup [.str "text", .str "index"])) t2 (.tup [.str "thrown", .ref t1])) t3 (.tup [.str "null"])) l4 (.lst [.ref t2, .ref t3])) = H3 at sM hM1 hM2 hM3
    have sC := sB.trans sM
    have S3 := S.same sC
    have W3 := W.same sC
    have vb3 := hvb.keep (KeepT.of sC)
    have x10 := hv10.keep (KeepT.of sC)
    have thr := thr.keep (KeepT.of sM)
    have hrow3 := sC _ _ hrow
    refine chain_out (n := (((ps.map (·.1)).length : Nat) : Int)) (congrArg some ho18) (fun Q' q => ⟨_, congrArg some ho13, M (.row i), _, rfl, .inl (SqL.of hrow3), q⟩) (hin' (by rw [List.length_map])) ?_
    refine .inr ⟨false, rfl, l4, _, 0, .ref t2, rfl, rfl, SqL.of hM3, atI_nat (j := 0) rfl, _, _, thr.dp, hM1.dp, Res.shaped _ ixOk, Res.shaped _ ixOk, false, congrArg V.bl (by rw [eqv_same _ ixOk]; rfl), iteF ?_⟩
    refine ⟨_, rfl, _, congrArg some ho10, by show 1 ≤ sizeLine; decide, fun ar2 nar2 => ?_⟩
    have sG := same_new (o := .lst [v10]) nar2
    refine told_getKind (E := E) (W3.same sG) upd_same (x10.keep (KeepT.of sG)) hc fun H4 u4 s4 thr4 => ?_
    have s34 := sG.trans s4
    have vb4 := vb3.keep (KeepT.of s34)
    refine ⟨_, congrArg some ho14, _, _, thr4.dp, vb4.dp, Res.shaped _ kdOk, Res.shaped _ kdOk, false, congrArg V.bl (by rw [eqv_same _ kdOk]; rfl), iteF ?_⟩
    exact kQ (o_ o 21 (some u)) H4 _ (W3.same s34) (S3.same s34) ho9 ho14 vb4
theorem lstB_ok {fT fD : Addr} {fdT fdD : FuncData} (T : WT K mg C) (B : Bn mg)
    (GT : FnOk P w K mg base CX0 6 fT fdT ["world", "what", "name", "args"] (spTold K C CT)) (cT : Fc K mg "_law_told" fT fdT ["world", "what", "name", "args"]) (GD : FnOk P w K mg base CX0 2 fD fdD ["draws", "k", "refs"] (spDrawn K)) (cD : Fc K mg "_law_drawn" fD fdD ["draws", "k", "refs"])
    {f : Addr} {cdv : Value} {A : Around} {outer : List Env} {s : Shared} {H0 : Hp} {E : XK} (hr : Room 11 (A.deeper (envOfC "law" (defScope sLaw) s.heap.objs.size f cdv))) :
    ∃ t, PSs (cxOf CX0 P w K mg base nLaw "law" (defScope sLaw) f cdv A outer s H0 E).nox (lstS.drop 4) t ∧ ∀ (k : Cn) (D : Ends) (o : Nat → Option V) (H : Hp) (M : TLab → Addr) (R : WS) (N : Nat → List Str) (es : List (Addr × Addr × V)) (came : List (List Str × Val)) (b : Nat) (at_ ix : Int) (vb v10 v19 : V) (i : Nat) (ps : List VV),
      WorldAt K C H k.L R → LS K k H M R N es came b → R.cells[i]? = some (.lst ps) → o 9 = some (.int at_) → 0 ≤ at_ → at_ ≤ 100000 → o 14 = some vb → ThrAt K H vb "kind" → o 10 = some v10 → Vl K H v10 (.ref (i : Int)) → o 13 = some (.ref (M (.row i))) → o 18 = some (.int ix) → -1 ≤ ix → ix ≤ (ps.length : Int) → o 19 = some v19 → ResAt K H v19 (atR ps ix) →
      LsPost K C k D M N es came b at_ vb → t D (sg k o) H := by
  obtain ⟨tC, hC, kC⟩ := lstC_ok (A := A) (outer := outer) (s := s) (cdv := cdv) (f := f) (H0 := H0) (E := E) T B GT cT hr
  refine ⟨_, (pss_cons (ps_if (PW.pt (pw_or (pt_cmpR (op_neD (hu64 hr)) (pe_call GT (hr.mono (by decide)) rfl cT.g cT.kp cT.b .nil pass0 (pa_cons (pv 2) (pa_cons pe_str (pa_cons pe_non (pa_cons (pe_lst (pa_cons (pv 10) (pa_cons (pe_tup (pa_cons pe_str (pa_cons (pv 18) pa_nil))) pa_nil))) pa_nil))))) (pv 19) (nomark _)) (pw_or1 (pt_cmpR (op_neD (hu64 hr)) (pe_call GT (hr.mono (by decide)) rfl cT.g cT.kp cT.b .nil pass0 (pa_cons (pv 2) (pa_cons pe_str (pa_cons pe_non (pa_cons (pe_lst (pa_cons (pv 10) pa_nil)) pa_nil))))) (pe_tup (pa_cons pe_str (pa_cons (pe_callB call_len_seq (by rfl) B.len PySem.boot_len (pa_cons (pv 13) pa_nil)) pa_nil))) (nomark _))))) (pss_one (ps_ret pe_bl)) pss_nil) (pss_cons (ps_set (i := 20) scLaw.nd rfl (.inl rfl) (pe_call GD (hr.mono (by decide)) rfl cD.g cD.kp cD.b .nil pass0 (pa_cons (pv 1) (pa_cons (pe_op op_add (pv 9) pe_int) (pa_cons (pv 7) pa_nil))))) hC)), ?_⟩
  intro k D o H M R N es came b at_ ix vb v10 v19 i ps W S hc ho9 ha0 ha1 ho14 hvb ho10 hv10 ho13 ho18 hx0 hx1 ho19 hv19 kQ
  have hrow : H (M (.row i)) = some (.lst (ps.map (·.1))) := S.tab.rowC hc
  have hpl : k.rps.length = k.n := S.rlen
  have hn9 := S.n9
  have hp0 := S.pos
  -- item
  refine ⟨_, rfl, _, congrArg some ho10, _, congrArg some ho18, by show 2 ≤ sizeLine; decide, fun t nt => ⟨by show 2 ≤ sizeLine; decide, fun ar nar => ?_⟩⟩
  have sA := (same_new (o := .tup [.str "int", .int ix]) nt).trans (same_new (o := .lst [v10, .ref t]) nar)
  have tj : Vl K (upd (upd H t (.tup [.str "int", .int ix])) ar (.lst [v10, .ref t])) (.ref t) (.int ix) := Vl.keep ⟨t, rfl, .inl upd_same⟩ (KeepT.of (same_new (o := .lst [v10, .ref t]) nar))
  have out : ∀ m, live R.cells.length m → k.L m ≠ ar := (W.same (same_new nt)).newL nar
  refine told_item' (E := E) (W.same sA) upd_same out (hv10.keep (KeepT.of sA)) hc tj fun H2 u s2 res => ?_
  have sB := sA.trans s2
  have hok : (atR ps ix).ok := atR_ok (n := k.n) fun p hp => S.dr _ (List.mem_of_getElem? hc) p hp
  have r19 := hv19.keep (KeepT.of sB)
  refine ⟨_, congrArg some ho19, _, _, res.dp, r19.dp, Res.shaped _ hok, Res.shaped _ hok, false, congrArg V.bl (by rw [eqv_same _ hok]; rfl), iteF ?_⟩
  have W2 := W.same sB
  have S2 := S.same sB
  have x10 := hv10.keep (KeepT.of sB)
  -- len
  refine ⟨_, rfl, _, congrArg some ho10, by show 1 ≤ sizeLine; decide, fun ar2 nar2 => ?_⟩
  have sG := same_new (o := .lst [v10]) nar2
  refine told_len (E := E) (W2.same sG) upd_same (W2.newL nar2) (x10.keep (KeepT.of sG)) hc fun H3 u3 s3 hu3 => ?_
  have sC := sB.trans (sG.trans s3)
  have hrow3 := sC _ _ hrow
  refine ⟨_, congrArg some ho13, M (.row i), _, rfl, .inl (SqL.of hrow3), by show 2 ≤ sizeLine; decide, fun t4 n4 => ?_⟩
  have s4 := same_new (o := .tup [.str "int", .int (((ps.map (·.1)).length : Nat) : Int)]) n4
  have hl4 : Vl K (upd H3 t4 (.tup [.str "int", .int (((ps.map (·.1)).length : Nat) : Int)])) (.ref t4) (.int (ps.length : Int)) := ⟨t4, rfl, .inl (by rw [upd_same, List.length_map]; rfl)⟩
  have hu4 := hu3.keep (KeepT.of s4)
  have sD := sC.trans s4
  generalize (upd H3 t4 (.tup [.str "int", .int (((ps.map (·.1)).length : Nat) : Int)])) = H4 at s4 hl4 hu4 sD
  refine ⟨_, _, hu4.dp, hl4.dp, Val.shaped _ trivial, Val.shaped _ trivial, false, congrArg V.bl (by rw [eqvVal, decide_eq_true rfl]; rfl), iteF ?_⟩
  -- other
  have S4 := S.same sD
  refine ⟨_, rfl, _, congrArg some ho9, _, _, rfl, rfl, _, rfl, k.da, k.rf, k.ds, at_ + 11, k.rps, rfl, SqL.of S4.draws, S.dok, by omega, by omega, SqL.of S4.refs, by omega, by omega, S4.rv, S.ri, fun H5 v20 d20 s5 hv20 hd20 => ?_⟩
  rw [hpl] at hd20
  have sE := sD.trans s5
  exact kC k D (o_ o 20 (some v20)) H5 M R N es came b at_ ix vb v10 v20 i ps d20 (W.same sE) (S.same sE) hc ho9 ho14 (hvb.keep (KeepT.of sE)) ho10 (hv10.keep (KeepT.of sE)) ho13 ho18 hx0 hx1 rfl hv20 hd20 kQ
theorem lstA_ok {fT fD fX : Addr} {fdT fdD fdX : FuncData} (T : WT K mg C) (B : Bn mg)
    (GT : FnOk P w K mg base CX0 6 fT fdT ["world", "what", "name", "args"] (spTold K C CT)) (cT : Fc K mg "_law_told" fT fdT ["world", "what", "name", "args"]) (GD : FnOk P w K mg base CX0 2 fD fdD ["draws", "k", "refs"] (spDrawn K)) (cD : Fc K mg "_law_drawn" fD fdD ["draws", "k", "refs"])
    (GX : FnOk P w K mg base CX0 1 fX fdX ["draws", "k", "many"] (spMix K)) (cX : Fc K mg "_law_mix" fX fdX ["draws", "k", "many"])
    {f : Addr} {cdv : Value} {A : Around} {outer : List Env} {s : Shared} {H0 : Hp} {E : XK} (hr : Room 11 (A.deeper (envOfC "law" (defScope sLaw) s.heap.objs.size f cdv))) :
    ∃ t, PSs (cxOf CX0 P w K mg base nLaw "law" (defScope sLaw) f cdv A outer s H0 E).nox lstS t ∧ ∀ (k : Cn) (D : Ends) (o : Nat → Option V) (H : Hp) (M : TLab → Addr) (R : WS) (N : Nat → List Str) (es : List (Addr × Addr × V)) (came : List (List Str × Val)) (b : Nat) (at_ : Int) (vb v10 v11 : V) (i : Nat) (ps : List VV) (d11 : Val),
      WorldAt K C H k.L R → LS K k H M R N es came b → b < 190 → R.cells[i]? = some (.lst ps) → o 9 = some (.int at_) → 0 ≤ at_ → at_ ≤ 100000 → o 14 = some vb → ThrAt K H vb "kind" → o 10 = some v10 → Vl K H v10 (.ref (i : Int)) → o 13 = some (.ref (M (.row i))) → o 11 = some v11 → Vl K H v11 d11 → Drawn k.n d11 →
      LsPost K C k D M N es came (b + 1) at_ vb → t D (sg k o) H := by
  obtain ⟨tB, hB, kB⟩ := lstB_ok (A := A) (outer := outer) (s := s) (cdv := cdv) (f := f) (H0 := H0) (E := E) T B GT cT GD cD hr
  refine ⟨_, (pss_cons (ps_if (pt_cmpR (op_neD (hu64 hr)) (pe_call GT (hr.mono (by decide)) rfl cT.g cT.kp cT.b .nil pass0 (pa_cons (pv 2) (pa_cons pe_str (pa_cons pe_non (pa_cons (pe_lst (pa_cons (pv 10) (pa_cons (pv 11) pa_nil))) pa_nil))))) (pv 10) (nomark _)) (pss_one (ps_ret pe_bl)) pss_nil) (pss_cons (ps_expr (pe_bm PySem.F.plainAttrs_list PySem.F.slot_list_append PySem.F.type_list_append mt_append (pv 13) (pa_cons (pv 11) pa_nil))) (pss_cons (ps_set (i := 18) scLaw.nd rfl (.inl rfl) (pe_op op_sub (pe_call GX (hr.mono (by decide)) rfl cX.g cX.kp cX.b .nil pass0 (pa_cons (pv 1) (pa_cons (pe_op op_add (pv 9) pe_int) (pa_cons (pe_op op_add (pe_callB call_len_seq (by rfl) B.len PySem.boot_len (pa_cons (pv 13) pa_nil)) pe_int) pa_nil)))) pe_int)) (pss_cons (ps_set (i := 19) scLaw.nd rfl (.inl rfl) (pe_ix  ix_list (pe_lst (pa_cons (pe_tup (pa_cons pe_str (pa_cons (pe_tup (pa_cons pe_str (pa_cons pe_str pa_nil))) pa_nil))) (pa_cons (pe_ix  ix_list (pe_op op_cat (pv 13) (pe_lst (pa_cons pe_non pa_nil))) (pv 18) (fun _ _ => rfl)) pa_nil))) (pe_callTy call_int1 (by rfl) B.int (by decide +kernel) (pa_cons (pe_chain op_le op_lt pe_int (pv 18) (pe_callB call_len_seq (by rfl) B.len PySem.boot_len (pa_cons (pv 13) pa_nil))) pa_nil)) (fun _ _ => rfl))) hB)))), ?_⟩
  intro k D o H M R N es came b at_ vb v10 v11 i ps d11 W S hb hc ho9 ha0 ha1 ho14 hvb ho10 hv10 ho13 ho11 hv11 hd11 kQ
  have hlen : ps.length ≤ b := S.few _ (List.mem_of_getElem? hc)
  -- push
  refine ⟨_, rfl, _, congrArg some ho10, _, congrArg some ho11, by show 2 ≤ sizeLine; decide, fun ar nar => ?_⟩
  have sA := same_new (o := .lst [v10, v11]) nar
  have x10 := hv10.keep (KeepT.of sA)
  refine told_push (E := E) (p := (v11, d11)) (W.same sA) upd_same (W.newL nar) x10 hc (hv11.keep (KeepT.of sA)) (by omega) fun H1 W1 K1 => ?_
  rw [S.n] at K1
  have kt1 : KeepT H H1 := KeepT.trans (KeepT.of sA) (Kept.tups (W.same sA) (by rw [S.n]; exact K1))
  have K01 : Kept k.n k.L H H1 := Kept.trans (Kept.of sA) K1
  have S1 := S.kept K01 kt1
  have x10 := hv10.keep kt1
  have x11 := hv11.keep kt1
  have vb1 := hvb.keep kt1
  refine ⟨_, congrArg some ho10, _, _, x10.dp, x10.dp, Val.shaped _ trivial, Val.shaped _ trivial, false, congrArg V.bl (by rw [eqvVal, decide_eq_true rfl]; rfl), iteF ?_⟩
  -- append
  have hrow1 : H1 (M (.row i)) = some (.lst (ps.map (·.1))) := S1.tab.rowC hc
  refine ⟨_, congrArg some ho13, .inl ⟨rfl, _, SqL.of hrow1⟩, v11, congrArg some ho11, M (.row i), _, _, rfl, rfl, hrow1, ?_, ?_⟩
  · rw [List.length_map]; unfold sizeLine; omega
  have em : ps.map (·.1) ++ [v11] = (ps ++ [(v11, d11)]).map (·.1) := by rw [List.map_append]; rfl
  rw [em]
  have hd' : ∀ p ∈ ps ++ [(v11, d11)], Drawn k.n p.2 := fun p hp => by
    rcases List.mem_append.mp hp with z | z
    · exact S.dr _ (List.mem_of_getElem? hc) p z
    · obtain rfl := List.mem_singleton.mp z; exact hd11
  have S2 := (S1.mono (Nat.le_succ b) (by omega)).putRow hc hd' (by rw [List.length_append]; simp only [List.length_singleton]; omega)
  have hl' : (R.setCell i (.lst (ps ++ [(v11, d11)]))).cells.length = R.cells.length := List.length_set
  have sepR : ∀ m, live (R.setCell i (.lst (ps ++ [(v11, d11)]))).cells.length m → k.L m ≠ M (.row i) := fun m hm z => S.tab.sep (.row i) m (lt_of hc) (by rw [hl'] at hm; exact hm) z.symm
  have W2 := WorldAt.row (R0 := R) (M := M) (ys := (ps ++ [(v11, d11)]).map (·.1)) W1 sepR hrow1
  have kt2 : KeepT H1 (upd H1 (M (.row i)) (.lst ((ps ++ [(v11, d11)]).map (·.1)))) := fun b xs e => by
    rw [upd_ne (fun z => by subst z; rw [hrow1] at e; cases e)]; exact e
  have vb2 := vb1.keep kt2
  have x10 := x10.keep kt2
  have hcs : (R.setCell i (.lst (ps ++ [(v11, d11)]))).cells[i]? = some (.lst (ps ++ [(v11, d11)])) := by rw [setCell_get (lt_of hc), if_pos rfl]
  have hrow2 : (upd H1 (M (.row i)) (.lst ((ps ++ [(v11, d11)]).map (·.1)))) (M (.row i)) = some (.lst ((ps ++ [(v11, d11)]).map (·.1))) := upd_same
  have hlp : (ps ++ [(v11, d11)]).length = ps.length + 1 := by rw [List.length_append]; rfl
  generalize (R.setCell i (.lst (ps ++ [(v11, d11)]))) = R2 at S2 W2 hcs
  generalize (upd H1 (M (.row i)) (.lst ((ps ++ [(v11, d11)]).map (·.1)))) = H2 at S2 W2 vb2 x10 hrow2
  generalize (ps ++ [(v11, d11)]) = qs at S2 W2 vb2 hcs hrow2 hlp hd'
  -- index
  refine ⟨_, rfl, _, congrArg some ho9, _, _, rfl, rfl, _, congrArg some ho13, M (.row i), _, rfl, .inl (SqL.of hrow2), _, _, rfl, rfl, k.da, k.ds, at_ + 10, _, rfl, SqL.of S2.draws, S2.dok, by omega, by omega, by omega, fun r hr0 hr1 => ?_⟩
  have hW2 : -1 ≤ r - 1 ∧ r - 1 ≤ (qs.length : Int) := by rw [List.length_map] at hr1; omega
  refine ⟨_, _, rfl, rfl, ?_⟩
  obtain ⟨ix, eix⟩ : ∃ ix : Int, ix = r - 1 := ⟨_, rfl⟩
  show tSeq _ _ _ ((sg k o).set 18 (some (.int (r - 1)))) H2
  rw [← eix] at hW2 ⊢
  -- due
  refine ⟨by show 2 ≤ sizeLine; decide, fun t1 n1 => ⟨by show 2 ≤ sizeLine; decide, fun t2 n2 => ⟨_, congrArg some ho13, by show 1 ≤ sizeLine; decide, fun l3 n3 => ?_⟩⟩⟩
  have s1 := same_new (o := .tup [.str "text", .str "index"]) n1
  have s2 := same_new (o := .tup [.str "thrown", .ref t1]) n2
  have s3 := same_new (o := .lst [.non]) n3
  have sM := (s1.trans s2).trans s3
  have hM1 : ThrAt K (upd (upd (upd H2 t1 (.tup [.str "text", .str "index"])) t2 (.tup [.str "thrown", .ref t1])) l3 (.lst [.non])) (.ref t2) "index" := ThrAt.mk (s3 _ _ (s2 _ _ upd_same)) (s3 _ _ upd_same)
  have hl3 : (upd (upd (upd H2 t1 (.tup [.str "text", .str "index"])) t2 (.tup [.str "thrown", .ref t1])) l3 (.lst [.non])) l3 = some (.lst [.non]) := upd_same
  have hr3 := sM _ _ hrow2
  generalize (upd (upd (upd H2 t1 (.tup [.str "text", .str "index"])) t2 (.tup [.str "thrown", .ref t1])) l3 (.lst [.non])) = H3 at sM hM1 hl3 hr3
  have hqs : qs.length ≤ b + 1 := S2.few _ (List.mem_of_getElem? hcs)
  refine ⟨M (.row i), l3, _, _, rfl, rfl, hr3, hl3, ?_, fun p4 n4 => ?_⟩
  · rw [List.length_map]; show qs.length + 1 ≤ sizeLine; unfold sizeLine; omega
  have s4 := same_new (o := .lst (qs.map (·.1) ++ [.non])) n4
  have hp4 : (upd H3 p4 (.lst (qs.map (·.1) ++ [.non]))) p4 = some (.lst (qs.map (·.1) ++ [.non])) := upd_same
  have sN := sM.trans s4
  have hM1 := hM1.keep (KeepT.of s4)
  have hr4 := s4 _ _ hr3
  generalize (upd H3 p4 (.lst (qs.map (·.1) ++ [.non]))) = H4 at s4 hp4 sN hM1 hr4
  obtain ⟨u, eu, hu⟩ : ∃ u, atI (qs.map (·.1) ++ [.non]) ix = some u ∧ (∀ j p, ix = ((j : Nat) : Int) → qs[j]? = some p → u = p.1) := by
    by_cases h0 : 0 ≤ ix
    · obtain ⟨j, rfl⟩ : ∃ j : Nat, ix = (j : Int) := ⟨ix.toNat, by omega⟩
      by_cases hj : j < qs.length
      · refine ⟨qs[j].1, atI_nat (by rw [List.getElem?_append_left (by rw [List.length_map]; exact hj), List.getElem?_map, List.getElem?_eq_getElem hj]; rfl), fun j' p e1 e2 => ?_⟩
        obtain rfl : j = j' := by omega
        rw [List.getElem?_eq_getElem hj] at e2
        rw [Option.some.inj e2]
      · have ej : j = qs.length := by omega
        subst ej
        refine ⟨.non, atI_nat (by rw [List.getElem?_append_right (by rw [List.length_map]; exact Nat.le_refl _), List.length_map, Nat.sub_self]; rfl), fun j' p e1 e2 => ?_⟩
        have := lt_of e2
        omega
    · have e : ix = -1 := by omega
      subst e
      exact ⟨.non, atI_last _ _, fun j' p e1 e2 => by omega⟩
  refine ⟨_, rfl, p4, _, _, u, rfl, rfl, SqL.of hp4, eu, by show 2 ≤ sizeLine; decide, fun l5 n5 => ?_⟩
  have s5 := same_new (o := .lst [.ref t2, u]) n5
  have hl5 : (upd H4 l5 (.lst [.ref t2, u])) l5 = some (.lst [.ref t2, u]) := upd_same
  have sP := sN.trans s5
  have hM1 := hM1.keep (KeepT.of s5)
  have hr5 := s5 _ _ hr4
  generalize (upd H4 l5 (.lst [.ref t2, u])) = H5 at s5 hl5 sP hM1 hr5
  have W5 := W2.same sP
  have S5 := S2.same sP
  have fin : ∀ v19, ResAt K H5 v19 (atR qs ix) → tB D (sg k (o_ (o_ o 18 (some (.int ix))) 19 (some v19))) H5 := fun v19 h19 =>
    kB k D (o_ (o_ o 18 (some (.int ix))) 19 (some v19)) H5 M R2 N es came (b + 1) at_ ix vb v10 v19 i qs W5 S5 hcs ho9 ha0 ha1 ho14 (vb2.keep (KeepT.of sP)) ho10 (x10.keep (KeepT.of sP)) ho13 rfl hW2.1 hW2.2 rfl h19 kQ
  by_cases hin : 0 ≤ ix ∧ ix < (qs.length : Int)
  · obtain ⟨j, rfl⟩ : ∃ j : Nat, ix = (j : Int) := ⟨ix.toNat, by omega⟩
    have hj : j < qs.length := by omega
    have rl : (((qs.map (·.1)).length : Nat) : Int) = (qs.length : Int) := by rw [List.length_map]
    have lt2 : V.bl (decide ((j : Int) < (((qs.map (·.1)).length : Nat) : Int))) = V.bl true := by rw [rl, decide_eq_true hin.2]
    have gj := List.getElem?_eq_getElem hj
    refine ⟨_, rfl, 0, (j : Int), rfl, rfl, true, congrArg V.bl (decide_eq_true hin.1), iteT ⟨_, congrArg some ho13, M (.row i), _, rfl, .inl (SqL.of hr5), (j : Int), _, rfl, rfl, .inr ⟨true, congrArg (fun v => [v]) lt2, l5, _, 1, u, rfl, rfl, SqL.of hl5, atI_nat (j := 1) rfl, ?_⟩⟩⟩
    exact fin u (by rw [atR_in gj, hu j _ rfl gj]; exact W5.vs _ (List.mem_of_getElem? hcs) _ (List.getElem_mem hj))
  · refine chain_out (n := (((qs.map (·.1)).length : Nat) : Int)) rfl (fun Q' q => ⟨_, congrArg some ho13, M (.row i), _, rfl, .inl (SqL.of hr5), q⟩) (by rw [List.length_map]; exact hin) ?_
    refine .inr ⟨false, rfl, l5, _, 0, .ref t2, rfl, rfl, SqL.of hl5, atI_nat (j := 0) rfl, ?_⟩
    exact fin (.ref t2) (by rw [atR_out hin]; exact hM1)
end
end My
namespace My
open PySem PySem.Spec PyProof.Rows L2
theorem slotR_some {N : List Str} (nd : N.Nodup) {x : Str} {k : Nat} (h : slotR N.reverse x = some k) : ∃ hk : k < N.length, N[k] = x := by
  by_cases m : x ∈ N
  · obtain ⟨j, hj, e⟩ := List.getElem_of_mem m
    have := slotR_rev nd hj
    rw [e, h] at this
    obtain rfl := Option.some.inj this
    exact ⟨hj, e⟩
  · rw [slotR_none _ _ (fun z => m (List.mem_reverse.mp z))] at h
    cases h
section
variable {K : PySem.W.Frag} {H : Hp} {L : Lab → Addr} {M : TLab → Addr} {ta : Nat → Addr} {R R' : WS} {N N' : Nat → List Str}
theorem cells_set {i : Nat} {c0 c : Cell} (hc : R.cells[i]? = some c0) (e : R'.cells = R.cells.set i c) (j : Nat) : R'.cells[j]? = if i = j then some c else R.cells[j]? := by
  rw [e, List.getElem?_set]
  by_cases z : i = j
  · rw [if_pos z, if_pos z, if_pos (lt_of hc)]
  · rw [if_neg z, if_neg z]
theorem TabAt.setPair (T : TabAt K H L M ta R N) {i sh k : Nat} {ps : List VV} {p : VV} (hc : R.cells[i]? = some (.obj sh ps)) (hk : k < ps.length) (e : R'.cells = R.cells.set i (.obj sh (ps.set k p))) :
    TabAt K (upd H (M (.pair i k)) (.lst [.str ((N sh).getD k Str.empty), p.1])) L M ta R' N := by
  have lv : tlive R (.pair i k) := ⟨sh, ps, hc, hk⟩
  have hl : R'.cells.length = R.cells.length := by rw [e, List.length_set]
  have g := cells_set hc e
  have tl : ∀ l, tlive R' l → tlive R l := fun l h => by
    cases l with
    | tab => trivial
    | row j => show j < R.cells.length; rw [← hl]; exact h
    | pair j m =>
      obtain ⟨s, qs, h1, h2⟩ := h
      rw [g] at h1
      by_cases z : i = j
      · subst z
        rw [if_pos rfl] at h1
        cases h1
        rw [List.length_set] at h2
        exact ⟨sh, ps, hc, h2⟩
      · rw [if_neg z] at h1
        exact ⟨s, qs, h1, h2⟩
  have kt : KeepT H (upd H (M (.pair i k)) (.lst [.str ((N sh).getD k Str.empty), p.1])) := fun b xs q => by
    rw [upd_ne (fun z => by subst z; rw [T.at_ _ lv] at q; cases q)]; exact q
  refine ⟨fun l h => ?_, fun l m h1 h2 => T.inj l m (tl l h1) (tl m h2), fun l m h1 h2 => T.sep l m (tl l h1) (by rw [← hl]; exact h2), fun j c hj => ?_⟩
  · by_cases z : l = .pair i k
    · subst z
      rw [upd_same]
      show _ = some (HO.lst ((R'.cells[i]?.map (pairV N k)).getD []))
      rw [g, if_pos rfl]
      show _ = some (HO.lst (match (ps.set k p)[k]? with | some p => [.str ((N sh).getD k Str.empty), p.1] | none => []))
      rw [List.getElem?_set_self hk]
    · rw [upd_ne (fun q => z (T.inj l _ (tl l h) lv q)), T.at_ l (tl l h)]
      cases l with
      | tab => show some (HO.dK (tabD ta R.cells.length)) = some (HO.dK (tabD ta R'.cells.length)); rw [hl]
      | row j =>
        show some (HO.lst ((R.cells[j]?.map (rowsV M j)).getD [])) = some (HO.lst ((R'.cells[j]?.map (rowsV M j)).getD []))
        rw [g]
        by_cases y : i = j
        · subst y
          rw [if_pos rfl, hc]
          show some (HO.lst ((List.range ps.length).map fun k => V.ref (M (.pair i k)))) = some (HO.lst ((List.range (ps.set k p).length).map fun k => V.ref (M (.pair i k))))
          rw [List.length_set]
        · rw [if_neg y]
      | pair j m =>
        show some (HO.lst ((R.cells[j]?.map (pairV N m)).getD [])) = some (HO.lst ((R'.cells[j]?.map (pairV N m)).getD []))
        rw [g]
        by_cases y : i = j
        · subst y
          have mk : k ≠ m := fun q => z (by rw [q])
          rw [if_pos rfl, hc]
          show some (HO.lst (match ps[m]? with | some p => [.str ((N sh).getD m Str.empty), p.1] | none => [])) = some (HO.lst (match (ps.set k p)[m]? with | some p => [.str ((N sh).getD m Str.empty), p.1] | none => []))
          rw [List.getElem?_set, if_neg mk]
        · rw [if_neg y]
  · rw [g] at hj
    by_cases z : i = j
    · subst z
      rw [if_pos rfl] at hj
      cases hj
      exact (T.tup i _ hc).keep kt
    · rw [if_neg z] at hj
      exact (T.tup j c hj).keep kt
def addM (M : TLab → Addr) (i n : Nat) (q : Addr) : TLab → Addr := fun l => if l = .pair i n then q else M l
theorem addM_ne {i n : Nat} {q : Addr} {l : TLab} (h : l ≠ .pair i n) : addM M i n q l = M l := if_neg h
theorem addM_eq {i n : Nat} {q : Addr} : addM M i n q (.pair i n) = q := if_pos rfl
theorem rows_add {i sh sh' : Nat} {ps : List VV} {p : VV} {q : Addr} : rowsV (addM M i ps.length q) i (.obj sh' (ps ++ [p])) = rowsV M i (.obj sh ps) ++ [.ref q] := by
  show ((List.range (ps ++ [p]).length).map fun k => V.ref (addM M i ps.length q (.pair i k))) = ((List.range ps.length).map fun k => V.ref (M (.pair i k))) ++ [.ref q]
  rw [List.length_append, List.length_singleton, List.range_succ, List.map_append]
  congr 1
  · refine List.map_congr_left fun m hm => ?_
    have := List.mem_range.mp hm
    rw [addM_ne (fun z => by injection z with _ z; omega)]
  · show [V.ref (addM M i ps.length q (.pair i ps.length))] = _
    rw [addM_eq]
theorem rows_other {i n j : Nat} {q : Addr} (h : i ≠ j) (c : Cell) : rowsV (addM M i n q) j c = rowsV M j c := by
  cases c with
  | lst ps => rfl
  | obj s ps =>
    unfold rowsV
    refine List.map_congr_left fun m _ => ?_
    rw [addM_ne (fun z => by injection z with z; exact h z.symm)]
theorem add_live {i sh sh' : Nat} {ps : List VV} {p : VV} (hc : R.cells[i]? = some (.obj sh ps)) (e : R'.cells = R.cells.set i (.obj sh' (ps ++ [p]))) {l : TLab} (h : tlive R' l) (n : l ≠ .pair i ps.length) : tlive R l := by
  have hl : R'.cells.length = R.cells.length := by rw [e, List.length_set]
  cases l with
  | tab => trivial
  | row j => show j < R.cells.length; rw [← hl]; exact h
  | pair j m =>
    obtain ⟨s, qs, h1, h2⟩ := h
    rw [cells_set hc e] at h1
    by_cases z : i = j
    · subst z
      rw [if_pos rfl] at h1
      cases h1
      rw [List.length_append, List.length_singleton] at h2
      have : m ≠ ps.length := fun q => n (by rw [q])
      exact ⟨sh, ps, hc, by omega⟩
    · rw [if_neg z] at h1
      exact ⟨s, qs, h1, h2⟩
theorem TabAt.addPair (T : TabAt K H L M ta R N) (hL : ∀ l, live R.cells.length l → ∃ o, H (L l) = some o) {i sh sh' : Nat} {ps : List VV} {p : VV} {x : Str} {q : Addr} (nq : H q = none) (hc : R.cells[i]? = some (.obj sh ps)) (e : R'.cells = R.cells.set i (.obj sh' (ps ++ [p])))
    (hN : ∀ c ∈ R.cells, ∀ s qs, c = .obj s qs → N' s = N s) (hx : N' sh' = N sh ++ [x]) (hl : (N sh).length = ps.length) :
    TabAt K (upd (upd H q (.lst [.str x, p.1])) (M (.row i)) (.lst (rowsV M i (.obj sh ps) ++ [.ref q]))) L (addM M i ps.length q) ta R' N' := by
  have hcl : R'.cells.length = R.cells.length := by rw [e, List.length_set]
  have g := cells_set hc e
  have lr : tlive R (.row i) := lt_of hc
  have qM : ∀ l, tlive R l → M l ≠ q := fun l h z => by have := T.at_ l h; rw [z, nq] at this; cases this
  have kt : KeepT H (upd (upd H q (.lst [.str x, p.1])) (M (.row i)) (.lst (rowsV M i (.obj sh ps) ++ [.ref q]))) := fun b xs z => by
    rw [upd_ne (fun y => by subst y; rw [T.at_ _ lr] at z; cases z), upd_ne (fun y => by subst y; rw [nq] at z; cases z)]; exact z
  refine ⟨fun l h => ?_, fun l m h1 h2 z => ?_, fun l m h1 h2 z => ?_, fun j c hj => ?_⟩
  · by_cases z : l = .pair i ps.length
    · subst z
      rw [addM_eq, upd_ne (fun y => qM _ lr y.symm), upd_same]
      show _ = some (HO.lst ((R'.cells[i]?.map (pairV N' ps.length)).getD []))
      rw [g, if_pos rfl]
      show _ = some (HO.lst (match (ps ++ [p])[ps.length]? with | some p => [.str ((N' sh').getD ps.length Str.empty), p.1] | none => []))
      rw [List.getElem?_append_right (Nat.le_refl _), Nat.sub_self, hx]
      show _ = some (HO.lst [.str ((N sh ++ [x]).getD ps.length Str.empty), p.1])
      rw [← hl, List.getD_eq_getElem?_getD, List.getElem?_append_right (Nat.le_refl _), Nat.sub_self]
      rfl
    · have hR := add_live hc e h z
      rw [addM_ne z]
      by_cases y : l = .row i
      · subst y
        rw [upd_same]
        show _ = some (HO.lst ((R'.cells[i]?.map (rowsV (addM M i ps.length q) i)).getD []))
        rw [g, if_pos rfl]
        show _ = some (HO.lst (rowsV (addM M i ps.length q) i (.obj sh' (ps ++ [p]))))
        rw [rows_add (sh := sh)]
      · rw [upd_ne (fun w => y (T.inj l _ hR lr w)), upd_ne (qM l hR), T.at_ l hR]
        cases l with
        | tab => show some (HO.dK (tabD ta R.cells.length)) = some (HO.dK (tabD ta R'.cells.length)); rw [hcl]
        | row j =>
          have ij : i ≠ j := fun w => y (by rw [w])
          show some (HO.lst ((R.cells[j]?.map (rowsV M j)).getD [])) = some (HO.lst ((R'.cells[j]?.map (rowsV (addM M i ps.length q) j)).getD []))
          rw [g, if_neg ij]
          cases R.cells[j]? with
          | none => rfl
          | some c => show some (HO.lst (rowsV M j c)) = some (HO.lst (rowsV (addM M i ps.length q) j c)); rw [rows_other ij]
        | pair j m =>
          show some (HO.lst ((R.cells[j]?.map (pairV N m)).getD [])) = some (HO.lst ((R'.cells[j]?.map (pairV N' m)).getD []))
          rw [g]
          by_cases ij : i = j
          · subst ij
            have mk : m ≠ ps.length := fun w => z (by rw [w])
            obtain ⟨s2, qs2, h1, h2⟩ := hR
            rw [hc] at h1
            cases h1
            rw [if_pos rfl, hc]
            show some (HO.lst (match ps[m]? with | some p => [.str ((N sh).getD m Str.empty), p.1] | none => [])) = some (HO.lst (match (ps ++ [p])[m]? with | some p => [.str ((N' sh').getD m Str.empty), p.1] | none => []))
            rw [List.getElem?_append_left h2, hx, List.getD_eq_getElem?_getD, List.getD_eq_getElem?_getD, List.getElem?_append_left (by rw [hl]; exact h2)]
          · rw [if_neg ij]
            cases hj : R.cells[j]? with
            | none => rfl
            | some c =>
              cases c with
              | lst _ => rfl
              | obj s qs =>
                show some (HO.lst (match qs[m]? with | some p => [.str ((N s).getD m Str.empty), p.1] | none => [])) = some (HO.lst (match qs[m]? with | some p => [.str ((N' s).getD m Str.empty), p.1] | none => []))
                rw [hN _ (List.mem_of_getElem? hj) s qs rfl]
  · by_cases a : l = .pair i ps.length
    · by_cases b : m = .pair i ps.length
      · rw [a, b]
      · rw [a, addM_eq, addM_ne b] at z
        exact absurd z.symm (qM m (add_live hc e h2 b))
    · by_cases b : m = .pair i ps.length
      · rw [b, addM_eq, addM_ne a] at z
        exact absurd z (qM l (add_live hc e h1 a))
      · rw [addM_ne a, addM_ne b] at z
        exact T.inj l m (add_live hc e h1 a) (add_live hc e h2 b) z
  · rw [hcl] at h2
    by_cases a : l = .pair i ps.length
    · rw [a, addM_eq] at z
      obtain ⟨o, ho⟩ := hL m h2
      rw [← z, nq] at ho
      cases ho
    · rw [addM_ne a] at z
      exact T.sep l m (add_live hc e h1 a) h2 z
  · rw [addM_ne (fun w => by cases w)]
    rw [g] at hj
    by_cases z : i = j
    · subst z
      rw [if_pos rfl] at hj
      cases hj
      exact (T.tup i _ hc).keep kt
    · rw [if_neg z] at hj
      exact (T.tup j c hj).keep kt
end
section
variable {K : PySem.W.Frag} {k : Cn} {H H' : Hp} {M M' : TLab → Addr} {R R' : WS} {N N' : Nat → List Str} {es : List (Addr × Addr × V)} {came cp : List (List Str × Val)} {b : Nat}
theorem LSx.there (S : LSx K k H M R N es came cp b) (q : Addr) (h : q = k.da ∨ q = k.rf ∨ q = k.ml ∨ ∃ e ∈ es, q = e.2.1) : ∃ o, H q = some o := by
  rcases h with rfl | rfl | rfl | ⟨e, he, rfl⟩
  · exact ⟨_, S.draws⟩
  · exact ⟨_, S.refs⟩
  · exact ⟨_, S.met⟩
  · obtain ⟨i, hi, ei⟩ := List.getElem_of_mem he
    have hi' : i < came.length := by rw [← S.ca.len]; exact hi
    obtain ⟨_, h2, _⟩ := S.ca.at_ i e came[i] (by rw [← ei]; exact List.getElem?_eq_getElem hi) (List.getElem?_eq_getElem hi')
    exact ⟨_, h2⟩
theorem LSx.move {cp' : List (List Str × Val)} (S : LSx K k H M R N es came cp' b) (hb : b < 200) (tab : TabAt K H' k.L M' k.ta R' N') (hn : R'.cells.length = R.cells.length) (tb : M' .tab = M .tab) (pl : PLs R' N' cp) (dr : ∀ c ∈ R'.cells, ∀ p ∈ c.vs, Drawn k.n p.2) (few : ∀ c ∈ R'.cells, c.vs.length ≤ b + 1)
    (bS : R'.shapes.length ≤ b + 1 + 1) (bK : R'.kids.length ≤ b + 1) (bW : R'.widened.length ≤ b + 1) (bP : R'.printed.length ≤ b + 1) (kt : KeepT H H') (ou : ∀ q o, H q = some o → (∀ l, live k.n l → k.L l ≠ q) → (∀ l, tlive R l → M l ≠ q) → H' q = some o)
    (lab : ∀ l, tlive R' l → (tlive R l ∧ M' l = M l) ∨ H (M' l) = none) : LSx K k H' M' R' N' es came cp (b + 1) :=
  have nw : ∀ q o, H q = some o → (∀ l, tlive R l → M l ≠ q) → ∀ l, tlive R' l → M' l ≠ q := fun q o hq h l hl z => by
    rcases lab l hl with ⟨h1, h2⟩ | h1
    · exact h l h1 (h2 ▸ z)
    · rw [z, hq] at h1; cases h1
  have oq := fun q (h : q = k.da ∨ q = k.rf ∨ q = k.ml ∨ ∃ e ∈ es, q = e.2.1) o (e : H q = some o) => ou q o e (S.outs q h).1 (S.outs q h).2.1
  { n := hn.trans S.n, pos := S.pos, n9 := S.n9, b9 := hb, tab := tab, tb := tb.trans S.tb
    ca := ⟨ou _ _ S.ca.ls S.cmL S.cmM, S.ca.len, fun i e c a d => by obtain ⟨h1, h2, h3⟩ := S.ca.at_ i e c a d; exact ⟨h1.keep kt, oq _ (.inr (.inr (.inr ⟨e, List.mem_of_getElem? a, rfl⟩))) _ h2, h3.keep kt⟩⟩
    pl := pl, dr := dr, few := few, bS := bS, bK := bK, bW := bW, bP := bP, bC := Nat.le_succ_of_le S.bC, ce := S.ce
    draws := oq _ (.inl rfl) _ S.draws, dok := S.dok, refs := oq _ (.inr (.inl rfl)) _ S.refs, rlen := S.rlen, ri := S.ri, rv := fun p hp => (S.rv p hp).keep kt, met := oq _ (.inr (.inr (.inl rfl))) _ S.met
    outs := fun q h => by
      obtain ⟨o, ho⟩ := S.there q h
      exact ⟨(S.outs q h).1, nw q o ho (S.outs q h).2.1, (S.outs q h).2.2⟩
    cmL := S.cmL, cmM := nw _ _ S.ca.ls S.cmM }
theorem LSx.comes {c : List Str × Val} (S : LSx K k H M R N es came (came ++ [c]) b) {t nl : Addr} {v : V} (hv : Vl K H v c.2) (ht : TupAt K H t [.ref nl, v]) (hn : H nl = some (.lst (c.1.map V.str))) (on : Out k M R nl) (cok : c.2.ok) (hb : b < 200) :
    LS K k (upd H k.cm (.lst (es.map (fun e => V.ref e.1) ++ [.ref t]))) M R N (es ++ [(t, nl, v)]) (came ++ [c]) (b + 1) := by
  have kt : KeepT H (upd H k.cm (.lst (es.map (fun e => V.ref e.1) ++ [.ref t]))) := fun b xs z => by
    rw [upd_ne (fun y => by subst y; rw [S.ca.ls] at z; cases z)]; exact z
  have ou : ∀ q o, q ≠ k.cm → H q = some o → (upd H k.cm (.lst (es.map (fun e => V.ref e.1) ++ [.ref t]))) q = some o := fun q o h e => by rw [upd_ne h]; exact e
  exact
  { n := S.n, pos := S.pos, n9 := S.n9, b9 := hb
    tab := ⟨fun l hl => ou _ _ (S.cmM l hl) (S.tab.at_ l hl), S.tab.inj, S.tab.sep, fun i c hc => (S.tab.tup i c hc).keep kt⟩
    tb := S.tb
    ca := ⟨by rw [upd_same, List.map_append]; rfl, by rw [List.length_append, List.length_append, S.ca.len]; rfl, fun i e c' a d => by
      by_cases z : i < es.length
      · rw [List.getElem?_append_left z] at a
        rw [List.getElem?_append_left (by rw [← S.ca.len]; exact z)] at d
        obtain ⟨h1, h2, h3⟩ := S.ca.at_ i e c' a d
        exact ⟨h1.keep kt, ou _ _ (S.outs _ (.inr (.inr (.inr ⟨e, List.mem_of_getElem? a, rfl⟩)))).2.2 h2, h3.keep kt⟩
      · have ei : i = es.length := by have := lt_of a; rw [List.length_append] at this; simp only [List.length_singleton] at this; omega
        subst ei
        rw [List.getElem?_append_right (Nat.le_refl _), Nat.sub_self] at a
        rw [S.ca.len, List.getElem?_append_right (Nat.le_refl _), Nat.sub_self] at d
        obtain rfl := Option.some.inj a
        obtain rfl := Option.some.inj d
        exact ⟨ht.keep kt, ou _ _ on.2.2 hn, hv.keep kt⟩⟩
    pl := S.pl, dr := S.dr, few := fun c hc => Nat.le_succ_of_le (S.few c hc), bS := Nat.le_succ_of_le S.bS, bK := Nat.le_succ_of_le S.bK, bW := Nat.le_succ_of_le S.bW, bP := Nat.le_succ_of_le S.bP
    bC := by rw [List.length_append]; exact Nat.succ_le_succ S.bC
    ce := fun e he => by
      rcases List.mem_append.mp he with z | z
      · exact S.ce e z
      · obtain rfl := List.mem_singleton.mp z; exact cok
    draws := ou _ _ (S.outs _ (.inl rfl)).2.2 S.draws, dok := S.dok, refs := ou _ _ (S.outs _ (.inr (.inl rfl))).2.2 S.refs, rlen := S.rlen, ri := S.ri, rv := fun p hp => (S.rv p hp).keep kt, met := ou _ _ (S.outs _ (.inr (.inr (.inl rfl)))).2.2 S.met
    outs := fun q h => by
      rcases h with h | h | h | ⟨e, he, rfl⟩
      · exact S.outs q (.inl h)
      · exact S.outs q (.inr (.inl h))
      · exact S.outs q (.inr (.inr (.inl h)))
      · rcases List.mem_append.mp he with z | z
        · exact S.outs _ (.inr (.inr (.inr ⟨e, z, rfl⟩)))
        · obtain rfl := List.mem_singleton.mp z; exact on
    cmL := S.cmL, cmM := S.cmM }
theorem dr_set {n i : Nat} {c : Cell} (e : R'.cells = R.cells.set i c) (h : ∀ c ∈ R.cells, ∀ p ∈ c.vs, Drawn n p.2) (hc : ∀ p ∈ c.vs, Drawn n p.2) : ∀ c ∈ R'.cells, ∀ p ∈ c.vs, Drawn n p.2 := fun c' hm => by
  rw [e] at hm
  rcases List.mem_or_eq_of_mem_set hm with z | z
  · exact h c' z
  · subst z; exact hc
theorem few_set {n i : Nat} {c : Cell} (e : R'.cells = R.cells.set i c) (h : ∀ c ∈ R.cells, c.vs.length ≤ n) (hc : c.vs.length ≤ n + 1) : ∀ c ∈ R'.cells, c.vs.length ≤ n + 1 := fun c' hm => by
  rw [e] at hm
  rcases List.mem_or_eq_of_mem_set hm with z | z
  · exact Nat.le_succ_of_le (h c' z)
  · subst z; exact hc
end
end My
namespace My
open PySem PySem.Spec PyProof.Rows L2
section
variable {R : WS} {N : Nat → List Str} {came : List (List Str × Val)}
theorem PLs.nameOf (P : PLs R N came) {j : Nat} {l : List Str} (h : Chain R.shapes j l.reverse) (hl : l ≠ []) : N j = l ∧ 0 < j ∧ j < R.shapes.length := by
  have hj := h.lt
  have e := Chain.fn (P.all j hj) h
  refine ⟨rev_inj e, ?_, hj⟩
  cases hr : l.reverse with
  | nil => exact absurd (List.reverse_eq_nil_iff.mp hr) hl
  | cons y r =>
    rw [hr] at h
    cases h with
    | step a _ _ _ _ => exact a
theorem PLs.putSet (P : PLs R N came) {i sh j kx : Nat} {ps : List VV} {p : VV} (hc : R.cells[i]? = some (.obj sh ps)) (hk : kx < (N sh).length) (h : Chain R.shapes j ((N sh).reverse.drop ((N sh).reverse.length - (kx + 1)))) :
    PLs ((R.note j p.2).setCell i (.obj sh (ps.set kx p))) N (came ++ [((N sh).take (kx + 1), p.2)]) := by
  obtain ⟨hsh, hln⟩ := P.objs _ (List.mem_of_getElem? hc) sh ps rfl
  have e1 : (N sh).reverse.drop ((N sh).reverse.length - (kx + 1)) = ((N sh).take (kx + 1)).reverse := by
    rw [List.drop_reverse, List.length_reverse]
    congr 2
    omega
  rw [e1] at h
  have ne : (N sh).take (kx + 1) ≠ [] := fun z => by
    have := congrArg List.length z
    rw [List.length_take] at this
    simp only [List.length_nil] at this
    omega
  obtain ⟨eN, j0, jl⟩ := P.nameOf h ne
  have P1 := P.note (d := p.2) j0 jl
  rw [eN] at P1
  refine P1.setCell (by rw [WS.note_shapes]; exact hsh) (by rw [List.length_set]; exact hln) fun k' p' hp => ?_
  by_cases z : kx = k'
  · subst z
    rw [List.getElem?_set_self (by rw [← hln]; exact hk)] at hp
    obtain rfl := Option.some.inj hp
    exact List.mem_append_right _ (List.mem_singleton.mpr rfl)
  · rw [List.getElem?_set_ne z] at hp
    exact List.mem_append_left _ (P.vals _ (List.mem_of_getElem? hc) sh ps rfl k' p' hp)
theorem PLs.old (P : PLs R N came) {i sh : Nat} {ps : List VV} {p : VV} {x : Str} (hc : R.cells[i]? = some (.obj sh ps)) (k' : Nat) (p' : VV) (hp : (ps ++ [p])[k']? = some p') : ((N sh ++ [x]).take (k' + 1), p'.2) ∈ came ++ [(N sh ++ [x], p.2)] := by
  obtain ⟨hsh, hln⟩ := P.objs _ (List.mem_of_getElem? hc) sh ps rfl
  by_cases z : k' < ps.length
  · rw [List.getElem?_append_left z] at hp
    rw [List.take_append_of_le_length (by omega)]
    exact List.mem_append_left _ (P.vals _ (List.mem_of_getElem? hc) sh ps rfl k' p' hp)
  · have e : k' = ps.length := by have := lt_of hp; rw [List.length_append] at this; simp only [List.length_singleton] at this; omega
    subst e
    rw [List.getElem?_append_right (Nat.le_refl _), Nat.sub_self] at hp
    obtain rfl := Option.some.inj hp
    rw [List.take_of_length_le (by rw [List.length_append, hln]; simp)]
    exact List.mem_append_right _ (List.mem_singleton.mpr rfl)
theorem PLs.putKid (P : PLs R N came) {i sh j : Nat} {ps : List VV} {p : VV} {x : Str} (hc : R.cells[i]? = some (.obj sh ps)) (hj : R.kid sh x = some j) :
    N j = N sh ++ [x] ∧ PLs ((R.note j p.2).setCell i (.obj j (ps ++ [p]))) N (came ++ [(N sh ++ [x], p.2)]) := by
  obtain ⟨hsh, hln⟩ := P.objs _ (List.mem_of_getElem? hc) sh ps rfl
  obtain ⟨j0, s, hs, hf⟩ := P.kidS _ _ _ hj
  have jl := lt_of hs
  have eN : N j = N sh ++ [x] := by
    have h := P.all j jl
    cases hr : (N j).reverse with
    | nil =>
      rw [hr] at h
      cases h
      exact absurd j0 (Nat.lt_irrefl 0)
    | cons y r =>
      rw [hr] at h
      cases h with
      | step a b c d e =>
        rw [hs] at b
        obtain rfl := Option.some.inj b
        rw [hf] at c
        obtain ⟨rfl, rfl⟩ := Prod.mk.inj (Option.some.inj c)
        have := Chain.fn e (P.all sh hsh)
        rw [this] at hr
        have := congrArg List.reverse hr
        rw [List.reverse_reverse] at this
        rw [this]; simp
  refine ⟨eN, ?_⟩
  have P1 := P.note (d := p.2) j0 jl
  rw [eN] at P1
  refine P1.setCell (by rw [WS.note_shapes]; exact jl) (by rw [eN, List.length_append, List.length_append, hln]; rfl) fun k' p' hp => ?_
  rw [eN]
  exact P.old hc k' p' hp
theorem PLs.putNew (P : PLs R N came) {i sh : Nat} {ps : List VV} {p : VV} {x : Str} {v : V} (hc : R.cells[i]? = some (.obj sh ps)) (hj : R.kid sh x = none) (hx : x ∉ N sh) (ha : ABC x) :
    PLs ((R.addShape v sh x (N sh).reverse.length p.2).setCell i (.obj R.shapes.length (ps ++ [p]))) (addN N R.shapes.length sh x) (came ++ [(N sh ++ [x], p.2)]) := by
  obtain ⟨hsh, hln⟩ := P.objs _ (List.mem_of_getElem? hc) sh ps rfl
  have P1 := P.add (d := p.2) (v := v) hsh hj hx ha
  have en : addN N R.shapes.length sh x R.shapes.length = N sh ++ [x] := if_pos rfl
  refine P1.setCell (by show _ < (R.shapes ++ [_]).length; rw [List.length_append]; simp) (by rw [en, List.length_append, List.length_append, hln]; rfl) fun k' p' hp => ?_
  rw [en]
  exact P.old hc k' p' hp
theorem note_bounds {j : Nat} {d : Val} : (R.note j d).kids = R.kids ∧ (R.note j d).printed = R.printed ∧ (R.note j d).widened.length ≤ R.widened.length + 1 := by
  unfold WS.note
  split
  · exact ⟨rfl, rfl, by show (R.widened ++ [j]).length ≤ _; rw [List.length_append]; exact Nat.le_refl _⟩
  · exact ⟨rfl, rfl, Nat.le_succ _⟩
end
end My
namespace My
open PySem PySem.Spec PyProof.Rows L2
theorem known_shaped {x : Str} {d : Val} (hx : PyData.strOk x = true) (hd : d.ok) : SeqAt.shaped (.list [.list [.str x, d.data]]) = true := by
  have z := d.shaped hd
  have z1 := SeqAt.canLay_of_shaped z
  have z3 : d.data.depth ≤ 3 := by
    have q := argDeep d
    unfold Val.data
    simp only [PyData.depth, PyData.depthAll]
    omega
  refine Bool.and_eq_true_iff.mpr ⟨?_, decide_eq_true ?_⟩
  · simp only [PyData.canLay0, PyData.canLayAll0, hx, z1, Bool.and_self]
  · simp only [PyData.depth, PyData.depthAll]; omega
section
variable {P : Program} {w : World} {K : PySem.W.Frag} {mg : Str → Option Value} {base : Heap} {C CT : Addr}
def TurnPost (K : PySem.W.Frag) (C : Addr) (k : Cn) (D : Ends) (b : Nat) (at_ : Int) (vb : V) : Prop :=
  ∀ o' H' M' R' N' es' came', WorldAt K C H' k.L R' → LS K k H' M' R' N' es' came' b → o' 9 = some (.int at_) → o' 14 = some vb → ThrAt K H' vb "kind" → D.nx (sg k o') H'
theorem objC_ok {fT : Addr} {fdT : FuncData} (T : WT K mg C) (B : Bn mg)
    (GT : FnOk P w K mg base CX0 6 fT fdT ["world", "what", "name", "args"] (spTold K C CT)) (cT : Fc K mg "_law_told" fT fdT ["world", "what", "name", "args"])
    {f : Addr} {cdv : Value} {A : Around} {outer : List Env} {s : Shared} {H0 : Hp} {E : XK} (hr : Room 11 (A.deeper (envOfC "law" (defScope sLaw) s.heap.objs.size f cdv))) :
    ∃ t, PSs (cxOf CX0 P w K mg base nLaw "law" (defScope sLaw) f cdv A outer s H0 E).nox (objS.drop 3) t ∧ ∀ (k : Cn) (D : Ends) (o : Nat → Option V) (H : Hp) (M : TLab → Addr) (R : WS) (N : Nat → List Str) (es : List (Addr × Addr × V)) (came : List (List Str × Val)) (b : Nat) (at_ : Int) (vb v10 v11 : V) (i sh kx : Nat) (ps : List VV) (d11 : Val) (x : Str) (hk : kx < (N sh).length),
      WorldAt K C H k.L R → LSx K k H M R N es came (came ++ [((N sh).take (kx + 1), d11)]) b → b < 190 → R.cells[i]? = some (.obj sh ps) → (N sh)[kx] = x → o 9 = some (.int at_) → o 14 = some vb → ThrAt K H vb "kind" → o 10 = some v10 → Vl K H v10 (.ref (i : Int)) → o 13 = some (.ref (M (.row i))) → o 11 = some v11 → Vl K H v11 d11 → Drawn k.n d11 → o 15 = some (.str x) →
      TurnPost K C k D (b + 1) at_ vb → t D (sg k o) H := by
  refine ⟨_, (pss_cons (ps_setLc (i := 17) (own := [("pair", 28)]) (g := gName 28) (tt := tYes) (by rfl) scLaw.nd rfl rfl (sw_true rfl rfl rfl (by decide +kernel)) (pi_list (pv 13)) (blkOk_by (own := [("pair", 28)]) (N := nLaw) (sc := defScope sLaw) (by decide +kernel)) (fun _ _ _ _ _ => pg_name (i := 28) scLaw.nd rfl (Or.inl rfl)) (fun _ _ _ _ _ => pts_nil) (fun _ _ _ _ _ => (show PE _ _ (tOp (rIxL K) (tVar 28) (tC (.int 0))) from (pe_ix (r := rIxL K) ix_list (pv 28) pe_int (fun _ _ => rfl))))) (pss_cons (ps_expr (pe_bm PySem.F.plainAttrs_list PySem.F.slot_list_append PySem.F.type_list_append mt_append (pv 4) (pa_cons (pe_tup (pa_cons (pe_slice sl_list (pv 17) po_none (po_some (pe_op op_add (pe_bm PySem.F.plainAttrs_list PySem.F.slot_list_index PySem.F.type_list_index mt_index (pv 17) (pa_cons (pv 15) pa_nil)) pe_int))) (pa_cons (pv 11) pa_nil))) pa_nil))) (pss_one (ps_if (PW.pt (pw_or (pt_cmpR (op_neD (hu64 hr)) (pe_call GT (hr.mono (by decide)) rfl cT.g cT.kp cT.b .nil pass0 (pa_cons (pv 2) (pa_cons pe_str (pa_cons pe_non (pa_cons (pe_lst (pa_cons (pv 10) (pa_cons (pe_tup (pa_cons pe_str (pa_cons pe_int pa_nil))) pa_nil))) pa_nil))))) (pv 14) (nomark _)) (pw_or1 (pt_cmpR (op_neD (hu64 hr)) (pe_call GT (hr.mono (by decide)) rfl cT.g cT.kp cT.b .nil pass0 (pa_cons (pv 2) (pa_cons pe_str (pa_cons pe_non (pa_cons (pe_lst (pa_cons (pv 10) pa_nil)) pa_nil))))) (pv 14) (nomark _))))) (pss_one (ps_ret pe_bl)) pss_nil)))), ?_⟩
  intro k D o H M R N es came b at_ vb v10 v11 i sh kx ps d11 x hk W S hb hc hx ho9 ho14 hvb ho10 hv10 ho13 ho11 hv11 hd11 ho15 kQ
  have hrow : H (M (.row i)) = some (.lst (rowsV M i (.obj sh ps))) := S.tab.rowC hc
  obtain ⟨hsh, hln⟩ := S.pl.objs _ (List.mem_of_getElem? hc) sh ps rfl
  have hps : ps.length ≤ b := S.few _ (List.mem_of_getElem? hc)
  obtain ⟨nd, habc⟩ := S.pl.abc sh
  -- names
  refine ⟨_, congrArg some ho13, M (.row i), rfl, ⟨_, SqL.of hrow⟩, fun D1 hD1 => ?_⟩
  refine lc_list (K := K) (a := M (.row i)) (xs := rowsV M i (.obj sh ps)) (fun j G' => Same H G' ∧ G' D1 = some (.lst (((N sh).take j).map V.str))) ⟨same_new hD1, upd_same⟩ (fun k G' _ h => SqL.of (h.1 _ _ hrow)) ?_ ?_
  · rintro j y G' hy ⟨sG', hGD⟩
    have hj : j < ps.length := by have := lt_of hy; rw [rows_len] at this; exact this
    rw [rows_get hj] at hy
    obtain rfl := Option.some.inj hy
    have hjN : j < (N sh).length := by rw [hln]; exact hj
    refine ⟨rfl, yes_ok (iteT ⟨_, rfl, M (.pair i j), _, 0, .str (N sh)[j], rfl, rfl, SqL.of ((S.tab.same sG').pairO hc hj hjN), atI_nat (j := 0) rfl, _, hGD, by rw [List.length_map, List.length_take, sizeLine_eq]; omega, fun b o z => ?_, ?_⟩)⟩
    · by_cases q : b = D1
      · subst q; rw [hD1] at z; cases z
      · rw [upd_ne q]; exact sG' b o z
    · rw [upd_same, List.take_succ_eq_append_getElem hjN, List.map_append]; rfl
  rintro H1 ⟨s1, hD⟩
  rw [rows_len, ← hln, List.take_length] at hD
  have S1 := S.same s1
  have W1 := W.same s1
  -- came.append
  refine ⟨_, rfl, .inl ⟨rfl, _, SqL.of S1.ca.ls⟩, ?_⟩
  have hfl : ((N sh).map V.str).all flatV = true := by
    rw [List.all_eq_true]
    intro z hz
    obtain ⟨q, _, rfl⟩ := List.mem_map.mp hz
    rfl
  have gx : ((N sh).map V.str)[kx]? = some (V.str x) := by rw [List.getElem?_map, List.getElem?_eq_getElem hk, hx]; rfl
  refine ⟨_, rfl, _, rfl, .inl ⟨rfl, _, SqL.of hD⟩, _, congrArg some ho15, D1, _, .str x, kx, .str x, rfl, rfl, SqL.of hD, rfl, hfl, gx, ?_, ?_, ?_⟩
  · simp [eqV]
  · intro m z' hm hz
    rw [List.getElem?_map] at hz
    have hmN : m < (N sh).length := by omega
    rw [List.getElem?_eq_getElem hmN] at hz
    obtain rfl := Option.some.inj hz
    have hne : (N sh)[m] ≠ x := fun q => by
      have e1 := slotR_rev nd hmN
      have e2 := slotR_rev nd hk
      rw [q, ← hx, e2] at e1
      have := Option.some.inj e1
      omega
    simp [eqV, hne]
  refine ⟨_, _, rfl, rfl, _, rfl, D1, _, rfl, SqL.of hD, fun nl nnl => ⟨_, congrArg some ho11, by show 2 ≤ sizeLine; decide, fun t nt => ?_⟩⟩
  have ecut : cutV ((N sh).map V.str) none (some ((kx : Int) + 1)) = (((N sh).take (kx + 1)).map V.str) := by
    have := cut_take ((N sh).map V.str) (kx + 1) (by rw [List.length_map]; omega)
    rw [List.map_take, ← this]; rfl
  have s2 := same_new (o := .lst (cutV ((N sh).map V.str) none (some ((kx : Int) + 1)))) nnl
  have s3 := same_new (o := .tup [.ref nl, v11]) nt
  have hnl : (upd (upd H1 nl (.lst (cutV ((N sh).map V.str) none (some ((kx : Int) + 1))))) t (.tup [.ref nl, v11])) nl = some (.lst (((N sh).take (kx + 1)).map V.str)) := s3 _ _ (by rw [upd_same, ecut])
  have ht : TupAt K (upd (upd H1 nl (.lst (cutV ((N sh).map V.str) none (some ((kx : Int) + 1))))) t (.tup [.ref nl, v11])) t [.ref nl, v11] := .inl upd_same
  have hon : Out k M R nl := ⟨fun l hl => W1.newL nnl l (by rw [S.n]; exact hl), (fun l hl z => by
    have q := S1.tab.at_ l hl
    rw [z, nnl] at q
    exact nomatch q), (fun z => by
    have q := S1.ca.ls
    rw [← z, nnl] at q
    exact nomatch q)⟩
  have sB := s1.trans (s2.trans s3)
  generalize (upd (upd H1 nl (.lst (cutV ((N sh).map V.str) none (some ((kx : Int) + 1))))) t (.tup [.ref nl, v11])) = H2 at hnl ht sB
  have S2 := S.same sB
  have W2 := W.same sB
  have w11 := hv11.keep (KeepT.of sB)
  have hesl : es.length ≤ b := by rw [S.ca.len]; exact S.bC
  refine ⟨k.cm, _, _, rfl, rfl, S2.ca.ls, by rw [List.length_map, sizeLine_eq]; omega, ?_⟩
  have S3 := LSx.comes (c := ((N sh).take (kx + 1), d11)) S2 w11 ht hnl hon hd11.ok (by omega)
  have W3 : WorldAt K C (upd H2 k.cm (.lst (es.map (fun e => V.ref e.1) ++ [.ref t]))) k.L R := WorldAt.row (R0 := R) (M := M) W2 (fun m hm => S.cmL m (by rw [← S.n]; exact hm)) S2.ca.ls
  have kt3 : KeepT H (upd H2 k.cm (.lst (es.map (fun e => V.ref e.1) ++ [.ref t]))) := KeepT.trans (KeepT.of sB) fun b xs z => by
    rw [upd_ne (fun y => by subst y; rw [S2.ca.ls] at z; cases z)]; exact z
  have vb3 := hvb.keep kt3
  have x10 := hv10.keep kt3
  generalize (upd H2 k.cm (.lst (es.map (fun e => V.ref e.1) ++ [.ref t]))) = H3 at S3 W3 vb3 x10
  -- item, len
  refine ⟨_, rfl, _, congrArg some ho10, by show 2 ≤ sizeLine; decide, fun t4 n4 => ⟨by show 2 ≤ sizeLine; decide, fun ar nar => ?_⟩⟩
  have sA := (same_new (o := .tup [.str "int", .int 0]) n4).trans (same_new (o := .lst [v10, .ref t4]) nar)
  have tj : Vl K (upd (upd H3 t4 (.tup [.str "int", .int 0])) ar (.lst [v10, .ref t4])) (.ref t4) (.int 0) := Vl.keep ⟨t4, rfl, .inl upd_same⟩ (KeepT.of (same_new (o := .lst [v10, .ref t4]) nar))
  refine told_itemKind (E := E) (W3.same sA) upd_same ((W3.same (same_new n4)).newL nar) (x10.keep (KeepT.of sA)) hc tj fun H4 u4 s4 thr4 => ?_
  have sC := sA.trans s4
  have vb4 := vb3.keep (KeepT.of sC)
  refine ⟨_, congrArg some ho14, _, _, thr4.dp, vb4.dp, Res.shaped _ kdOk, Res.shaped _ kdOk, false, congrArg V.bl (by rw [eqv_same _ kdOk]; rfl), iteF ?_⟩
  have x10 := x10.keep (KeepT.of sC)
  refine ⟨_, rfl, _, congrArg some ho10, by show 1 ≤ sizeLine; decide, fun ar2 nar2 => ?_⟩
  have sG := same_new (o := .lst [v10]) nar2
  refine told_lenKind (E := E) ((W3.same sC).same sG) upd_same ((W3.same sC).newL nar2) (x10.keep (KeepT.of sG)) hc fun H5 u5 s5 thr5 => ?_
  have sD := sC.trans (sG.trans s5)
  have vb5 := vb3.keep (KeepT.of sD)
  refine ⟨_, congrArg some ho14, _, _, thr5.dp, vb5.dp, Res.shaped _ kdOk, Res.shaped _ kdOk, false, congrArg V.bl (by rw [eqv_same _ kdOk]; rfl), iteF ?_⟩
  exact kQ (o_ o 17 (some (.ref D1))) H5 M R N _ _ (W3.same sD) (S3.same sD) ho9 ho14 vb5
theorem objB_ok {fT : Addr} {fdT : FuncData} (T : WT K mg C) (B : Bn mg)
    (GT : FnOk P w K mg base CX0 6 fT fdT ["world", "what", "name", "args"] (spTold K C CT)) (cT : Fc K mg "_law_told" fT fdT ["world", "what", "name", "args"])
    {f : Addr} {cdv : Value} {A : Around} {outer : List Env} {s : Shared} {H0 : Hp} {E : XK} (hr : Room 11 (A.deeper (envOfC "law" (defScope sLaw) s.heap.objs.size f cdv))) :
    ∃ t, PSs (cxOf CX0 P w K mg base nLaw "law" (defScope sLaw) f cdv A outer s H0 E).nox (objS.drop 2) t ∧ ∀ (k : Cn) (D : Ends) (o : Nat → Option V) (H : Hp) (M : TLab → Addr) (R R' : WS) (N N' : Nat → List Str) (es : List (Addr × Addr × V)) (came : List (List Str × Val)) (b : Nat) (at_ : Int) (vb v10 v11 : V) (i sh : Nat) (ps : List VV) (d11 : Val) (x : Str) (D1 : Addr),
      WorldAt K C H k.L R' → LS K k H M R N es came b → b < 180 → R.cells[i]? = some (.obj sh ps) → o 9 = some (.int at_) → o 14 = some vb → ThrAt K H vb "kind" → o 10 = some v10 → Vl K H v10 (.ref (i : Int)) → o 13 = some (.ref (M (.row i))) → o 11 = some v11 → Vl K H v11 d11 → Drawn k.n d11 → o 15 = some (.str x) → ABC x → o 16 = some (.ref D1) →
      R'.shapes.length ≤ b + 1 + 1 → R'.kids.length ≤ b + 1 → R'.widened.length ≤ b + 1 → R'.printed.length ≤ b + 1 → (∀ p ∈ ps, Vl K H p.1 p.2) →
      ((∃ (kx : Nat) (hk : kx < (N sh).length), (N sh)[kx] = x ∧ H D1 = some (.lst [.ref (M (.pair i kx))]) ∧ R'.cells = R.cells.set i (.obj sh (ps.set kx (v11, d11))) ∧ PLs R' N (came ++ [((N sh).take (kx + 1), d11)])) ∨
       (∃ sh', H D1 = some (.lst []) ∧ R'.cells = R.cells.set i (.obj sh' (ps ++ [(v11, d11)])) ∧ N' sh' = N sh ++ [x] ∧ (∀ c ∈ R.cells, ∀ s qs, c = .obj s qs → N' s = N s) ∧ PLs R' N' (came ++ [(N sh ++ [x], d11)]))) →
      TurnPost K C k D (b + 1 + 1) at_ vb → t D (sg k o) H := by
  obtain ⟨tC, hC, kC⟩ := objC_ok (A := A) (outer := outer) (s := s) (cdv := cdv) (f := f) (H0 := H0) (E := E) T B GT cT hr
  refine ⟨_, (pss_cons (ps_if (pt_cmpR (op_eqD (hu64 hr)) (pv 16) (pe_lst pa_nil) (nomark _)) (pss_one (ps_expr (pe_bm PySem.F.plainAttrs_list PySem.F.slot_list_append PySem.F.type_list_append mt_append (pv 13) (pa_cons (pe_lst (pa_cons (pv 15) (pa_cons (pv 11) pa_nil))) pa_nil)))) (pss_one (ps_asg (pv 11) (pg_sub (pe_ix  ix_list (pv 16) pe_int (fun _ _ => rfl)) pe_int set_list)))) hC), ?_⟩
  intro k D o H M R R' N N' es came b at_ vb v10 v11 i sh ps d11 x D1 W S hb hc ho9 ho14 hvb ho10 hv10 ho13 ho11 hv11 hd11 ho15 hx ho16 bS bK bW bP hvp hcase kQ
  have hrow : H (M (.row i)) = some (.lst (rowsV M i (.obj sh ps))) := S.tab.rowC hc
  obtain ⟨hsh, hln⟩ := S.pl.objs _ (List.mem_of_getElem? hc) sh ps rfl
  have hps : ps.length ≤ b := S.few _ (List.mem_of_getElem? hc)
  have xok : PyData.strOk x = true := by rcases hx with rfl | rfl | rfl <;> decide +kernel
  refine ⟨_, congrArg some ho16, by show 0 ≤ sizeLine; decide, fun l0 n0 => ?_⟩
  have s0 := same_new (o := .lst []) n0
  have hl0 : (upd H l0 (.lst [])) l0 = some (.lst []) := upd_same
  have S := S.same s0
  have W := W.same s0
  have hrow := s0 _ _ hrow
  have hvb := hvb.keep (KeepT.of s0)
  have hv10 := hv10.keep (KeepT.of s0)
  have hv11 := hv11.keep (KeepT.of s0)
  have hdv : ∀ p ∈ (Cell.obj sh ps).vs, Drawn k.n p.2 := S.dr _ (List.mem_of_getElem? hc)
  rcases hcase with ⟨kx, hk, hkx, hD, eR, pl⟩ | ⟨sh', hD, eR, eN, hN, pl⟩
  · have hD := s0 _ _ hD
    have hkp : kx < ps.length := by rw [← hln]; exact hk
    have hpair := S.tab.pairO hc hkp hk
    have hkm : ps[kx] ∈ ps := List.getElem_mem hkp
    have hvx := (hvp _ hkm).keep (KeepT.of s0)
    have hdx := S.dr _ (List.mem_of_getElem? hc) ps[kx] hkm
    generalize upd H l0 (.lst []) = H1 at s0 hl0 S W hrow hvb hv10 hv11 hD hpair hvx
    refine ⟨.list [.list [.str (N sh)[kx], (ps[kx]).2.data]], .list [], .lst (SqL.of hD) (.cons (.lst (SqL.of hpair) (.cons (.str _) (.cons hvx.dp .nil))) .nil), .lst (SqL.of hl0) .nil, known_shaped (by rw [hkx]; exact xok) hdx.ok, rfl, false, rfl, iteF ?_⟩
    refine ⟨v11, congrArg some ho11, _, congrArg some ho16, D1, _, 0, .ref (M (.pair i kx)), rfl, rfl, SqL.of hD, atI_nat (j := 0) rfl, M (.pair i kx), _, 1, 1, rfl, rfl, hpair, ixN_nat (j := 1) (by show 1 < 2; decide), ?_⟩
    have tab := S.tab.setPair (p := (v11, d11)) hc hkp eR
    have eg : (N sh).getD kx Str.empty = (N sh)[kx] := by rw [List.getD_eq_getElem?_getD, List.getElem?_eq_getElem hk]; rfl
    rw [eg] at tab
    have hcl : R'.cells.length = R.cells.length := by rw [eR, List.length_set]
    have lv : tlive R (.pair i kx) := ⟨sh, ps, hc, hkp⟩
    show tC D (sg k o) (upd H1 (M (.pair i kx)) (.lst [.str (N sh)[kx], v11]))
    have W3 : WorldAt K C (upd H1 (M (.pair i kx)) (.lst [.str (N sh)[kx], v11])) k.L R' := WorldAt.row (R0 := R) (M := M) W (fun m hm z => S.tab.sep (.pair i kx) m lv (by rw [← hcl]; exact hm) z.symm) hpair
    have kt3 : KeepT H1 (upd H1 (M (.pair i kx)) (.lst [.str (N sh)[kx], v11])) := fun b xs z => by
      rw [upd_ne (fun y => by subst y; rw [hpair] at z; cases z)]; exact z
    have tl : ∀ l, tlive R' l → tlive R l := fun l h => by
      cases l with
      | tab => trivial
      | row j => show j < R.cells.length; rw [← hcl]; exact h
      | pair j m =>
        obtain ⟨s2, qs, h1, h2⟩ := h
        rw [cells_set hc eR] at h1
        by_cases z : i = j
        · subst z
          rw [if_pos rfl] at h1
          cases h1
          rw [List.length_set] at h2
          exact ⟨sh, ps, hc, h2⟩
        · rw [if_neg z] at h1
          exact ⟨s2, qs, h1, h2⟩
    have S3 := LSx.move (K := K) (cp := came ++ [((N sh).take (kx + 1), d11)]) S (by omega) tab hcl rfl pl (dr_set eR S.dr (fun p hp => by
        rcases List.mem_or_eq_of_mem_set hp with z | z
        · exact hdv p z
        · subst z; exact hd11)) (few_set eR S.few (by show (ps.set _ _).length ≤ _; rw [List.length_set]; omega)) bS bK bW bP kt3 (fun q' o' h1 h2 h3 => by
        rw [upd_ne (fun y => h3 (.pair i kx) lv y.symm)]; exact h1) (fun l hl => .inl ⟨tl l hl, rfl⟩)
    have hcs : R'.cells[i]? = some (.obj sh (ps.set kx (v11, d11))) := by rw [cells_set hc eR, if_pos rfl]
    exact kC k D o _ M R' N es came (b + 1) at_ vb v10 v11 i sh kx _ d11 x hk W3 S3 (by omega) hcs hkx ho9 ho14 (hvb.keep kt3) ho10 (hv10.keep kt3) ho13 ho11 (hv11.keep kt3) hd11 ho15 kQ
  · have hD := s0 _ _ hD
    generalize upd H l0 (.lst []) = H1 at s0 hl0 S W hrow hvb hv10 hv11 hD
    refine ⟨.list [], .list [], .lst (SqL.of hD) .nil, .lst (SqL.of hl0) .nil, rfl, rfl, true, rfl, iteT ?_⟩
    refine ⟨_, congrArg some ho13, .inl ⟨rfl, _, SqL.of hrow⟩, _, congrArg some ho15, _, congrArg some ho11, by show 2 ≤ sizeLine; decide, fun q nq => ?_⟩
    have sq := same_new (o := .lst [.str x, v11]) nq
    have hrow2 := sq _ _ hrow
    refine ⟨M (.row i), _, _, rfl, rfl, hrow2, by rw [rows_len, sizeLine_eq]; omega, ?_⟩
    have tab := S.tab.addPair (p := (v11, d11)) (x := x) (fun l hl => ⟨_, W.at_ l (by rw [eR, List.length_set]; exact hl)⟩) nq hc eR hN eN hln
    have hcl : R'.cells.length = R.cells.length := by rw [eR, List.length_set]
    have W2 := (W.same sq)
    have W3 : WorldAt K C (upd (upd H1 q (.lst [.str x, v11])) (M (.row i)) (.lst (rowsV M i (.obj sh ps) ++ [.ref q]))) k.L R' := WorldAt.row (R0 := R) (M := M) W2 (fun m hm z => S.tab.sep (.row i) m (lt_of hc) (by rw [← hcl]; exact hm) z.symm) hrow2
    have kt3 : KeepT H1 (upd (upd H1 q (.lst [.str x, v11])) (M (.row i)) (.lst (rowsV M i (.obj sh ps) ++ [.ref q]))) := KeepT.trans (KeepT.of sq) fun b xs z => by
      rw [upd_ne (fun y => by subst y; rw [hrow2] at z; cases z)]; exact z
    have S3 := LSx.move (K := K) (cp := came ++ [(N sh ++ [x], d11)]) S (by omega) tab hcl (addM_ne (fun z => by cases z)) pl (dr_set eR S.dr (fun p hp => by
        rcases List.mem_append.mp hp with z | z
        · exact hdv p z
        · obtain rfl := List.mem_singleton.mp z; exact hd11)) (few_set eR S.few (by show (ps ++ [_]).length ≤ _; rw [List.length_append]; simp only [List.length_singleton]; omega)) bS bK bW bP kt3 (fun q' o' h1 h2 h3 => by
        rw [upd_ne (fun y => h3 (.row i) (lt_of hc) y.symm)]; exact sq _ _ h1) (fun l hl => by
        by_cases z : l = .pair i ps.length
        · right; rw [z, addM_eq]; exact nq
        · exact .inl ⟨add_live hc eR hl z, addM_ne z⟩)
    have hcs : R'.cells[i]? = some (.obj sh' (ps ++ [(v11, d11)])) := by rw [cells_set hc eR, if_pos rfl]
    have hk' : ps.length < (N' sh').length := by rw [eN, List.length_append, hln]; simp
    have ek : (N' sh')[ps.length]'hk' = x := by
      have : (N' sh')[ps.length]? = some x := by rw [eN, ← hln, List.getElem?_append_right (Nat.le_refl _), Nat.sub_self]; rfl
      rw [List.getElem?_eq_getElem hk'] at this
      exact Option.some.inj this
    have et : (N' sh').take (ps.length + 1) = N sh ++ [x] := by
      rw [List.take_of_length_le (by rw [eN, List.length_append, hln]; simp), eN]
    rw [← et] at S3
    exact kC k D o _ (addM M i ps.length q) R' N' es came (b + 1) at_ vb v10 v11 i sh' ps.length _ d11 x hk' W3 S3 (by omega) hcs ek ho9 ho14 (hvb.keep kt3) ho10 (hv10.keep kt3) (by rw [addM_ne (fun z => by cases z)]; exact ho13) ho11 (hv11.keep kt3) hd11 ho15 kQ
theorem lk_str {a b : Str} : V.bl (decide (V.str a = V.str b)) = V.bl (decide (a = b)) := by
  by_cases h : a = b
  · subst h; rw [decide_eq_true rfl, decide_eq_true rfl]
  · rw [decide_eq_false (fun z => h (V.str.inj z)), decide_eq_false h]
def kn (M : TLab → Addr) (i : Nat) (r : Option Nat) (j : Nat) : List V := match r with
  | some k => if k < j then [V.ref (M (.pair i k))] else []
  | none => []
theorem objA_ok {fT : Addr} {fdT : FuncData} (T : WT K mg C) (B : Bn mg)
    (GT : FnOk P w K mg base CX0 6 fT fdT ["world", "what", "name", "args"] (spTold K C CT)) (cT : Fc K mg "_law_told" fT fdT ["world", "what", "name", "args"])
    {f : Addr} {cdv : Value} {A : Around} {outer : List Env} {s : Shared} {H0 : Hp} {E : XK} (hr : Room 11 (A.deeper (envOfC "law" (defScope sLaw) s.heap.objs.size f cdv))) :
    ∃ t, PSs (cxOf CX0 P w K mg base nLaw "law" (defScope sLaw) f cdv A outer s H0 E).nox objS t ∧ ∀ (k : Cn) (D : Ends) (o : Nat → Option V) (H : Hp) (M : TLab → Addr) (R : WS) (N : Nat → List Str) (es : List (Addr × Addr × V)) (came : List (List Str × Val)) (b : Nat) (at_ : Int) (vb v10 v11 : V) (i sh : Nat) (ps : List VV) (d11 : Val) (x : Str),
      WorldAt K C H k.L R → LS K k H M R N es came b → b < 180 → R.cells[i]? = some (.obj sh ps) → o 9 = some (.int at_) → o 14 = some vb → ThrAt K H vb "kind" → o 10 = some v10 → Vl K H v10 (.ref (i : Int)) → o 13 = some (.ref (M (.row i))) → o 11 = some v11 → Vl K H v11 d11 → Drawn k.n d11 → o 15 = some (.str x) → ABC x →
      TurnPost K C k D (b + 1 + 1) at_ vb → t D (sg k o) H := by
  obtain ⟨tB, hB, kB⟩ := objB_ok (A := A) (outer := outer) (s := s) (cdv := cdv) (f := f) (H0 := H0) (E := E) T B GT cT hr
  refine ⟨_, (pss_cons (ps_setLc (i := 16) (own := [("pair", 28)]) (g := gName 28) (tt := tTest (tOp rEq (tOp (rIxL K) (tVar 28) (tC (.int 0))) (tVar 15))) (by rfl) scLaw.nd rfl rfl (sw_true rfl rfl rfl (by decide +kernel)) (pi_list (pv 13)) (blkOk_by (own := [("pair", 28)]) (N := nLaw) (sc := defScope sLaw) (by decide +kernel)) (fun _ _ _ _ _ => pg_name (i := 28) scLaw.nd rfl (Or.inl rfl)) (fun _ _ _ _ _ => pts_one (pt_cmpR op_eq (pe_ix (r := rIxL K) ix_list (pv 28) pe_int (fun _ _ => rfl)) (pv 15) (nomark _))) (fun _ _ _ _ _ => pv 28)) (pss_cons (ps_if (PW.pt (pw_or (pt_cmpR (op_neD (hu64 hr)) (pe_call GT (hr.mono (by decide)) rfl cT.g cT.kp cT.b .nil pass0 (pa_cons (pv 2) (pa_cons pe_str (pa_cons (pv 15) (pa_cons (pe_lst (pa_cons (pv 10) pa_nil)) pa_nil))))) (pe_ix  ix_list (pe_op op_cat (pe_lc (own := [("pair", 28)]) (g := gName 28) (tt := tYes) rfl scLaw.nd (pi_list (pv 16)) (blkOk_by (own := [("pair", 28)]) (N := nLaw) (sc := defScope sLaw) (by decide +kernel)) (fun _ _ _ _ _ => pg_name (i := 28) scLaw.nd rfl (Or.inl rfl)) (fun _ _ _ _ _ => pts_nil) (fun _ _ _ _ _ => (show PE _ _ (tOp (rIxL K) (tVar 28) (tC (.int 1))) from (pe_ix (r := rIxL K) ix_list (pv 28) pe_int (fun _ _ => rfl))))) (pe_lst (pa_cons (pe_tup (pa_cons pe_str pa_nil)) pa_nil))) pe_int (fun _ _ => rfl)) (nomark _)) (pw_or1 (pt_cmpR (op_neD (hu64 hr)) (pe_call GT (hr.mono (by decide)) rfl cT.g cT.kp cT.b .nil pass0 (pa_cons (pv 2) (pa_cons pe_str (pa_cons (pv 15) (pa_cons (pe_lst (pa_cons (pv 10) (pa_cons (pv 11) pa_nil))) pa_nil))))) (pv 10) (nomark _))))) (pss_one (ps_ret pe_bl)) pss_nil) hB)), ?_⟩
  intro k D o H M R N es came b at_ vb v10 v11 i sh ps d11 x W S hb hc ho9 ho14 hvb ho10 hv10 ho13 ho11 hv11 hd11 ho15 hx kQ
  have hrow : H (M (.row i)) = some (.lst (rowsV M i (.obj sh ps))) := S.tab.rowC hc
  obtain ⟨hsh, hln⟩ := S.pl.objs _ (List.mem_of_getElem? hc) sh ps rfl
  have hps : ps.length ≤ b := S.few _ (List.mem_of_getElem? hc)
  obtain ⟨nd, habc⟩ := S.pl.abc sh
  have ch := S.pl.all sh hsh
  -- known
  refine ⟨_, congrArg some ho13, M (.row i), rfl, ⟨_, SqL.of hrow⟩, fun D1 hD1 => ?_⟩
  refine lc_list (K := K) (a := M (.row i)) (xs := rowsV M i (.obj sh ps)) (fun j G' => Same H G' ∧ G' D1 = some (.lst (kn M i (slotR (N sh).reverse x) j))) ⟨same_new hD1, by rw [upd_same]; unfold kn; cases slotR (N sh).reverse x <;> rfl⟩ (fun k G' _ h => SqL.of (h.1 _ _ hrow)) ?_ ?_
  · rintro j y G' hy ⟨sG', hGD⟩
    have hj : j < ps.length := by have := lt_of hy; rw [rows_len] at this; exact this
    rw [rows_get hj] at hy
    obtain rfl := Option.some.inj hy
    have hjN : j < (N sh).length := by rw [hln]; exact hj
    refine ⟨rfl, _, rfl, M (.pair i j), _, 0, .str (N sh)[j], rfl, rfl, SqL.of ((S.tab.same sG').pairO hc hj hjN), atI_nat (j := 0) rfl, _, congrArg some ho15, rfl, decide ((N sh)[j] = x), lk_str, ?_⟩
    by_cases e : (N sh)[j] = x
    · rw [decide_eq_true e]
      have es : slotR (N sh).reverse x = some j := by rw [← e]; exact slotR_rev nd hjN
      have k0 : kn M i (slotR (N sh).reverse x) j = [] := by rw [es]; exact if_neg (Nat.lt_irrefl j)
      have k1 : kn M i (slotR (N sh).reverse x) (j + 1) = [V.ref (M (.pair i j))] := by rw [es]; exact if_pos (Nat.lt_succ_self j)
      rw [k0] at hGD
      refine iteT ⟨_, rfl, _, hGD, by show 0 < sizeLine; decide, fun b o z => ?_, ?_⟩
      · by_cases q : b = D1
        · subst q; rw [hD1] at z; cases z
        · rw [upd_ne q]; exact sG' b o z
      · rw [upd_same, k1]; rfl
    · rw [decide_eq_false e]
      refine iteF ⟨sG', ?_⟩
      rw [hGD]
      congr 2
      unfold kn
      cases hs : slotR (N sh).reverse x with
      | none => rfl
      | some m =>
        have : m ≠ j := fun q => by subst q; obtain ⟨_, e2⟩ := slotR_some nd hs; exact e e2
        by_cases q : m < j
        · show (if m < j then _ else _) = (if m < j + 1 then _ else _); rw [if_pos q, if_pos (by omega)]
        · show (if m < j then _ else _) = (if m < j + 1 then _ else _); rw [if_neg q, if_neg (by omega)]
  rintro H1 ⟨s1, hD⟩
  rw [rows_len] at hD
  have S1 := S.same s1
  have W1 := W.same s1
  have x10 := hv10.keep (KeepT.of s1)
  have x11 := hv11.keep (KeepT.of s1)
  have vb1 := hvb.keep (KeepT.of s1)
  have outD : ∀ l, live k.n l → k.L l ≠ D1 := fun l hl => W.newL hD1 l (by rw [S.n]; exact hl)
  -- get
  refine ⟨_, rfl, _, congrArg some ho15, _, congrArg some ho10, by show 1 ≤ sizeLine; decide, fun ar nar => ?_⟩
  have sA := same_new (o := .lst [v10]) nar
  have hrl : ps.length = (N sh).reverse.length := by rw [List.length_reverse]; exact hln.symm
  have b5 : ∀ j, R.kid sh x = some j → j < R.small.length := fun j hj => by
    obtain ⟨_, s', h', _⟩ := S.pl.kidS _ _ _ hj
    rw [S.pl.kinds]; exact lt_of h'
  have hbS := S.bS
  have hbK := S.bK
  have hbW := S.bW
  have hbP := S.bP
  cases hs : slotR (N sh).reverse x with
  | none =>
    rw [hs] at hD
    have hD : H1 D1 = some (.lst []) := hD
    refine told_get (E := E) (W1.same sA) upd_same (x10.keep (KeepT.of sA)) hc ch hrl (fun _ H2 u s2 hu => ?_) (fun m p e => by rw [hs] at e; cases e)
    have s12 := sA.trans s2
    have hD2 := s12 _ _ hD
    refine ⟨_, rfl, D1, rfl, ⟨_, SqL.of hD2⟩, fun D2 nD2 => ?_⟩
    refine lc_list (K := K) (a := D1) (xs := []) (fun j G' => Same H2 G' ∧ G' D2 = some (.lst [])) ⟨same_new nD2, upd_same⟩ (fun k G' _ h => SqL.of (h.1 _ _ hD2)) (fun j y G' hy => nomatch hy) ?_
    rintro H2' ⟨s22, hE⟩
    refine ⟨by show 1 ≤ sizeLine; decide, fun t5 n5 => ⟨by show 1 ≤ sizeLine; decide, fun l6 n6 => ?_⟩⟩
    have s5 := same_new (o := .tup [.str "null"]) n5
    have s6 := same_new (o := .lst [.ref t5]) n6
    refine ⟨D2, l6, _, _, rfl, rfl, s6 _ _ (s5 _ _ hE), upd_same, by show 1 ≤ sizeLine; decide, fun l7 n7 => ?_⟩
    have s7 := same_new (o := .lst ([] ++ [.ref t5])) n7
    have hl7 : (upd (upd (upd H2' t5 (.tup [.str "null"])) l6 (.lst [.ref t5])) l7 (.lst ([] ++ [.ref t5]))) l7 = some (.lst [.ref t5]) := upd_same
    have h5 : Vl K (upd (upd (upd H2' t5 (.tup [.str "null"])) l6 (.lst [.ref t5])) l7 (.lst ([] ++ [.ref t5]))) (.ref t5) .nul := ⟨t5, rfl, .inl (s7 _ _ (s6 _ _ upd_same))⟩
    have s23 := s22.trans (s5.trans (s6.trans s7))
    have s13 := s12.trans s23
    have hu := hu.keep (KeepT.of s23)
    generalize (upd (upd (upd H2' t5 (.tup [.str "null"])) l6 (.lst [.ref t5])) l7 (.lst ([] ++ [.ref t5]))) = H3 at hl7 h5 s13 hu
    refine ⟨l7, _, 0, .ref t5, rfl, rfl, SqL.of hl7, atI_nat (j := 0) rfl, _, _, hu.dp, h5.dp, Val.shaped _ trivial, Val.shaped _ trivial, false, congrArg V.bl (by rw [eqvVal, decide_eq_true rfl]; rfl), iteF ?_⟩
    -- put
    refine ⟨_, rfl, _, congrArg some ho15, _, congrArg some ho10, _, congrArg some ho11, by show 2 ≤ sizeLine; decide, fun ar2 nar2 => ?_⟩
    have sB := same_new (o := .lst [v10, v11]) nar2
    have W3 := W1.same s13
    have S3 := S1.same s13
    have y10 := (x10.keep (KeepT.of s13)).keep (KeepT.of sB)
    have y11 := (x11.keep (KeepT.of s13)).keep (KeepT.of sB)
    have hD3 := sB _ _ (s13 _ _ hD)
    have S4 := S3.same sB
    have vb4 := (vb1.keep (KeepT.of s13)).keep (KeepT.of sB)
    have hvp : ∀ p ∈ ps, Vl K (upd H3 ar2 (.lst [v10, v11])) p.1 p.2 := fun p hp => (W3.same sB).vs _ (List.mem_of_getElem? hc) p hp
    have hxN : x ∉ N sh := fun z => slotR_mem _ _ hs (List.mem_reverse.mpr z)
    refine told_put (E := E) (p := (v11, d11)) (W3.same sB) upd_same y10 hc ch hrl y11 S.pl.kinds (by omega) (by omega) (by omega) (by rw [List.length_reverse]; omega) b5 (fun m e => by rw [hs] at e; cases e) fun _ => ⟨fun j hj H5 W5 K5 => ?_, fun hj H5 v' W5 K5 => ?_⟩
    · rw [S.n] at K5
      have kt5 : KeepT _ H5 := Kept.tups (W3.same sB) (by rw [S.n]; exact K5)
      have z10 := y10.keep kt5
      have hD5 : H5 D1 = some (.lst []) := K5 _ _ hD3 outD
      have hvp5 : ∀ p ∈ ps, Vl K H5 p.1 p.2 := fun p hp => (hvp p hp).keep kt5
      obtain ⟨nb1, nb2, nb3⟩ := note_bounds (R := R) (j := j) (d := d11)
      obtain ⟨eN, pl⟩ := S.pl.putKid (p := (v11, d11)) hc hj
      refine ⟨_, congrArg some ho10, _, _, z10.dp, z10.dp, Val.shaped _ trivial, Val.shaped _ trivial, false, congrArg V.bl (by rw [eqvVal, decide_eq_true rfl]; rfl), iteF ?_⟩
      exact kB k D (o_ o 16 (some (.ref D1))) H5 M R _ N N es came b at_ vb v10 v11 i sh ps d11 x D1 W5 (S4.kept K5 kt5) hb hc ho9 ho14 (vb4.keep kt5) ho10 z10 ho13 ho11 (y11.keep kt5) hd11 ho15 hx rfl
        (by show (R.note j d11).shapes.length ≤ _; rw [WS.note_shapes]; omega) (by show (R.note j d11).kids.length ≤ _; rw [nb1]; omega) (by show (R.note j d11).widened.length ≤ _; omega) (by show (R.note j d11).printed.length ≤ _; rw [nb2]; omega) hvp5
        (.inr ⟨j, hD5, by show (R.note j d11).cells.set i _ = _; rw [WS.note_cells], eN, fun _ _ _ _ _ => rfl, pl⟩) kQ
    · rw [S.n] at K5
      have kt5 : KeepT _ H5 := Kept.tups (W3.same sB) (by rw [S.n]; exact K5)
      have z10 := y10.keep kt5
      have hD5 : H5 D1 = some (.lst []) := K5 _ _ hD3 outD
      have hvp5 : ∀ p ∈ ps, Vl K H5 p.1 p.2 := fun p hp => (hvp p hp).keep kt5
      have pl := S.pl.putNew (p := (v11, d11)) (v := v') hc hj hxN hx
      refine ⟨_, congrArg some ho10, _, _, z10.dp, z10.dp, Val.shaped _ trivial, Val.shaped _ trivial, false, congrArg V.bl (by rw [eqvVal, decide_eq_true rfl]; rfl), iteF ?_⟩
      exact kB k D (o_ o 16 (some (.ref D1))) H5 M R _ N (addN N R.shapes.length sh x) es came b at_ vb v10 v11 i sh ps d11 x D1 W5 (S4.kept K5 kt5) hb hc ho9 ho14 (vb4.keep kt5) ho10 z10 ho13 ho11 (y11.keep kt5) hd11 ho15 hx rfl
        (by show (R.shapes ++ [_]).length ≤ _; rw [List.length_append]; simp only [List.length_singleton]; omega) (by show (R.kids ++ [_]).length ≤ _; rw [List.length_append]; simp only [List.length_singleton]; omega) (by show R.widened.length ≤ _; omega) (by show R.printed.length ≤ _; omega) hvp5
        (.inr ⟨R.shapes.length, hD5, rfl, if_pos rfl, fun c hcm s' qs e => if_neg (by obtain ⟨q1, _⟩ := S.pl.objs c hcm s' qs e; omega), pl⟩) kQ
  | some kx =>
    obtain ⟨hk, hkx⟩ := slotR_some nd hs
    have hkp : kx < ps.length := by rw [← hln]; exact hk
    have gk := List.getElem?_eq_getElem hkp
    generalize ps[kx] = p0 at gk
    have ek : kn M i (slotR (N sh).reverse x) ps.length = [V.ref (M (.pair i kx))] := by rw [hs]; exact if_pos hkp
    rw [ek] at hD
    refine told_get (E := E) (W1.same sA) upd_same (x10.keep (KeepT.of sA)) hc ch hrl (fun e => by rw [hs] at e; cases e) (fun m p e gp => ?_)
    rw [hs] at e
    obtain rfl := Option.some.inj e
    rw [gk] at gp
    obtain rfl := Option.some.inj gp
    have s12 := sA
    have hu := (W1.same sA).vs _ (List.mem_of_getElem? hc) p0 (List.mem_of_getElem? gk)
    generalize (upd H1 ar (.lst [v10])) = H2 at s12 hu
    have hD2 := s12 _ _ hD
    have hpair := (S1.same s12).tab.pairO hc hkp hk
    have gk2 : ps[kx] = p0 := by rw [List.getElem?_eq_getElem hkp] at gk; exact Option.some.inj gk
    rw [gk2] at hpair
    refine ⟨_, rfl, D1, rfl, ⟨_, SqL.of hD2⟩, fun D2 nD2 => ?_⟩
    refine lc_list (K := K) (a := D1) (xs := [.ref (M (.pair i kx))]) (fun j G' => Same H2 G' ∧ G' D2 = some (.lst ([p0.1].take j))) ⟨same_new nD2, upd_same⟩ (fun k G' _ h => SqL.of (h.1 _ _ hD2)) ?_ ?_
    · rintro j y G' hy ⟨sG', hGD⟩
      have hj : j = 0 := by have := lt_of hy; simp only [List.length_singleton] at this; omega
      subst hj
      obtain rfl := Option.some.inj hy
      refine ⟨rfl, yes_ok (iteT ⟨_, rfl, M (.pair i kx), _, 1, p0.1, rfl, rfl, SqL.of (sG' _ _ hpair), atI_nat (j := 1) rfl, _, hGD, by show 0 < sizeLine; decide, fun b o z => ?_, upd_same⟩)⟩
      by_cases q : b = D2
      · subst q; rw [nD2] at z; cases z
      · rw [upd_ne q]; exact sG' b o z
    rintro H2' ⟨s22, hE⟩
    have hE : H2' D2 = some (.lst [p0.1]) := hE
    refine ⟨by show 1 ≤ sizeLine; decide, fun t5 n5 => ⟨by show 1 ≤ sizeLine; decide, fun l6 n6 => ?_⟩⟩
    have s5 := same_new (o := .tup [.str "null"]) n5
    have s6 := same_new (o := .lst [.ref t5]) n6
    refine ⟨D2, l6, _, _, rfl, rfl, s6 _ _ (s5 _ _ hE), upd_same, by show 2 ≤ sizeLine; decide, fun l7 n7 => ?_⟩
    have s7 := same_new (o := .lst ([p0.1] ++ [.ref t5])) n7
    have hl7 : (upd (upd (upd H2' t5 (.tup [.str "null"])) l6 (.lst [.ref t5])) l7 (.lst ([p0.1] ++ [.ref t5]))) l7 = some (.lst [p0.1, .ref t5]) := upd_same
    have s23 := s22.trans (s5.trans (s6.trans s7))
    have s13 := s12.trans s23
    have hu := hu.keep (KeepT.of s23)
    generalize (upd (upd (upd H2' t5 (.tup [.str "null"])) l6 (.lst [.ref t5])) l7 (.lst ([p0.1] ++ [.ref t5]))) = H3 at hl7 s13 hu
    have hok0 : p0.2.ok := (S.dr _ (List.mem_of_getElem? hc) p0 (List.mem_of_getElem? gk)).ok
    refine ⟨l7, _, 0, p0.1, rfl, rfl, SqL.of hl7, atI_nat (j := 0) rfl, _, _, hu.dp, hu.dp, Val.shaped _ hok0, Val.shaped _ hok0, false, congrArg V.bl (by rw [eqvVal, decide_eq_true rfl]; rfl), iteF ?_⟩
    -- put
    refine ⟨_, rfl, _, congrArg some ho15, _, congrArg some ho10, _, congrArg some ho11, by show 2 ≤ sizeLine; decide, fun ar2 nar2 => ?_⟩
    have sB := same_new (o := .lst [v10, v11]) nar2
    have W3 := W1.same s13
    have S3 := S1.same s13
    have y10 := (x10.keep (KeepT.of s13)).keep (KeepT.of sB)
    have y11 := (x11.keep (KeepT.of s13)).keep (KeepT.of sB)
    have hD3 := sB _ _ (s13 _ _ hD)
    have S4 := S3.same sB
    have vb4 := (vb1.keep (KeepT.of s13)).keep (KeepT.of sB)
    have hvp : ∀ p ∈ ps, Vl K (upd H3 ar2 (.lst [v10, v11])) p.1 p.2 := fun p hp => (W3.same sB).vs _ (List.mem_of_getElem? hc) p hp
    refine told_put (E := E) (p := (v11, d11)) (W3.same sB) upd_same y10 hc ch hrl y11 S.pl.kinds (by omega) (by omega) (by omega) (by rw [List.length_reverse]; omega) b5 (fun m e j H5 chj W5 K5 => ?_) (fun e => by rw [hs] at e; cases e)
    rw [hs] at e
    obtain rfl := Option.some.inj e
    rw [S.n] at K5
    have kt5 : KeepT _ H5 := Kept.tups (W3.same sB) (by rw [S.n]; exact K5)
    have z10 := y10.keep kt5
    have hD5 : H5 D1 = some (.lst [.ref (M (.pair i kx))]) := K5 _ _ hD3 outD
    have hvp5 : ∀ p ∈ ps, Vl K H5 p.1 p.2 := fun p hp => (hvp p hp).keep kt5
    obtain ⟨nb1, nb2, nb3⟩ := note_bounds (R := R) (j := j) (d := d11)
    have pl := S.pl.putSet (p := (v11, d11)) hc hk chj
    refine ⟨_, congrArg some ho10, _, _, z10.dp, z10.dp, Val.shaped _ trivial, Val.shaped _ trivial, false, congrArg V.bl (by rw [eqvVal, decide_eq_true rfl]; rfl), iteF ?_⟩
    exact kB k D (o_ o 16 (some (.ref D1))) H5 M R _ N N es came b at_ vb v10 v11 i sh ps d11 x D1 W5 (S4.kept K5 kt5) hb hc ho9 ho14 (vb4.keep kt5) ho10 z10 ho13 ho11 (y11.keep kt5) hd11 ho15 hx rfl
      (by show (R.note j d11).shapes.length ≤ _; rw [WS.note_shapes]; omega) (by show (R.note j d11).kids.length ≤ _; rw [nb1]; omega) (by show (R.note j d11).widened.length ≤ _; omega) (by show (R.note j d11).printed.length ≤ _; rw [nb2]; omega) hvp5
      (.inl ⟨kx, hk, hkx, hD5, by show (R.note j d11).cells.set i _ = _; rw [WS.note_cells], pl⟩) kQ
end
end My
namespace My
open PySem PySem.Spec PyProof.Rows L2
theorem abc_at {r : Int} (h0 : 0 ≤ r) (h1 : r < 3) : ∃ c, atI ("abc" : Str).cps.toList r = some c ∧ ABC ⟨#[c]⟩ := by
  have e : ("abc" : Str).cps = #[97, 98, 99] := by decide +kernel
  rw [e]
  have : r = 0 ∨ r = 1 ∨ r = 2 := by omega
  rcases this with rfl | rfl | rfl
  · exact ⟨97, rfl, .inl (by decide +kernel)⟩
  · exact ⟨98, rfl, .inr (.inl (by decide +kernel))⟩
  · exact ⟨99, rfl, .inr (.inr (by decide +kernel))⟩
section
variable {P : Program} {w : World} {K : PySem.W.Frag} {mg : Str → Option Value} {base : Heap} {C CT : Addr}
/-- the functions that the law calls in its loop -/
structure Fns (P : Program) (w : World) (K : PySem.W.Frag) (mg : Str → Option Value) (base : Heap) (C CT : Addr) (fT fD fG fM fU fX : Addr) (fdT fdD fdG fdM fdU fdX : FuncData) : Prop where
  GT : FnOk P w K mg base CX0 6 fT fdT ["world", "what", "name", "args"] (spTold K C CT)
  cT : Fc K mg "_law_told" fT fdT ["world", "what", "name", "args"]
  GD : FnOk P w K mg base CX0 2 fD fdD ["draws", "k", "refs"] (spDrawn K)
  cD : Fc K mg "_law_drawn" fD fdD ["draws", "k", "refs"]
  GG : FnOk P w K mg base CX0 1 fG fdG ["sign", "one", "two"] (spSign K)
  cG : Fc K mg "_law_sign" fG fdG ["sign", "one", "two"]
  GM : FnOk P w K mg base CX0 1 fM fdM ["one", "two"] (spSame K)
  cM : Fc K mg "same" fM fdM ["one", "two"]
  GU : FnOk P w K mg base CX0 3 fU fdU ["self", "value"] (spOut K C)
  cU : Mc K C "out" fU fdU ["self", "value"]
  GX : FnOk P w K mg base CX0 1 fX fdX ["draws", "k", "many"] (spMix K)
  cX : Fc K mg "_law_mix" fX fdX ["draws", "k", "many"]
theorem body_ok {fT fD fG fM fU fX : Addr} {fdT fdD fdG fdM fdU fdX : FuncData} (T : WT K mg C) (B : Bn mg) (F : Fns P w K mg base C CT fT fD fG fM fU fX fdT fdD fdG fdM fdU fdX)
    {f : Addr} {cdv : Value} {A : Around} {outer : List Env} {s : Shared} {H0 : Hp} {E : XK} (hr : Room 11 (A.deeper (envOfC "law" (defScope sLaw) s.heap.objs.size f cdv))) :
    ∃ t, PSs (cxOf CX0 P w K mg base nLaw "law" (defScope sLaw) f cdv A outer s H0 E).nox loopB t ∧ ∀ (k : Cn) (D : Ends) (o : Nat → Option V) (H : Hp) (M : TLab → Addr) (R : WS) (N : Nat → List Str) (es : List (Addr × Addr × V)) (came : List (List Str × Val)) (b : Nat) (n : Int),
      WorldAt K C H k.L R → LS K k H M R N es came b → b < 170 → o 8 = some (.int n) → 0 ≤ n → n ≤ 100 →
      (∀ o' H' M' R' N' es' came', WorldAt K C H' k.L R' → LS K k H' M' R' N' es' came' (b + 3) → D.nx (sg k o') H') → t D (sg k o) H := by
  obtain ⟨GT, cT, GD, cD, GG, cG, GM, cM, GU, cU, GX, cX⟩ := F
  obtain ⟨tT, hT, kT⟩ := tail_ok (A := A) (outer := outer) (s := s) (cdv := cdv) (f := f) (H0 := H0) (E := E) T B GT cT GD cD GG cG GM cM GU cU hr
  obtain ⟨tO, hO, kO⟩ := objA_ok (A := A) (outer := outer) (s := s) (cdv := cdv) (f := f) (H0 := H0) (E := E) T B GT cT hr
  obtain ⟨tL, hL, kL⟩ := lstA_ok (A := A) (outer := outer) (s := s) (cdv := cdv) (f := f) (H0 := H0) (E := E) T B GT cT GD cD GX cX hr
  refine ⟨_, (pss_cons (ps_set (i := 9) scLaw.nd rfl (.inl rfl) (pe_op op_add pe_int (pe_op op_mul pe_int (pv 8)))) (pss_cons (ps_par (i := 10) (j := 11) (by rfl) scLaw.nd rfl rfl (by decide) rfl rfl (pa_cons (pe_ix  ix_list (pv 7) (pe_call GX (hr.mono (by decide)) rfl cX.g cX.kp cX.b .nil pass0 (pa_cons (pv 1) (pa_cons (pv 9) (pa_cons (pe_callB call_len_seq (by rfl) B.len PySem.boot_len (pa_cons (pv 7) pa_nil)) pa_nil)))) (fun _ _ => rfl)) (pa_cons (pe_call GD (hr.mono (by decide)) rfl cD.g cD.kp cD.b .nil pass0 (pa_cons (pv 1) (pa_cons (pe_op op_add (pv 9) pe_int) (pa_cons (pv 7) pa_nil)))) pa_nil)) (by rfl)) (pss_cons (ps_asg (pe_dget (hu_of hr) (pv 3) (pe_ix  ix_tup (pv 10) pe_int (fun _ _ => rfl)) (fun _ _ => rfl)) (pg_tup rfl (pgs_cons (pg_name (i := 12) scLaw.nd rfl (Or.inl rfl)) (pgs_cons (pg_name (i := 13) scLaw.nd rfl (Or.inl rfl)) pgs_nil)))) (pss_cons (ps_asg (pe_tup (pa_cons (pe_tup (pa_cons pe_str (pa_cons (pe_tup (pa_cons pe_str (pa_cons pe_str pa_nil))) pa_nil))) (pa_cons (pe_ix ix_str pe_str (pe_call GX (hr.mono (by decide)) rfl cX.g cX.kp cX.b .nil pass0 (pa_cons (pv 1) (pa_cons (pe_op op_add (pv 9) pe_int) (pa_cons pe_int pa_nil)))) (fun _ _ => rfl)) pa_nil))) (pg_tup rfl (pgs_cons (pg_name (i := 14) scLaw.nd rfl (Or.inl rfl)) (pgs_cons (pg_name (i := 15) scLaw.nd rfl (Or.inr rfl)) pgs_nil)))) (pss_cons (ps_if (pt_cmpR op_eq (pv 12) pe_str (nomark _)) hO hL) hT))))), ?_⟩
  intro k D o H M R N es came b n W S hb ho8 hn0 hn1 kQ
  have hpl : k.rps.length = k.n := S.rlen
  have hn9 := S.n9
  have hp0 := S.pos
  refine ⟨_, congrArg some ho8, 30, n, rfl, rfl, .inl (by decide), _, _, rfl, rfl, ?_⟩
  have sq_refs := SqL.of (K := K) S.refs
  refine ⟨_, rfl, _, rfl, _, rfl, _, rfl, k.rf, _, rfl, .inl sq_refs, k.da, k.ds, 10 + 30 * n, _, rfl, SqL.of S.draws, S.dok, by omega, by omega, by rw [List.length_map, hpl]; omega, fun r r0 r1 => ?_⟩
  rw [List.length_map, hpl] at r1
  obtain ⟨i, rfl⟩ : ∃ i : Nat, r = (i : Int) := ⟨r.toNat, by omega⟩
  have hi : i < k.n := by omega
  have hir : i < k.rps.length := by rw [hpl]; exact hi
  have gp := List.getElem?_eq_getElem hir
  generalize k.rps[i] = pi at gp
  have hv10 := S.rv pi (List.mem_of_getElem? gp)
  rw [S.ri i pi gp] at hv10
  refine ⟨k.rf, _, (i : Int), pi.1, rfl, rfl, sq_refs, atI_nat (by rw [List.getElem?_map, gp]; rfl), ?_⟩
  refine ⟨_, rfl, _, rfl, _, _, rfl, rfl, _, rfl, k.da, k.rf, k.ds, 10 + 30 * n + 1, k.rps, rfl, SqL.of S.draws, S.dok, by omega, by omega, sq_refs, by omega, by omega, S.rv, S.ri, fun H1 v11 d11 s1 hv11 hd11 => ?_⟩
  rw [hpl] at hd11
  refine ⟨_, _, rfl, ?_⟩
  have hv10 := hv10.keep (KeepT.of s1)
  have S1 := S.same s1
  have W1 := W.same s1
  have hiR : i < R.cells.length := by rw [S.n]; exact hi
  have hc := List.getElem?_eq_getElem hiR
  generalize R.cells[i] = c at hc
  obtain ⟨a1, e1, t1⟩ := id hv10
  have htab : H1 k.tb = some (.dK (tabD k.ta R.cells.length)) := by rw [← S.tb]; exact S1.tab.at_ .tab trivial
  refine ⟨_, rfl, _, rfl, a1, _, 1, .int (i : Int), e1, rfl, t1.sq, atI_nat (j := 1) rfl, k.tb, _, rfl, by rw [← tab_get (ta := k.ta) hiR]; exact DGet.k (k := Sum.inl (i : Int)) htab, k.ta i, _, rfl, (S1.tab.tup i c hc).sq, rfl, _, _, rfl, _, _, rfl, rfl, ?_⟩
  -- bad, name
  refine ⟨by show 2 ≤ sizeLine; decide, fun t2 n2 => ⟨by show 2 ≤ sizeLine; decide, fun t3 n3 => ?_⟩⟩
  have sB := (same_new (o := .tup [.str "text", .str "kind"]) n2).trans (same_new (o := .tup [.str "thrown", .ref t2]) n3)
  have hb3 : ThrAt K (upd (upd H1 t2 (.tup [.str "text", .str "kind"])) t3 (.tup [.str "thrown", .ref t2])) (.ref t3) "kind" := ThrAt.mk (same_new (o := .tup [.str "thrown", .ref t2]) n3 _ _ upd_same) upd_same
  generalize (upd (upd H1 t2 (.tup [.str "text", .str "kind"])) t3 (.tup [.str "thrown", .ref t2])) = H2 at sB hb3
  have S2 := S1.same sB
  have W2 := W1.same sB
  refine ⟨_, rfl, _, rfl, _, _, rfl, rfl, k.da, k.ds, 10 + 30 * n + 9, 3, rfl, SqL.of S2.draws, S.dok, by omega, by omega, by decide, fun r r0 r1 => ?_⟩
  obtain ⟨c', hc', habc⟩ := abc_at r0 r1
  refine ⟨"abc", r, c', rfl, rfl, by show 3 ≤ sizeLine; decide, hc', by show 2 ≤ sizeLine; decide, fun t4 n4 => ?_⟩
  have s4 := same_new (o := .tup [.ref t3, .str ⟨#[c']⟩]) n4
  refine ⟨t4, _, rfl, SqT.of upd_same, rfl, _, _, rfl, _, _, rfl, rfl, ?_⟩
  have hb4 := hb3.keep (KeepT.of s4)
  have W3 := W2.same s4
  have S3 := S2.same s4
  have s13 := sB.trans s4
  have y10 := hv10.keep (KeepT.of s13)
  have y11 := hv11.keep (KeepT.of s13)
  generalize upd H2 t4 (.tup [.ref t3, .str ⟨#[c']⟩]) = H3 at hb4 W3 S3 y10 y11
  generalize (⟨#[c']⟩ : Str) = x at habc
  have fin : ∀ o' H' M' R' N' es' came' b', WorldAt K C H' k.L R' → LS K k H' M' R' N' es' came' b' → b' ≤ b + 2 → o' 9 = some (.int (10 + 30 * n)) → o' 14 = some (.ref t3) → ThrAt K H' (.ref t3) "kind" → tT D (sg k o') H' := fun o' H' M' R' N' es' came' b' W' S' hb' h9 h14 hth =>
    kT k D o' H' M' R' N' es' came' (b + 2) (10 + 30 * n) (.ref t3) W' (LS.mono S' hb' (by omega)) (by omega) (by omega) (by omega) h9 h14 hth fun o2 H2 R2 W2 S2 => kQ o2 H2 M' R2 N' es' came' W2 S2
  cases c with
  | obj sh ps =>
    refine ⟨_, rfl, rfl, true, by show V.bl (decide (V.str "object" = V.str "object")) = _; rw [decide_eq_true rfl], iteT ?_⟩
    exact kO k { D with nx := tT D } (o_ (o_ (o_ (o_ (o_ (o_ (o_ o 9 (some (.int (10 + 30 * n)))) 10 (some pi.1)) 11 (some v11)) 12 (some (.str "object"))) 13 (some (.ref (M (.row i))))) 14 (some (.ref t3))) 15 (some (.str x))) H3 M R N es came b (10 + 30 * n) (.ref t3) pi.1 v11 i sh ps d11 x W3 S3 (by omega) hc rfl rfl hb4 rfl y10 rfl rfl y11 hd11 rfl habc
      fun o' H' M' R' N' es' came' W' S' h9 h14 hth => fin o' H' M' R' N' es' came' _ W' S' (by omega) h9 h14 hth
  | lst ps =>
    refine ⟨_, rfl, rfl, false, by show V.bl (decide (V.str "list" = V.str "object")) = _; rw [lk_str]; congr 1, iteF ?_⟩
    exact kL k { D with nx := tT D } (o_ (o_ (o_ (o_ (o_ (o_ (o_ o 9 (some (.int (10 + 30 * n)))) 10 (some pi.1)) 11 (some v11)) 12 (some (.str "list"))) 13 (some (.ref (M (.row i))))) 14 (some (.ref t3))) 15 (some (.str x))) H3 M R N es came b (10 + 30 * n) (.ref t3) pi.1 v11 i ps d11 W3 S3 (by omega) hc rfl (by omega) (by omega) rfl hb4 rfl y10 rfl rfl y11 hd11
      fun o' H' R' W' S' h9 h14 hth => fin o' H' M R' N es came _ W' S' (by omega) h9 h14 hth
end
end My
namespace My
open PySem PySem.Spec PyProof.Rows L2
/-- the law's things while cells are made -/
structure Cr (K : PySem.W.Frag) (C inst da tb cm ml : Addr) (ds : List Int) (H : Hp) (L : Lab → Addr) (M : TLab → Addr) (ta : Nat → Addr) (R : WS) (n : Nat) : Prop where
  w : WorldAt K C H L R
  nn : R.cells.length = n
  root : ∃ v, R.shapes = [⟨v, none, -1⟩] ∧ R.small = [false] ∧ R.kids = [] ∧ R.widened = [] ∧ R.printed = []
  cs : ∀ c ∈ R.cells, c = .obj 0 [] ∨ c = .lst []
  inst : L .inst = inst
  tab : TabAt K H L M ta R (fun _ => [])
  tb : M .tab = tb
  draws : H da = some (.lst (ds.map V.int))
  hcm : H cm = some (.lst [])
  hml : H ml = some (.lst [])
  outs : ∀ q, (q = da ∨ q = cm ∨ q = ml) → (∀ l, live n l → L l ≠ q) ∧ (∀ l, tlive R l → M l ≠ q)
theorem Cr.same {K : PySem.W.Frag} {C inst da tb cm ml : Addr} {ds : List Int} {H H' : Hp} {L : Lab → Addr} {M : TLab → Addr} {ta : Nat → Addr} {R : WS} {n : Nat} (X : Cr K C inst da tb cm ml ds H L M ta R n) (s : Same H H') : Cr K C inst da tb cm ml ds H' L M ta R n :=
  ⟨X.w.same s, X.nn, X.root, X.cs, X.inst, X.tab.same s, X.tb, s _ _ X.draws, s _ _ X.hcm, s _ _ X.hml, X.outs⟩
def addR (M : TLab → Addr) (n : Nat) (q : Addr) : TLab → Addr := fun l => if l = .row n then q else M l
def addT (ta : Nat → Addr) (n : Nat) (z : Addr) : Nat → Addr := fun i => if i = n then z else ta i
theorem tabD_add {ta : Nat → Addr} {n : Nat} {z : Addr} : tabD (addT ta n z) (n + 1) = putK (tabD ta n) (Sum.inl (n : Int)) (.ref z) := by
  have h : tabD (addT ta n z) (n + 1) = tabD ta n ++ [(Sum.inl (n : Int), V.ref z)] := by
    unfold tabD
    rw [List.range_succ, List.map_append]
    congr 1
    · refine List.map_congr_left fun i hi => ?_
      have := List.mem_range.mp hi
      have e : addT ta n z i = ta i := if_neg (by omega)
      rw [e]
    · show [(Sum.inl (n : Int), V.ref (addT ta n z n))] = _
      rw [show addT ta n z n = z from if_pos rfl]
  rw [h, putK_new]
  unfold valV tabD
  have q : ((List.range n).map fun (i : Nat) => ((Sum.inl (i : Int) : Key), V.ref (ta i))).find? (fun kv => decide (kv.1 = Sum.inl (n : Int))) = none := by
    rw [List.find?_eq_none]
    intro x hx
    obtain ⟨j, hj, rfl⟩ := List.mem_map.mp hx
    have := List.mem_range.mp hj
    simp
    omega
  rw [q]; rfl
theorem rows_nil {M : TLab → Addr} {i : Nat} {c : Cell} (h : c = .obj 0 [] ∨ c = .lst []) : rowsV M i c = [] := by rcases h with rfl | rfl <;> rfl
section
variable {K : PySem.W.Frag} {C inst da tb cm ml : Addr} {ds : List Int} {H H1 H2 : Hp} {L L' : Lab → Addr} {M : TLab → Addr} {ta : Nat → Addr} {R : WS} {n : Nat}
theorem Cr.add (X : Cr K C inst da tb cm ml ds H L M ta R n) {c : Cell} (hc : c = .obj 0 [] ∨ c = .lst []) {q z : Addr} (nq : H q = none) (nz : H z = none) (s1 : Same H H1) (hq : H1 q = some (.lst [])) (hz : H1 z = some (.tup [.str c.word, .ref q]))
    (W2 : WorldAt K C H2 L' (R.addCell c)) (e1 : ∀ m, live n m → L' m = L m) (e2 : ∀ m, live (n + 1) m → live n m ∨ H1 (L' m) = none) (kp : Kept n L H1 H2) :
    H2 tb = some (.dK (tabD ta n)) ∧ Cr K C inst da tb cm ml ds (upd H2 tb (.dK (putK (tabD ta n) (Sum.inl (n : Int)) (.ref z)))) L' (addR M n q) (addT ta n z) (R.addCell c) (n + 1) := by
  have hl : (R.addCell c).cells.length = n + 1 := by show (R.cells ++ [c]).length = _; rw [List.length_append, X.nn]; rfl
  have hn := X.nn
  have htb : H tb = some (.dK (tabD ta n)) := by rw [← X.tb]; have := X.tab.at_ .tab trivial; rw [this, ← hn]; rfl
  have sepT : ∀ l, live n l → L l ≠ tb := fun l hl' => by rw [← X.tb]; exact fun z' => X.tab.sep .tab l trivial (by rw [hn]; exact hl') z'.symm
  have htb2 : H2 tb = some (.dK (tabD ta n)) := kp _ _ (s1 _ _ htb) sepT
  have Lq : ∀ l, live n l → L l ≠ q := fun l hl' y => by have := X.w.at_ l (by rw [hn]; exact hl'); rw [y, nq] at this; cases this
  have Lz : ∀ l, live n l → L l ≠ z := fun l hl' y => by have := X.w.at_ l (by rw [hn]; exact hl'); rw [y, nz] at this; cases this
  have Mq : ∀ l, tlive R l → M l ≠ q := fun l hl' y => by have := X.tab.at_ l hl'; rw [y, nq] at this; cases this
  have hq2 : H2 q = some (.lst []) := kp _ _ hq Lq
  have hz2 : H2 z = some (.tup [.str c.word, .ref q]) := kp _ _ hz Lz
  have kt12 : KeepT H H2 := KeepT.trans (KeepT.of s1) (Kept.tups (X.w.same s1) (by rw [hn]; exact kp))
  have kt3 : ∀ {o : HO}, KeepT H2 (upd H2 tb o) := fun {o} b xs y => by rw [upd_ne (fun w => by subst w; rw [htb2] at y; cases y)]; exact y
  have L'tb : ∀ l, live (n + 1) l → L' l ≠ tb := fun l hl' y => by
    rcases e2 l hl' with h | h
    · rw [e1 l h] at y; exact sepT l h y
    · rw [y, s1 _ _ htb] at h; cases h
  have gold : ∀ i, i < n → (R.addCell c).cells[i]? = R.cells[i]? := fun i hi => by show (R.cells ++ [c])[i]? = _; rw [List.getElem?_append_left (by rw [hn]; exact hi)]
  have gnew : (R.addCell c).cells[n]? = some c := by show (R.cells ++ [c])[n]? = _; rw [← hn, List.getElem?_append_right (Nat.le_refl _), Nat.sub_self]; rfl
  have cs' : ∀ c' ∈ (R.addCell c).cells, c' = .obj 0 [] ∨ c' = .lst [] := fun c' h => by
    rcases List.mem_append.mp h with h | h
    · exact X.cs c' h
    · obtain rfl := List.mem_singleton.mp h; exact hc
  have told : ∀ l, tlive (R.addCell c) l → l ≠ .row n → tlive R l := fun l h ne => by
    cases l with
    | tab => trivial
    | row i =>
      have h : i < (R.addCell c).cells.length := h
      rw [hl] at h
      have : i ≠ n := fun y => ne (by rw [y])
      show i < R.cells.length
      omega
    | pair i m =>
      obtain ⟨s, qs, h1, h2⟩ := h
      rcases cs' _ (List.mem_of_getElem? h1) with y | y
      · cases y; exact absurd h2 (Nat.not_lt_zero m)
      · cases y
  have Mne : ∀ l, l ≠ .row n → addR M n q l = M l := fun l h => if_neg h
  have Meq : addR M n q (.row n) = q := if_pos rfl
  have oldM : ∀ l, tlive R l → l ≠ .tab → ∀ o, H (M l) = some o → (upd H2 tb (.dK (putK (tabD ta n) (Sum.inl (n : Int)) (.ref z)))) (M l) = some o := fun l h1 h2 o ho => by
    rw [upd_ne (fun y => h2 (X.tab.inj l .tab h1 trivial (y.trans X.tb.symm)))]
    exact kp _ _ (s1 _ _ ho) fun l' hl' y => X.tab.sep l l' h1 (by rw [hn]; exact hl') y.symm
  refine ⟨htb2, ⟨?_, hl, ?_, cs', (e1 .inst trivial).trans X.inst, ⟨fun l h => ?_, fun l m h1 h2 y => ?_, fun l m h1 h2 y => ?_, fun i c' hc' => ?_⟩, (Mne .tab (fun y => by cases y)).trans X.tb, ?_, ?_, ?_, fun p hp => ⟨fun l hl' y => ?_, fun l hl' y => ?_⟩⟩⟩
  · exact W2.keep (fun l hl' => by rw [hl] at hl'; rw [upd_ne (L'tb l hl')]) kt3
  · exact X.root
  · by_cases h1 : l = .tab
    · subst h1
      rw [Mne .tab (fun y => by cases y), X.tb, upd_same]
      show _ = some (HO.dK (tabD (addT ta n z) (R.addCell c).cells.length))
      rw [hl, tabD_add]
    · by_cases h2 : l = .row n
      · subst h2
        rw [Meq, upd_ne (fun y => by rw [← y, hq2] at htb2; cases htb2), hq2]
        show _ = some (HO.lst (((R.addCell c).cells[n]?.map (rowsV (addR M n q) n)).getD []))
        rw [gnew]
        show _ = some (HO.lst (rowsV (addR M n q) n c))
        rw [rows_nil hc]
      · have hR := told l h h2
        rw [Mne l h2, oldM l hR h1 _ (X.tab.at_ l hR)]
        cases l with
        | tab => exact absurd rfl h1
        | row i =>
          have hi : i < n := by rw [← hn]; exact hR
          show some (HO.lst ((R.cells[i]?.map (rowsV M i)).getD [])) = some (HO.lst (((R.addCell c).cells[i]?.map (rowsV (addR M n q) i)).getD []))
          rw [gold i hi]
          cases hci : R.cells[i]? with
          | none => rfl
          | some c2 =>
            show some (HO.lst (rowsV M i c2)) = some (HO.lst (rowsV (addR M n q) i c2))
            rw [rows_nil (X.cs _ (List.mem_of_getElem? hci)), rows_nil (X.cs _ (List.mem_of_getElem? hci))]
        | pair i m =>
          obtain ⟨s, qs, h1, h2⟩ := hR
          rcases X.cs _ (List.mem_of_getElem? h1) with y | y
          · cases y; exact absurd h2 (Nat.not_lt_zero m)
          · cases y
  · by_cases a : l = .row n
    · by_cases b : m = .row n
      · rw [a, b]
      · rw [a, Meq, Mne m b] at y; exact absurd y.symm (Mq m (told m h2 b))
    · by_cases b : m = .row n
      · rw [b, Meq, Mne l a] at y; exact absurd y (Mq l (told l h1 a))
      · rw [Mne l a, Mne m b] at y; exact X.tab.inj l m (told l h1 a) (told m h2 b) y
  · rw [hl] at h2
    by_cases a : l = .row n
    · rw [a, Meq] at y
      rcases e2 m h2 with h | h
      · rw [e1 m h] at y; exact Lq m h y.symm
      · rw [← y, hq] at h; cases h
    · rw [Mne l a] at y
      have hR := told l h1 a
      rcases e2 m h2 with h | h
      · rw [e1 m h] at y; exact X.tab.sep l m hR (by rw [hn]; exact h) y
      · rw [← y, s1 _ _ (X.tab.at_ l hR)] at h; cases h
  · by_cases a : i = n
    · subst a
      rw [gnew] at hc'
      obtain rfl := Option.some.inj hc'
      rw [show addT ta i z i = z from if_pos rfl, Meq]
      exact .inl (kt3 _ _ hz2)
    · have hi : i < n := by have := lt_of hc'; rw [hl] at this; omega
      rw [gold i hi] at hc'
      rw [show addT ta n z i = ta i from if_neg a, Mne _ (fun y => a (by injection y))]
      exact ((X.tab.tup i c' hc').keep kt12).keep kt3
  · rw [upd_ne (fun y => by have := X.draws; rw [y, htb] at this; cases this)]; exact kp _ _ (s1 _ _ X.draws) (X.outs _ (.inl rfl)).1
  · rw [upd_ne (fun y => by have := X.hcm; rw [y, htb] at this; cases this)]; exact kp _ _ (s1 _ _ X.hcm) (X.outs _ (.inr (.inl rfl))).1
  · rw [upd_ne (fun y => by have := X.hml; rw [y, htb] at this; cases this)]; exact kp _ _ (s1 _ _ X.hml) (X.outs _ (.inr (.inr rfl))).1
  · have hp2 : ∃ o, H p = some o := by rcases hp with rfl | rfl | rfl; exact ⟨_, X.draws⟩; exact ⟨_, X.hcm⟩; exact ⟨_, X.hml⟩
    obtain ⟨o, ho⟩ := hp2
    rcases e2 l hl' with h | h
    · rw [e1 l h] at y; exact (X.outs p hp).1 l h y
    · rw [y, s1 _ _ ho] at h; cases h
  · have hp2 : ∃ o, H p = some o := by rcases hp with rfl | rfl | rfl; exact ⟨_, X.draws⟩; exact ⟨_, X.hcm⟩; exact ⟨_, X.hml⟩
    obtain ⟨o, ho⟩ := hp2
    by_cases a : l = .row n
    · rw [a, Meq] at y; rw [← y, nq] at ho; cases ho
    · rw [Mne l a] at y; exact (X.outs p hp).2 l (told l hl' a) y
theorem Cr.start (X : Cr K C inst da tb cm ml ds H L M ta R n) (h0 : 0 < n) (h9 : n ≤ 9) {rf : Addr} {rps : List VV} (hrf : H rf = some (.lst (rps.map (·.1)))) (hlen : rps.length = n) (ri : ∀ (i : Nat) (p : VV), rps[i]? = some p → p.2 = .ref (i : Int)) (rv : ∀ p ∈ rps, Vl K H p.1 p.2)
    (orf : (∀ l, live n l → L l ≠ rf) ∧ (∀ l, tlive R l → M l ≠ rf)) (d1 : da ≠ cm) (d2 : rf ≠ cm) (d3 : ml ≠ cm) (dok : DrawsOk 3780 ds) : LS K ⟨L, ta, n, da, ds, rf, rps, cm, ml, tb⟩ H M R (fun _ => []) [] [] 0 := by
  obtain ⟨v, e1, e2, e3, e4, e5⟩ := X.root
  have nok : ∀ p x, R.kid p x = none := fun p x => by show (R.kids.find? _).map _ = none; rw [e3]; rfl
  exact
  { n := X.nn, pos := h0, n9 := h9, b9 := Nat.zero_le _, tab := X.tab, tb := X.tb, ca := ⟨X.hcm, rfl, fun i e c a => nomatch a⟩
    pl :=
    { root := ⟨⟨v, none, -1⟩, by rw [e1]; rfl, rfl, rfl⟩
      all := fun j hj => by
        rw [e1] at hj
        have : j = 0 := by simp at hj; exact hj
        subst this
        exact .root (by rw [e1]; rfl) rfl rfl
      kids := fun i s p x hi hs => by
        rw [e1] at hs
        have := lt_of hs
        simp at this
        omega
      kidS := fun p x i h => by rw [nok] at h; cases h
      kinds := by rw [e1, e2]; rfl
      abc := fun sh => ⟨List.nodup_nil, fun x hx => nomatch hx⟩
      objs := fun c hc sh ps e => by
        rcases X.cs c hc with y | y
        · rw [y] at e; cases e; exact ⟨by rw [e1]; exact Nat.zero_lt_one, rfl⟩
        · rw [y] at e; cases e
      sml := fun j hj b hb => by
        rw [e2] at hb
        have := lt_of hb
        simp at this
        omega
      wid := by rw [e4]; exact List.nodup_nil
      widA := fun i hi => by rw [e4] at hi; exact nomatch hi
      vals := fun c hc sh ps e k p hp => by
        rcases X.cs c hc with y | y
        · rw [y] at e; cases e; exact nomatch hp
        · rw [y] at e; cases e
      paths := fun e he => nomatch he }
    dr := fun c hc p hp => by rcases X.cs c hc with y | y <;> (rw [y] at hp; exact nomatch hp)
    few := fun c hc => by rcases X.cs c hc with y | y <;> (rw [y]; exact Nat.le_refl _)
    bS := by rw [e1]; exact Nat.le_refl _
    bK := by rw [e3]; exact Nat.le_refl _
    bW := by rw [e4]; exact Nat.le_refl _
    bP := by rw [e5]; exact Nat.le_refl _
    bC := Nat.le_refl _
    ce := fun e he => nomatch he
    draws := X.draws, dok := dok, refs := hrf, rlen := hlen, ri := ri, rv := rv, met := X.hml
    outs := fun q h => by
      rcases h with rfl | rfl | rfl | ⟨e, he, _⟩
      · exact ⟨(X.outs _ (.inl rfl)).1, (X.outs _ (.inl rfl)).2, d1⟩
      · exact ⟨orf.1, orf.2, d2⟩
      · exact ⟨(X.outs _ (.inr (.inr rfl))).1, (X.outs _ (.inr (.inr rfl))).2, d3⟩
      · exact nomatch he
    cmL := (X.outs _ (.inr (.inl rfl))).1
    cmM := (X.outs _ (.inr (.inl rfl))).2 }
end
end My
namespace My
open PySem PySem.Spec PyProof.Rows L2
theorem ABC.len {x : Str} (h : ABC x) : x.length ≤ 5 := by rcases h with rfl | rfl | rfl <;> decide +kernel
theorem ABC.ne {x : Str} (h : ABC x) : x ≠ "zz" := by rcases h with rfl | rfl | rfl <;> decide +kernel
theorem ABC.ok {x : Str} (h : ABC x) : PyData.strOk x = true := by rcases h with rfl | rfl | rfl <;> decide +kernel
/-! ### texts of dumps are texts -/
theorem join_sOk (sep : Str) (hs : PyData.strOk sep = true) : ∀ ts : List Str, (∀ t ∈ ts, PyData.strOk t = true) → PyData.strOk (Str.join sep ts) = true
  | [], _ => by show PyData.strOk Str.empty = true; decide +kernel
  | [t], h => h t List.mem_cons_self
  | t :: u :: r, h => by
    have ih := join_sOk sep hs (u :: r) fun q hq => h q (List.mem_cons_of_mem _ hq)
    exact strOk_append (strOk_append (h t List.mem_cons_self) hs) ih
theorem tag_sOk {nm : Nat → Str} (hn : ∀ k, PyData.strOk (nm k) = true) : ∀ (k : Nat) (ts : List Str), (∀ t ∈ ts, PyData.strOk t = true) → ∀ t ∈ tagI nm k ts, PyData.strOk t = true
  | _, [], _, t, ht => nomatch ht
  | k, x :: r, h, t, ht => by
    rcases List.mem_cons.mp ht with rfl | z
    · exact strOk_append (hn k) (h x List.mem_cons_self)
    · exact tag_sOk hn (k + 1) r (fun q hq => h q (List.mem_cons_of_mem _ hq)) t z
theorem plainT_sOk {n : Nat} {d : Val} (h : Drawn n d) : PyData.strOk (plainT d) = true := by
  cases d with
  | int z => exact intT_ok z
  | bool b =>
    obtain rfl : b = true := h
    show PyData.strOk ("true" : Str) = true; decide +kernel
  | nul => show PyData.strOk ("null" : Str) = true; decide +kernel
  | text s => exact strOk_append (strOk_append (by decide +kernel) h.2) (by decide +kernel)
  | fn z => exact strOk_append (strOk_append (by decide +kernel) (intT_ok z)) (by decide +kernel)
  | ref z => show PyData.strOk Str.empty = true; decide +kernel
theorem seq_sOk {f : Met → Val → Str × Met} {p : Val → Prop} (hf : ∀ met d, p d → PyData.strOk (f met d).1 = true) : ∀ (ds : List Val) (met : Met), (∀ d ∈ ds, p d) → ∀ t ∈ (seqM f met ds).1, PyData.strOk t = true
  | [], _, _, t, ht => nomatch ht
  | d :: r, met, h, t, ht => by
    rcases List.mem_cons.mp ht with rfl | z
    · exact hf met d (h d List.mem_cons_self)
    · exact seq_sOk hf r _ (fun q hq => h q (List.mem_cons_of_mem _ hq)) t z
theorem dV_sOk {cells : List Cell} {N : Nat → List Str} {m : Nat} (hN : ∀ sh, ∀ x ∈ N sh, PyData.strOk x = true) (hd : ∀ c ∈ cells, ∀ p ∈ c.vs, Drawn m p.2) : ∀ (n : Nat) (met : Met) (d : Val), Drawn m d → PyData.strOk (dV cells N n met d).1 = true
  | 0, met, d, h => by show PyData.strOk Str.empty = true; decide +kernel
  | n + 1, met, .ref z, h => by
    unfold dV
    split
    · exact strOk_append (by decide +kernel) (intT_ok _)
    · split
      · rename_i c hc
        have hnm : ∀ k, PyData.strOk (nmC N c k) = true := fun k => by
          have he : PyData.strOk Str.empty = true := by decide +kernel
          cases c with
          | lst ps => exact he
          | obj sh ps =>
            show PyData.strOk (nmOf (N sh) k) = true
            unfold nmOf
            split
            · refine strOk_append ?_ (by decide +kernel)
              by_cases hk : k < (N sh).length
              · rw [List.getD_eq_getElem?_getD, List.getElem?_eq_getElem hk]; exact hN sh _ (List.getElem_mem hk)
              · rw [List.getD_eq_getElem?_getD, List.getElem?_eq_none (by omega)]; exact he
            · exact he
        have hds : ∀ d ∈ c.ds, Drawn m d := fun d hd' => by
          obtain ⟨p, hp, rfl⟩ := List.mem_map.mp hd'
          exact hd c (List.mem_of_getElem? hc) p hp
        refine strOk_append (strOk_append (by cases c; exact (show PyData.strOk ("{" : Str) = true by decide +kernel); exact (show PyData.strOk ("[" : Str) = true by decide +kernel)) ?_) (by cases c; exact (show PyData.strOk ("}" : Str) = true by decide +kernel); exact (show PyData.strOk ("]" : Str) = true by decide +kernel))
        exact join_sOk _ (by decide +kernel) _ (tag_sOk hnm 0 _ (seq_sOk (p := Drawn m) (fun met d h => dV_sOk hN hd n met d h) c.ds _ hds))
      · show PyData.strOk Str.empty = true; decide +kernel
  | n + 1, met, .int _, h => plainT_sOk h
  | n + 1, met, .bool _, h => plainT_sOk h
  | n + 1, met, .nul, h => plainT_sOk h
  | n + 1, met, .text _, h => plainT_sOk h
  | n + 1, met, .fn _, h => plainT_sOk h
section
variable {K : PySem.W.Frag} {k : Cn} {H : Hp} {M : TLab → Addr} {R : WS} {N : Nat → List Str} {es : List (Addr × Addr × V)} {came : List (List Str × Val)} {b : Nat}
theorem LSx.plain (S : LS K k H M R N es came b) : Plain R N came :=
  { kids := S.pl.kids
    kidLt := fun p x i h => by
      obtain ⟨i0, s, hs, hf⟩ := S.pl.kidS _ _ _ h
      refine ⟨lt_of hs, ?_⟩
      have ch := S.pl.all i (lt_of hs)
      have hx : x ∈ N i := by
        cases hr : (N i).reverse with
        | nil => rw [hr] at ch; cases ch; exact absurd i0 (Nat.lt_irrefl 0)
        | cons y r =>
          have hy : y ∈ N i := List.mem_reverse.mp (by rw [hr]; exact List.mem_cons_self)
          rw [hr] at ch
          cases ch with
          | step a b c d e =>
            rw [hs] at b
            obtain rfl := Option.some.inj b
            rw [hf] at c
            obtain ⟨_, rfl⟩ := Prod.mk.inj (Option.some.inj c)
            exact hy
      exact ((S.pl.abc i).2 x hx).ne
    kinds := S.pl.kinds
    objs := fun c hc sh ps e => by
      obtain ⟨h1, h2⟩ := S.pl.objs c hc sh ps e
      exact ⟨S.pl.all sh h1, h2, (S.pl.abc sh).1, fun x hx => ((S.pl.abc sh).2 x hx).ne⟩
    sml := fun j rs ch hj bb hb => by
      have := Chain.fn ch (S.pl.all j ch.lt)
      subst this
      rw [List.reverse_reverse]
      exact S.pl.sml j hj bb hb
    wid := S.pl.wid, widA := S.pl.widA, few := by have := S.bW; have := S.b9; omega }
theorem LSx.allDrawn (S : LS K k H M R N es came b) : AllDrawn R :=
  ⟨by rw [S.n]; have := S.n9; omega, fun c hc => by have := S.few c hc; have := S.b9; omega, fun c hc p hp => by rw [S.n]; exact S.dr c hc p hp⟩
theorem LSx.named (S : LS K k H M R N es came b) : Named R N :=
  ⟨fun c hc sh ps e => by obtain ⟨h1, h2⟩ := S.pl.objs c hc sh ps e; exact ⟨S.pl.all sh h1, h2⟩, fun sh x hx => ((S.pl.abc sh).2 x hx).len, (S.allDrawn).few, fun c hc p hp => ((S.allDrawn).dr c hc p hp).tk⟩
theorem LSx.shorts (S : LS K k H M R N es came b) : Shorts R.cells N := S.allDrawn.shorts fun sh x hx => ((S.pl.abc sh).2 x hx).len
theorem len3 {l : List Str} (nd : l.Nodup) (h : ∀ x ∈ l, ABC x) : l.length ≤ 3 := by
  have hs : ∀ x ∈ l, x ∈ (["a", "b", "c"] : List Str) := fun x hx => by
    rcases h x hx with rfl | rfl | rfl <;> simp
  exact (List.nodup_iff_count.mp nd |> fun _ => nd.length_le_of_subset hs)
theorem LSx.sound (S : LS K k H M R N es came b) : Sound R :=
  { objs := fun c hc sh ps e => by
      obtain ⟨h1, h2⟩ := S.pl.objs c hc sh ps e
      refine ⟨(N sh).reverse, S.pl.all sh h1, by rw [List.length_reverse]; exact h2.symm, fun kx p j hp chj hs => ?_⟩
      have hk : kx < (N sh).length := by rw [h2]; exact lt_of hp
      have e1 : (N sh).reverse.drop ((N sh).reverse.length - (kx + 1)) = ((N sh).take (kx + 1)).reverse := by
        rw [List.drop_reverse, List.length_reverse]
        congr 2
        omega
      rw [e1] at chj
      obtain ⟨eN, j0, jl⟩ := S.pl.nameOf chj (fun z => by
        have := congrArg List.length z
        rw [List.length_take] at this
        simp only [List.length_nil] at this
        omega)
      exact (S.pl.sml j j0 true hs).mp rfl _ (S.pl.vals c hc sh ps e kx p hp) eN.symm
    told := (S.named).told
    few := (S.named).few
    kinds := S.pl.kinds }
theorem LSx.names (S : LS K k H M R N es came b) : (∀ sh, (N sh).length ≤ 3) ∧ (∀ sh, ∀ x ∈ N sh, PyData.strOk x = true) :=
  ⟨fun sh => len3 (S.pl.abc sh).1 (S.pl.abc sh).2, fun sh x hx => ((S.pl.abc sh).2 x hx).ok⟩
theorem LSx.cames (S : LS K k H M R N es came b) : ∀ e ∈ came, e.1.length ≤ 3 ∧ (∀ x ∈ e.1, PyData.strOk x = true) ∧ e.2.ok := fun e he => by
  obtain ⟨j, _, _, h⟩ := S.pl.paths e he
  obtain ⟨h1, h2⟩ := S.names
  exact ⟨by rw [← h]; exact h1 j, fun x hx => h2 j x (by rw [h]; exact hx), S.ce e he⟩
end
end My
namespace My
open PySem PySem.Spec PyProof.Rows L2
theorem passC {P : Program} {w : World} {X : Cx} : Passes (L2.CX P w) X E0 := fun _ _ _ _ _ _ _ h => by
  obtain ⟨_, _, _, _, _, _, _, _, _, _, _, _, hE⟩ := h
  exact hE.elim
def spLaw (K : PySem.W.Frag) : Sp := fun vs H Q _ => ∃ (a : Addr) (ns : List Int), vs = [.ref a] ∧ SqL K H a (ns.map V.int) ∧ ns.length ≤ 63 ∧ ∀ H', Q (.bl true) H'
theorem TabAt.but {K : PySem.W.Frag} {H H' : Hp} {L : Lab → Addr} {M : TLab → Addr} {ta : Nat → Addr} {R : WS} {N : Nat → List Str} {ml : Addr} (T : TabAt K H L M ta R N) (out : ∀ l, tlive R l → M l ≠ ml) (b : But ml H H') (kt : KeepT H H') : TabAt K H' L M ta R N :=
  ⟨fun l hl => b _ _ (T.at_ l hl) (out l hl), T.inj, T.sep, fun i c hc => (T.tup i c hc).keep kt⟩
theorem ab_join : join "+" (.text "a") (.text "b") = .val (.text "ab") := by
  show (if ("+" : Str) = "+" then (if 40 < ("a" : Str).length + ("b" : Str).length then Res.thrown "long" else .val (.text (("a" : Str) ++ ("b" : Str)))) else Res.thrown "kind") = _
  rw [if_pos rfl, if_neg (by decide +kernel)]
  congr 2
def sh (da x tb cm ml : Addr) (o : Nat → Option V) : L2.St :=
  [o 0, some (.ref da), some (.ref x), some (.ref tb), some (.ref cm), some (.ref ml), o 6, o 7, o 8, o 9, o 10, o 11, o 12, o 13, o 14, o 15, o 16, o 17, o 18, o 19, o 20, o 21, o 22, o 23, o 24, o 25, o 26, o 27, o 28]
theorem rngB {j : Int} (h0 : 0 ≤ j) (h1 : j ≤ 1000) : -(2 ^ 62) ≤ j ∧ j < 2 ^ 62 := by
  have e : (2 : Int) ^ 62 = 4611686018427387904 := by decide
  omega
section
variable {P : Program} {w : World} {K : PySem.W.Frag} {mg : Str → Option Value} {base : Heap} {C CT CD : Addr}
/-- the functions that the law calls outside of its loop -/
structure Fns2 (P : Program) (w : World) (K : PySem.W.Frag) (mg : Str → Option Value) (base : Heap) (C CT CD : Addr) (fW fI fN fL fP fQ fV fS fJ fY fZ : Addr) (fdW fdI fdN fdL fdP fdQ fdV fdS fdJ fdY fdZ : FuncData) : Prop where
  GW : FnOk P w K mg base CX0 1 fW fdW ["script"] (spDraws K)
  cW : Fc K mg "_law_draws" fW fdW ["script"]
  MW : Mk K C fI
  GI : FnOk P w K mg base CX0 1 fI fdI ["self"] (spInitW K C)
  bI : Binds K fdI ["self"] []
  GN : FnOk P w K mg base CX0 3 fN fdN ["self"] (spNewObject K C)
  cN : Mc K C "new_object" fN fdN ["self"]
  GL : FnOk P w K mg base CX0 3 fL fdL ["self", "values"] (spNewList K C)
  cL : Mc K C "new_list" fL fdL ["self", "values"]
  GP : FnOk P w K mg base CX0 4 fP fdP ["world", "values"] (spDumped K C CD)
  cP : Fc K mg "dumped" fP fdP ["world", "values"]
  GQ : FnOk P w K mg base CX0 11 fQ fdQ ["told", "table", "met"] (spLDump K 10)
  cQ : Fc K mg "_law_dump" fQ fdQ ["told", "table", "met"]
  GV : FnOk P w K mg base CX0 3 fV fdV ["world"] (spIsWorld K C)
  cV : Fc K mg "is_world" fV fdV ["world"]
  GS : FnOk P w K mg base CX0 3 fS fdS ["world", "table", "came"] (spSh K C)
  cS : Fc K mg "_law_shapes" fS fdS ["world", "table", "came"]
  GJ : FnOk P w K mg base (L2.CX P w) 2 fJ fdJ ["sign", "one", "two"] (spJoined K CT)
  cJ : Fc K mg "joined" fJ fdJ ["sign", "one", "two"]
  GY : FnOk P w K mg base CX0 2 fY fdY ["self", "value"] (spFunctionOf K C)
  cY : Mc K C "function_of" fY fdY ["self", "value"]
  GZ : FnOk P w K mg base CX0 7 fZ fdZ [] spFull
  cZ : Fc K mg "_law_full" fZ fdZ []
theorem ok_law {fT fD fG fM fU fX : Addr} {fdT fdD fdG fdM fdU fdX : FuncData} {fW fI fN fL fP fQ fV fS fJ fY fZ : Addr} {fdW fdI fdN fdL fdP fdQ fdV fdS fdJ fdY fdZ : FuncData} {f : Addr} {fd : FuncData} (F : Fun K "law" "law" sLaw f fd) (T : WT K mg C) (B : Bn mg)
    (F1 : Fns P w K mg base C CT fT fD fG fM fU fX fdT fdD fdG fdM fdU fdX) (F2 : Fns2 P w K mg base C CT CD fW fI fN fL fP fQ fV fS fJ fY fZ fdW fdI fdN fdL fdP fdQ fdV fdS fdJ fdY fdZ) : FnOk P w K mg base CX0 12 f fd ["script"] (spLaw K) := by
  obtain ⟨GW, cW, MW, GI, bI, GN, cN, GL, cL, GP, cP, GQ, cQ, GV, cV, GS, cS, GJ, cJ, GY, cY, GZ, cZ⟩ := F2
  have GX := F1.GX
  have cX := F1.cX
  refine F.ok scLaw (fun vs H Q E h => ?_) (fun cdv A outer s H vs Q E hr h => ?_)
  · obtain ⟨a, ns, rfl, _⟩ := h; rfl
  · obtain ⟨tBd, hBd, kBd⟩ := body_ok (A := A) (outer := outer) (s := s) (cdv := cdv) (f := f) (H0 := H) (E := E) T B F1 hr
    refine ⟨_, (pss_cons (ps_set (i := 1) scLaw.nd rfl (.inl rfl) (pe_call GW (hr.mono (by decide)) rfl cW.g cW.kp cW.b .nil pass0 (pa_cons (pv 0) pa_nil))) (pss_cons (ps_asg (pe_tup (pa_cons (pe_make0 MW GI (hr.mono (by decide)) rfl T.g bI .nil pass0) (pa_cons pe_dnewK (pa_cons (pe_lst pa_nil) (pa_cons (pe_lst pa_nil) pa_nil))))) (pg_tup rfl (pgs_cons (pg_name (i := 2) scLaw.nd rfl (Or.inl rfl)) (pgs_cons (pg_name (i := 3) scLaw.nd rfl (Or.inr rfl)) (pgs_cons (pg_name (i := 4) scLaw.nd rfl (Or.inl rfl)) (pgs_cons (pg_name (i := 5) scLaw.nd rfl (Or.inr rfl)) pgs_nil)))))) (pss_cons (ps_for PassesOwn.never rfl (pi_range1 rfl B.range (pa_cons (pe_op op_add pe_int (pe_call GX (hr.mono (by decide)) rfl cX.g cX.kp cX.b .nil pass0 (pa_cons (pv 1) (pa_cons pe_int (pa_cons pe_int pa_nil))))) pa_nil)) (pg_name (i := 6) scLaw.nd rfl (Or.inl rfl)) (pss_one (ps_asg (pe_tup (pa_cons pe_str (pa_cons (pe_lst pa_nil) pa_nil))) (pg_sub (pv 3) (pe_ix  ix_tup (pe_meth0 (pv 2) T.cl cN.m GN (hr.mono (by decide)) cN.b .nil pass0) pe_int (fun _ _ => rfl)) (set_dict (hu_of hr)))))) (pss_cons (ps_for PassesOwn.never rfl (pi_range1 rfl B.range (pa_cons (pe_op op_add pe_int (pe_call GX (hr.mono (by decide)) rfl cX.g cX.kp cX.b .nil pass0 (pa_cons (pv 1) (pa_cons pe_int (pa_cons pe_int pa_nil))))) pa_nil)) (pg_name (i := 6) scLaw.nd rfl (Or.inl rfl)) (pss_one (ps_asg (pe_tup (pa_cons pe_str (pa_cons (pe_lst pa_nil) pa_nil))) (pg_sub (pv 3) (pe_ix  ix_tup (pe_meth (pv 2) T.cl cL.m GL (hr.mono (by decide)) cL.b .nil pass0 (pa_cons (pe_lst pa_nil) pa_nil)) pe_int (fun _ _ => rfl)) (set_dict (hu_of hr)))))) (pss_cons (ps_setLc (i := 7) (own := [("spot", 27)]) (g := gName 27) (tt := tYes) (by rfl) scLaw.nd rfl rfl (sw_true rfl rfl rfl (by decide +kernel)) (pi_list (pe_callB (call_sortedDI rfl) (by rfl) B.sorted (by decide +kernel) (pa_cons (pv 3) pa_nil))) (blkOk_by (own := [("spot", 27)]) (N := nLaw) (sc := defScope sLaw) (by decide +kernel)) (fun _ _ _ _ _ => pg_name (i := 27) scLaw.nd rfl (Or.inl rfl)) (fun _ _ _ _ _ => pts_nil) (fun _ _ _ _ _ => (pe_tup (pa_cons pe_str (pa_cons (pv 27) pa_nil))))) (pss_cons (ps_for PassesOwn.never rfl (pi_range1 rfl B.range (pa_cons (pe_call GX (hr.mono (by decide)) rfl cX.g cX.kp cX.b .nil pass0 (pa_cons (pv 1) (pa_cons pe_int (pa_cons pe_int pa_nil)))) pa_nil)) (pg_name (i := 8) scLaw.nd rfl (Or.inl rfl)) hBd) (pss_cons (ps_if (PW.pt (pw_or (pt_cmpR (op_neD (hu64 hr)) (pe_call GP (hr.mono (by decide)) rfl cP.g cP.kp cP.b .nil pass0 (pa_cons (pv 2) (pa_cons (pv 7) pa_nil))) (pe_lc (own := [("one", 22)]) (g := gName 22) (tt := tYes) rfl scLaw.nd (pi_list (pv 7)) (blkOk_by (own := [("one", 22)]) (N := nLaw) (sc := defScope sLaw) (by decide +kernel)) (fun _ _ _ _ _ => pg_name (i := 22) scLaw.nd rfl (Or.inl rfl)) (fun _ _ _ _ _ => pts_nil) (fun _ _ _ _ _ => (pe_call GQ (hr.mono (by decide)) rfl cQ.g cQ.kp cQ.b .nil pass0 (pa_cons (pv 22) (pa_cons (pv 3) (pa_cons (pv 5) pa_nil)))))) (nomark _)) (pw_or (pt_cmpR L2.op_isnot_bl (pe_call GV (hr.mono (by decide)) rfl cV.g cV.kp cV.b .nil pass0 (pa_cons (pv 2) pa_nil)) pe_bl (nomark _)) (pw_or1 (pt_not (pt_val (pe_call GS (hr.mono (by decide)) rfl cS.g cS.kp cS.b .nil pass0 (pa_cons (pv 2) (pa_cons (pv 3) (pa_cons (pv 4) pa_nil)))))))))) (pss_one (ps_ret pe_bl)) pss_nil) (pss_cons (ps_if (PW.pt (pw_or (pt_cmpR (op_neD (hu64 hr)) (pe_call (E := E0) GJ (hr.mono (by decide)) rfl cJ.g cJ.kp cJ.b .nil passC (pa_cons pe_str (pa_cons (pe_tup (pa_cons pe_str (pa_cons pe_str pa_nil))) (pa_cons (pe_tup (pa_cons pe_str (pa_cons pe_str pa_nil))) pa_nil)))) (pe_tup (pa_cons pe_str (pa_cons pe_str pa_nil))) (nomark _)) (pw_or1 (pt_cmpR op_ne (pe_meth (pv 2) T.cl cY.m GY (hr.mono (by decide)) cY.b .nil pass0 (pa_cons (pe_tup (pa_cons pe_str (pa_cons pe_int pa_nil))) pa_nil)) pe_int (nomark _))))) (pss_one (ps_ret pe_bl)) pss_nil) (pss_one (ps_ret (pe_and (pe_cmpR op_isN (pe_meth (pv 2) T.cl cY.m GY (hr.mono (by decide)) cY.b .nil pass0 (pa_cons (pe_ix  ix_list (pv 7) pe_int (fun _ _ => rfl)) pa_nil)) pe_non (nomark _)) (pe_one (pe_call0 GZ (hr.mono (by decide)) rfl cZ.g cZ.kp cZ.b .nil pass0))))))))))))), ?_⟩
    obtain ⟨a, ns, rfl, hS, hlen, kQ⟩ := h
    refine ⟨_, rfl, a, ns, rfl, hS, by rw [sizeLine_eq]; omega, fun H1 da ds s1 nda hda dok => ?_⟩
    -- the world, the table, the lists
    refine fun x dx hx hdx ne => ?_
    have s0 : Same H1 (upd (upd H1 dx (.own x)) x (.ins C dx [])) := fun b o e => by rw [upd_ne (ne_of_none e hx), upd_ne (ne_of_none e hdx)]; exact e
    refine ⟨x, dx, rfl, upd_same, by rw [upd_ne ne]; exact upd_same, ne, fun H2 L v W hL hlab old => ⟨rfl, fun tb ntb => ⟨by show 0 ≤ sizeLine; decide, fun cm ncm => ⟨by show 0 ≤ sizeLine; decide, fun ml nml => ⟨by show 4 ≤ sizeLine; decide, fun tt ntt => ?_⟩⟩⟩⟩⟩
    have s12 : Same H1 H2 := fun b o e => old b o (s0 b o e) (ne_of_none e hx)
    have s3 := same_new (o := .dK []) ntb
    have s4 := same_new (o := .lst []) ncm
    have s5 := same_new (o := .lst []) nml
    have s6 := same_new (o := .tup [.ref x, .ref tb, .ref cm, .ref ml]) ntt
    have s46 := s4.trans (s5.trans s6)
    have s36 := s3.trans s46
    have hx0 : ∀ q o, H1 q = some o → q ≠ x ∧ q ≠ dx := fun q o e => ⟨ne_of_none e hx, ne_of_none e hdx⟩
    have Lnew : ∀ q o, H1 q = some o → ∀ l, live 0 l → L l ≠ q := fun q o e l hl z => by
      rcases hlab l hl with h | h | h
      · exact (hx0 q o e).1 (z.symm.trans h)
      · exact (hx0 q o e).2 (z.symm.trans h)
      · rw [z, s0 q o e] at h; cases h
    have tbNe : ∀ q o, H2 q = some o → tb ≠ q := fun q o e z => by rw [← z, ntb] at e; cases e
    have notl : ∀ l, tlive (R0 v) l → l = .tab := fun l hl => by
      cases l with
      | tab => rfl
      | row i => exact absurd hl (Nat.not_lt_zero i)
      | pair i m => obtain ⟨_, _, h1, _⟩ := hl; exact nomatch h1
    have tab0 : TabAt K (upd (upd (upd (upd H2 tb (.dK [])) cm (.lst [])) ml (.lst [])) tt (.tup [.ref x, .ref tb, .ref cm, .ref ml])) L (fun _ => tb) (fun _ => tb) (R0 v) (fun _ => []) := by
      refine ⟨fun l hl => ?_, fun l m h1 h2 _ => by rw [notl l h1, notl m h2], fun l m _ hm z => W.newL ntb m hm z.symm, fun i c hc => ?_⟩
      · rw [notl l hl]; exact s46 _ _ upd_same
      · exact nomatch hc
    have out0 : ∀ q, (q = da ∨ q = cm ∨ q = ml) → (∀ l, live 0 l → L l ≠ q) ∧ (∀ l, tlive (R0 v) l → tb ≠ q) := fun q h => by
      rcases h with rfl | rfl | rfl
      · exact ⟨Lnew _ _ hda, fun l _ => tbNe _ _ (s12 _ _ hda)⟩
      · refine ⟨fun l hl => (W.same s3).newL ncm l hl, fun l _ z => ?_⟩
        rw [← z, upd_same] at ncm
        cases ncm
      · refine ⟨fun l hl => (W.same (s3.trans s4)).newL nml l hl, fun l _ z => ?_⟩
        have h7 : (upd (upd H2 tb (.dK [])) cm (.lst [])) tb = some (.dK []) := s4 _ _ upd_same
        have h8 := h7.symm.trans ((congrArg (upd (upd H2 tb (.dK [])) cm (.lst [])) z).trans nml)
        cases h8
    have cs0 : ∀ c ∈ (R0 v).cells, c = .obj 0 [] ∨ c = .lst [] := fun c hc => nomatch hc
    have X0 : Cr K C x da tb cm ml ds (upd (upd (upd (upd H2 tb (.dK [])) cm (.lst [])) ml (.lst [])) tt (.tup [.ref x, .ref tb, .ref cm, .ref ml])) L (fun _ => tb) (fun _ => tb) (R0 v) 0 :=
      { w := W.same s36, nn := rfl, root := ⟨v, rfl, rfl, rfl, rfl, rfl⟩, cs := cs0, inst := hL, tab := tab0, tb := rfl
        draws := s36 _ _ (s12 _ _ hda), hcm := s6 _ _ (s5 _ _ upd_same), hml := s6 _ _ upd_same, outs := out0 }
    have d1 : da ≠ cm := ne_of_none (s3 _ _ (s12 _ _ hda)) ncm
    have d3 : ml ≠ cm := fun z => by
      have : (upd (upd H2 tb (.dK [])) cm (.lst [])) cm = some (.lst []) := upd_same
      have h8 := this.symm.trans ((congrArg (upd (upd H2 tb (.dK [])) cm (.lst [])) z.symm).trans nml)
      cases h8
    have htt : (upd (upd (upd (upd H2 tb (.dK [])) cm (.lst [])) ml (.lst [])) tt (.tup [.ref x, .ref tb, .ref cm, .ref ml])) tt = some (.tup [.ref x, .ref tb, .ref cm, .ref ml]) := upd_same
    generalize (upd (upd (upd (upd H2 tb (.dK [])) cm (.lst [])) ml (.lst [])) tt (.tup [.ref x, .ref tb, .ref cm, .ref ml])) = H3 at X0 htt
    refine ⟨tt, _, rfl, SqT.of htt, rfl, _, _, rfl, _, _, rfl, _, _, rfl, _, _, rfl, rfl, ?_⟩
    -- objects
    refine ⟨_, rfl, da, ds, 0, 5, rfl, SqL.of X0.draws, dok, by decide, by decide, by decide, fun r r0 r1 => ⟨_, _, rfl, rfl, _, rfl, (rngB (by omega) (by omega)).1, (rngB (by omega) (by omega)).2, ?_⟩⟩
    refine for_range (lo := 0) (fun i σ G => ∃ L M ta R o, σ = sh da x tb cm ml o ∧ o 0 = some (.ref a) ∧ Cr K C x da tb cm ml ds G L M ta R i) ⟨L, _, _, _, fun i => if i = 0 then some (.ref a) else none, rfl, rfl, X0⟩ ?_ ?_
    · rintro i σ G hi ⟨L, M, ta, R, o, rfl, ho0, X⟩
      have hi' : i ≤ 6 := by omega
      have hin := X.inst
      refine ⟨by show 0 ≤ sizeLine; decide, fun q nq => ⟨by show 2 ≤ sizeLine; decide, fun z nz => ?_⟩⟩
      have sq := same_new (o := .lst []) nq
      have sz := same_new (o := .tup [.str "object", .ref q]) nz
      have sG := sq.trans sz
      have WG := X.w.same sG
      refine ⟨_, rfl, _, rfl, L .inst, L .own, _, by rw [hin], WG.at_ .inst trivial, f_no (by decide +kernel), L, R, by rw [hin]; rfl, WG, by rw [X.nn]; omega, fun G2 L' v' W2 e1 e2 kp hv => ?_⟩
      rw [X.nn] at e1 e2 kp hv
      obtain ⟨htb, X2⟩ := X.add (c := .obj 0 []) (.inl rfl) nq (sq.free nz) sG (sz _ _ upd_same) upd_same W2 e1 e2 kp
      obtain ⟨av, rfl, tv⟩ := hv
      refine ⟨av, _, 1, .int (i : Int), rfl, rfl, tv.sq, atI_nat (j := 1) rfl, tb, _, rfl, DPut.k (k := Sum.inl (i : Int)) htb (by show (tabD ta i).length < _; unfold tabD; rw [List.length_map, List.length_range, sizeLine_eq]; omega), ?_⟩
      exact ⟨L', _, _, _, o_ o 6 (some (.int (0 + (i : Int)))), rfl, ho0, X2⟩
    rintro σ G ⟨L, M, ta, R, o, rfl, ho0, X⟩
    obtain ⟨n1, en1⟩ : ∃ n1 : Nat, n1 = (2 + r).toNat := ⟨_, rfl⟩
    rw [← en1] at X
    have hn1 : 2 ≤ n1 ∧ n1 ≤ 6 := by omega
    -- lists
    refine ⟨_, rfl, da, ds, 1, 3, rfl, SqL.of X.draws, dok, by decide, by decide, by decide, fun r' r0' r1' => ⟨_, _, rfl, rfl, _, rfl, (rngB (by omega) (by omega)).1, (rngB (by omega) (by omega)).2, ?_⟩⟩
    refine for_range (lo := 0) (fun i σ G => ∃ L M ta R o, σ = sh da x tb cm ml o ∧ o 0 = some (.ref a) ∧ Cr K C x da tb cm ml ds G L M ta R (n1 + i)) ⟨L, _, _, _, o, rfl, ho0, X⟩ ?_ ?_
    · rintro i σ G hi ⟨L, M, ta, R, o, rfl, ho0, X⟩
      have hi' : i ≤ 3 := by omega
      have hin := X.inst
      refine ⟨by show 0 ≤ sizeLine; decide, fun q nq => ⟨by show 2 ≤ sizeLine; decide, fun z nz => ?_⟩⟩
      have sq := same_new (o := .lst []) nq
      have sz := same_new (o := .tup [.str "list", .ref q]) nz
      have sG := sq.trans sz
      have WG := X.w.same sG
      refine ⟨_, rfl, _, rfl, L .inst, L .own, _, by rw [hin], WG.at_ .inst trivial, f_no (by decide +kernel), by show 0 ≤ sizeLine; decide, fun l nl => ?_⟩
      have sl := same_new (o := .lst []) nl
      refine ⟨L, R, l, [], by rw [hin]; rfl, WG.same sl, SqL.of upd_same, (fun p hp => nomatch hp), by rw [X.nn]; omega, fun G2 L' v' W2 e1 e2 kp hv => ?_⟩
      rw [X.nn] at e1 e2 kp hv
      obtain ⟨htb, X2⟩ := X.add (c := .lst []) (.inr rfl) nq (sq.free nz) (sG.trans sl) (sl _ _ (sz _ _ upd_same)) (sl _ _ upd_same) W2 e1 e2 kp
      obtain ⟨av, rfl, tv⟩ := hv
      refine ⟨av, _, 1, .int ((n1 + i : Nat) : Int), rfl, rfl, tv.sq, atI_nat (j := 1) rfl, tb, _, rfl, DPut.k (k := Sum.inl ((n1 + i : Nat) : Int)) htb (by show (tabD ta (n1 + i)).length < _; unfold tabD; rw [List.length_map, List.length_range, sizeLine_eq]; omega), ?_⟩
      exact ⟨L', _, _, _, o_ o 6 (some (.int (0 + (i : Int)))), rfl, ho0, X2⟩
    rintro σ G ⟨L, M, ta, R, o, rfl, ho0, X⟩
    obtain ⟨n, en⟩ : ∃ n : Nat, n = n1 + (1 + r').toNat := ⟨_, rfl⟩
    rw [← en] at X
    have hn : 3 ≤ n ∧ n ≤ 9 := by omega
    clear en en1 hn1 r0 r1 r0' r1'
    have htab : G tb = some (.dK (tabD ta n)) := by rw [← X.tb, X.tab.at_ .tab trivial]; show some (HO.dK (tabD ta R.cells.length)) = _; rw [X.nn]
    -- refs
    refine ⟨_, rfl, tb, _, (List.range n).map (fun (i : Nat) => (i : Int)), rfl, .inl htab, by unfold tabD; rw [List.map_map, List.map_map]; rfl, by rw [List.length_map, List.length_range]; omega, fun ys sp hperm hsort hsp => ⟨sp, rfl, ⟨_, SqL.of upd_same⟩, fun rf hrf => ?_⟩⟩
    have hys : ys = (List.range n).map (fun (i : Nat) => (i : Int)) := by
      refine List.Perm.eq_of_pairwise (le := fun a b => a ≤ b) (fun a b _ _ h1 h2 => Int.le_antisymm h1 h2) hsort ?_ hperm
      rw [List.pairwise_map]
      exact List.Pairwise.imp (fun h => by omega) List.pairwise_lt_range
    subst hys
    have ssp := same_new (o := .lst (((List.range n).map (fun (i : Nat) => (i : Int))).map V.int)) hsp
    have hxs : (upd G sp (.lst (((List.range n).map (fun (i : Nat) => (i : Int))).map V.int))) sp = some (.lst (((List.range n).map (fun (i : Nat) => (i : Int))).map V.int)) := upd_same
    have X := X.same ssp
    generalize (upd G sp (.lst (((List.range n).map (fun (i : Nat) => (i : Int))).map V.int))) = G1 at X hxs hrf
    refine lc_list (K := K) (a := sp) (xs := ((List.range n).map (fun (i : Nat) => (i : Int))).map V.int) (fun j G' => Same G1 G' ∧ ∃ ps : List VV, ps.length = j ∧ G' rf = some (.lst (ps.map (·.1))) ∧ (∀ (i : Nat) (p : VV), ps[i]? = some p → p.2 = .ref (i : Int)) ∧ (∀ p ∈ ps, Vl K G' p.1 p.2))
      ⟨same_new hrf, [], rfl, upd_same, (fun i p h => nomatch h), (fun p h => nomatch h)⟩ (fun j G' _ h => SqL.of (h.1 _ _ hxs)) ?_ ?_
    · rintro j y G' hy ⟨sG', ps, hpl, hD, hri, hrv⟩
      have hj : j < n := by have := lt_of hy; rw [List.length_map, List.length_map, List.length_range] at this; exact this
      rw [List.getElem?_map, List.getElem?_map, List.getElem?_range hj] at hy
      obtain rfl := Option.some.inj hy
      refine ⟨rfl, yes_ok (iteT ⟨_, rfl, by show 2 ≤ sizeLine; decide, fun t nt => ?_⟩)⟩
      have st := same_new (o := .tup [.str "ref", .int (j : Int)]) nt
      have nrt : rf ≠ t := ne_of_none hD nt
      refine ⟨_, st _ _ hD, by rw [List.length_map, hpl, sizeLine_eq]; omega, fun b o z => ?_, ps ++ [(.ref t, .ref (j : Int))], by rw [List.length_append, hpl]; rfl, by rw [upd_same, List.map_append]; rfl, fun i p hp => ?_, fun p hp => ?_⟩
      · rw [upd_ne (fun q => by subst q; rw [hrf] at z; cases z)]
        exact st _ _ (sG' _ _ z)
      · by_cases q : i < ps.length
        · rw [List.getElem?_append_left q] at hp
          exact hri i p hp
        · have e : i = ps.length := by have := lt_of hp; rw [List.length_append] at this; simp only [List.length_singleton] at this; omega
          subst e
          rw [List.getElem?_append_right (Nat.le_refl _), Nat.sub_self] at hp
          obtain rfl := Option.some.inj hp
          rw [hpl]
      · have kt : ∀ {o : HO}, KeepT (upd G' t (.tup [.str "ref", .int (j : Int)])) (upd (upd G' t (.tup [.str "ref", .int (j : Int)])) rf o) := fun {o} b xs z => by
          rw [upd_ne (fun q => by subst q; rw [st _ _ hD] at z; cases z)]; exact z
        rcases List.mem_append.mp hp with z | z
        · exact ((hrv p z).keep (KeepT.of st)).keep kt
        · obtain rfl := List.mem_singleton.mp z
          exact Vl.keep ⟨t, rfl, .inl upd_same⟩ kt
    rintro G2 ⟨sG2, rps, hpl, hD, hri, hrv⟩
    rw [List.length_map, List.length_map, List.length_range] at hpl
    have orf : (∀ l, live n l → L l ≠ rf) ∧ (∀ l, tlive R l → M l ≠ rf) := ⟨fun l hl => X.w.newL hrf l (by rw [X.nn]; exact hl), fun l hl z => by
      have q := X.tab.at_ l hl
      rw [z, hrf] at q
      cases q⟩
    have d2 : rf ≠ cm := fun z => by
      have q := X.hcm
      rw [← z, hrf] at q
      cases q
    have X2 := X.same sG2
    have S := X2.start (by omega) hn.2 hD hpl hri hrv orf d1 d2 d3 dok
    have W := X2.w
    have hin := X2.inst
    -- the turns
    refine ⟨_, rfl, da, ds, 2, 41, rfl, SqL.of X2.draws, dok, by decide, by decide, by decide, fun r r0 r1 => ⟨_, rfl, (rngB (by omega) (by omega)).1, (rngB (by omega) (by omega)).2, ?_⟩⟩
    generalize hk : (⟨L, ta, n, da, ds, rf, rps, cm, ml, tb⟩ : Cn) = k at S
    have ekL : k.L = L := by rw [← hk]
    have ekn : k.n = n := by rw [← hk]
    have eσ : (sh da x tb cm ml o).set 7 (some (.ref rf)) = sg k o := by rw [← hk, ← hin]; rfl
    rw [← ekL] at W
    refine for_range (lo := 0) (fun i σ G => ∃ o M R N es came, σ = sg k o ∧ WorldAt K C G k.L R ∧ LS K k G M R N es came (3 * i)) ⟨o, M, R, _, _, _, eσ, W, S⟩ ?_ ?_
    · rintro i σ G hi ⟨o, M, R, N, es, came, rfl, W, S⟩
      exact kBd k _ (o_ o 8 (some (.int (0 + (i : Int))))) G M R N es came (3 * i) (0 + (i : Int)) W S (by omega) rfl (by omega) (by omega) (fun o' G' M' R' N' es' came' W' S' => ⟨o', M', R', N', es', came', rfl, W', S'⟩)
    rintro σ G3 ⟨o, M, R, N, es, came, rfl, W, S⟩
    have hn9 := S.n9
    have hp0 := S.pos
    have hlen' := S.rlen
    have hnR := S.n
    have hpd : ∀ p ∈ k.rps, Drawn R.cells.length p.2 := fun p hp => by
      obtain ⟨i, hi, e⟩ := List.getElem_of_mem hp
      have := S.ri i p (by rw [← e]; exact List.getElem?_eq_getElem hi)
      rw [this]
      exact ⟨i, by rw [hnR]; omega, rfl⟩
    -- dumped
    refine ⟨_, rfl, _, rfl, k.L, R, N, k.rf, k.rps, 10, rfl, by omega, W, S.named, S.shorts, by omega, SqL.of S.refs, by omega, fun p hp => ⟨S.rv p hp, (hpd p hp).tk, (hpd p hp).short⟩, fun H4 p4 s4 n4 h4 => ?_⟩
    have S4 := S.same s4
    have W4 := W.same s4
    have nrm : k.rf ≠ k.ml := fun z => by
      have h1 := S.refs
      rw [z, S.met] at h1
      have h2 := congrArg (fun o => match o with | some (HO.lst l) => l.length | _ => 0) h1
      simp only [List.length_map, List.length_nil] at h2
      omega
    have np4 : p4 ≠ k.ml := fun z => by rw [z, S.met] at n4; cases n4
    refine ⟨_, rfl, k.rf, rfl, ⟨_, SqL.of S4.refs⟩, fun D nD => ?_⟩
    have nDm : D ≠ k.ml := fun z => by rw [z, S4.met] at nD; cases nD
    have gp : ∀ j, Good R.cells (seqM (dV R.cells N 10) [] ((k.rps.map (·.2)).take j)).2 := fun j => (good_seq (fun met d g => good_dV (N := N) 10 met d g) _ _ ⟨List.nodup_nil, (fun i h => nomatch h)⟩).1
    refine lc_list (K := K) (a := k.rf) (xs := k.rps.map (·.1)) (fun j G => But k.ml H4 G ∧ G D = some (.lst ((seqM (dV R.cells N 10) [] ((k.rps.map (·.2)).take j)).1.map V.str)) ∧ G k.ml = some (.lst (metV (seqM (dV R.cells N 10) [] ((k.rps.map (·.2)).take j)).2))) ⟨But.of (same_new nD), upd_same, same_new nD _ _ S4.met⟩ (fun j G _ h => SqL.of (h.1 _ _ S4.refs nrm)) ?_ ?_
    · rintro j y G hy ⟨bt, hGD, hGm⟩
      have hj : j < k.rps.length := by have := lt_of hy; rw [List.length_map] at this; exact this
      have gj := List.getElem?_eq_getElem hj
      rw [get_fst gj] at hy
      obtain rfl := Option.some.inj hy
      have ktG : KeepT H4 G := bt.tups S4.met
      have hmem : k.rps[j] ∈ k.rps := List.getElem_mem hj
      refine ⟨rfl, yes_ok (iteT ⟨_, rfl, _, rfl, _, rfl, k.L, M, k.ta, R, N, _, _, k.ml, _, by rw [S.tb]; rfl, S4.tab.but (S.outs _ (.inr (.inr (.inl rfl)))).2.1 bt ktG, (S.outs _ (.inr (.inr (.inl rfl)))).2.1, fun c hc p hp => (W4.vs c hc p hp).keep ktG, S.allDrawn, S.named.short, fun c hc sh ps e => (S.named.nm c hc sh ps e).2, (S4.rv _ hmem).keep ktG, hpd _ hmem, hGm, gp j, by omega, fun H2 b2 m2 => ?_⟩)⟩
      refine ⟨_, b2 _ _ hGD nDm, by rw [List.length_map, seq_many, List.length_take, sizeLine_eq]; omega, ?_, ?_, ?_⟩
      · exact fun q o e nq => by
          by_cases z : q = D
          · subst z; rw [nD] at e; cases e
          · rw [upd_ne z]; exact b2 _ _ (bt _ _ e nq) nq
      · rw [upd_same, take_ds k.rps gj, seqM_snoc, List.map_append]; rfl
      · rw [upd_ne nDm.symm, m2, take_ds k.rps gj, seqM_snoc]
    rintro G5 ⟨bt, hGD, _⟩
    rw [List.length_map, List.take_of_length_le (by rw [List.length_map]; exact Nat.le_refl _)] at hGD
    have kt5 : KeepT H4 G5 := bt.tups S4.met
    have h45 := bt _ _ h4 np4
    have hsk : ∀ t ∈ (seqM (dV R.cells N 10) [] (k.rps.map (·.2))).1, PyData.strOk t = true := seq_sOk (p := Drawn R.cells.length) (fun met d h => dV_sOk (fun sh x hx => S.names.2 sh x hx) S.allDrawn.dr 10 met d h) _ _ (fun d hd => by obtain ⟨p, hp, rfl⟩ := List.mem_map.mp hd; exact hpd p hp)
    refine ⟨strD _, strD _, strD_dp h45, strD_dp hGD, strD_shaped hsk, strD_shaped hsk, false, congrArg V.bl (by rw [strD_eqv, decide_eq_true rfl]; rfl), iteF ?_⟩
    have outM := (S.outs _ (.inr (.inr (.inl rfl)))).2.1
    have outL := (S.outs _ (.inr (.inr (.inl rfl)))).1
    have T5 := S4.tab.but outM bt kt5
    have W5 : WorldAt K C G5 k.L R := W4.keep (fun l hl => by rw [W4.at_ l hl]; exact bt _ _ (W4.at_ l hl) (outL l (by rw [← hnR]; exact hl))) kt5
    have R5 := bt _ _ S4.refs nrm
    have V5 : ∀ p ∈ k.rps, Vl K G5 p.1 p.2 := fun p hp => (S4.rv p hp).keep kt5
    have C5 : CameAt K G5 k.cm es came := by
      refine ⟨bt _ _ S4.ca.ls (fun z => (S.outs _ (.inr (.inr (.inl rfl)))).2.2 z.symm), S4.ca.len, fun i e c a d => ?_⟩
      obtain ⟨h1, h2, h3⟩ := S4.ca.at_ i e c a d
      refine ⟨h1.keep kt5, bt _ _ h2 (fun z => ?_), h3.keep kt5⟩
      rw [z, S4.met] at h2
      obtain ⟨j, j0, jl, ej⟩ := S.pl.paths c (List.mem_of_getElem? d)
      have e0 : c.1 = [] := by
        cases hc : c.1 with
        | nil => rfl
        | cons y r => rw [hc] at h2; cases h2
      have ch := S.pl.all j jl
      rw [ej, e0] at ch
      cases ch
      exact absurd j0 (Nat.lt_irrefl 0)
    -- is_world
    refine ⟨_, rfl, k.L, R, rfl, W5, S.sound, fun H6 s6 => ⟨true, true, rfl, rfl, false, rfl, iteF ?_⟩⟩
    have W6 := W5.same s6
    have T6 := T5.same s6
    have C6 := C5.same s6
    have hb9 := S.b9
    have hbC := S.bC
    refine ⟨_, rfl, _, rfl, _, rfl, k.L, M, k.ta, R, N, k.cm, es, came, by rw [S.tb]; rfl, W6, T6, C6, S.plain, S.allDrawn, by omega, S.names.1, S.names.2, by omega, S.cames, fun H7 s7 => ⟨true, rfl, iteF ?_⟩⟩
    have s57 := s6.trans s7
    have W7 := W5.same s57
    -- joined
    refine ⟨by show 2 ≤ sizeLine; decide, fun t1 n1 => ⟨by show 2 ≤ sizeLine; decide, fun t2 n2 => ?_⟩⟩
    have u1 := same_new (o := .tup [.str "text", .str "a"]) n1
    have u2 := same_new (o := .tup [.str "text", .str "b"]) n2
    have u12 := u1.trans u2
    have va : Vl K (upd (upd H7 t1 (.tup [.str "text", .str "a"])) t2 (.tup [.str "text", .str "b"])) (.ref t1) (.text "a") := ⟨t1, rfl, .inl (u2 _ _ upd_same)⟩
    have vb : Vl K (upd (upd H7 t1 (.tup [.str "text", .str "a"])) t2 (.tup [.str "text", .str "b"])) (.ref t2) (.text "b") := ⟨t2, rfl, .inl upd_same⟩
    refine ⟨"+", _, _, .text "a", .text "b", rfl, .inl rfl, va, vb, by show ("a" : Str).length ≤ _; decide +kernel, by show ("b" : Str).length ≤ _; decide +kernel, ?_⟩
    rw [ab_join]
    intro H8 v8 s8 hv8
    refine ⟨by show 2 ≤ sizeLine; decide, fun t3 n3 => ?_⟩
    have u3 := same_new (o := .tup [.str "text", .str "ab"]) n3
    have v3 : Vl K (upd H8 t3 (.tup [.str "text", .str "ab"])) (.ref t3) (.text "ab") := ⟨t3, rfl, .inl upd_same⟩
    have hv8 := hv8.keep (KeepT.of u3)
    have s79 := u12.trans (s8.trans u3)
    have abok : (Val.text "ab").ok := by show PyData.strOk ("ab" : Str) = true; decide +kernel
    generalize (upd H8 t3 (.tup [.str "text", .str "ab"])) = H9 at v3 hv8 s79
    refine ⟨_, _, hv8.dp, v3.dp, Val.shaped _ abok, Val.shaped _ abok, false, congrArg V.bl (by rw [eqvVal, decide_eq_true rfl]; rfl), iteF ?_⟩
    have W9 := W7.same s79
    have s59 := s57.trans s79
    -- function_of
    refine ⟨_, rfl, k.L .inst, k.L .own, _, rfl, W9.at_ .inst trivial, f_no (by decide +kernel), by show 2 ≤ sizeLine; decide, fun t4 n4 => ?_⟩
    have u4 := same_new (o := .tup [.str "fun", .int 2]) n4
    refine ⟨k.L, R, _, .fn 2, rfl, W9.same u4, ⟨t4, rfl, .inl upd_same⟩, (fun z e => nomatch e), rfl, false, rfl, iteF ?_⟩
    have s5x := s59.trans u4
    have W10 := W5.same s5x
    have hg0 : 0 < k.rps.length := by omega
    have g0 := List.getElem?_eq_getElem hg0
    have hm0 : k.rps[0] ∈ k.rps := List.getElem_mem hg0
    have e0 := S.ri 0 _ g0
    have v0 := (V5 _ hm0).keep (KeepT.of s5x)
    rw [e0] at v0
    have hc0 := List.getElem?_eq_getElem (show 0 < R.cells.length by omega)
    refine ⟨_, rfl, k.L .inst, k.L .own, _, rfl, W10.at_ .inst trivial, f_no (by decide +kernel), _, rfl, k.rf, _, 0, k.rps[0].1, rfl, rfl, SqL.of (s5x _ _ R5), atI_nat (j := 0) (get_fst g0), k.L, R, k.rps[0].1, .ref ((0 : Nat) : Int), rfl, W10, v0, In_ref hc0, rfl, true, rfl, iteT ⟨rfl, fun H11 s11 => kQ H11⟩⟩
end
end My
namespace My
open PySem PySem.Spec PyProof.Rows L2
/-- a def where it stands -/
structure DefAt (K : PySem.W.Frag) (mg : Str → Option Value) (x : Str) (st : Stmt) : Prop where
  ex : ∃ (f : Addr) (fd : FuncData), Fun K x x st f fd ∧ mg x = some (.ref f)
theorem def_mk {K : PySem.W.Frag} {h : Heap} {mg : Str → Option Value} (X : K.In h) (G : h.Ns mainGlobals mg) {x : Str} {st : Stmt} {f : Addr} {oc : Value} {od an : Option Addr} {osl : Array (Option Value)} {kV doc pm cdv ct : Value}
    (a : PySem.W.nsIn K mainGlobals x = some (some (.ref f)))
    (l : K.lookup f = some ⟨oc, od, .func (PySem.W.fnOf x x (defArgs st) (defBody st) (defScope st) .none kV doc pm an cdv ct), osl⟩)
    (c : PySem.W.codeIn K cdv x = true) (k : PySem.W.keepIn K (.ref f) = true) : DefAt K mg x st := ⟨⟨f, _, fun_mk l c k, PySem.W.mg_of X G a⟩⟩
/-- a method where it stands -/
structure MetAt (K : PySem.W.Frag) (C : Addr) (m qual : Str) (st : Stmt) : Prop where
  ex : ∃ (f : Addr) (fd : FuncData), Fun K m qual st f fd ∧ Meth K C m f
theorem met_mk {K : PySem.W.Frag} {C : Addr} {m qual : Str} {st : Stmt} {f : Addr} {oc : Value} {od an : Option Addr} {osl : Array (Option Value)} {kV doc pm cdv ct : Value}
    (a : PySem.W.findIn K (.ref C) m = some (some (.ref f))) (i : PySem.W.isFn K (.ref f) = true)
    (l : K.lookup f = some ⟨oc, od, .func (PySem.W.fnOf m qual (defArgs st) (defBody st) (defScope st) .none kV doc pm an cdv ct), osl⟩)
    (c : PySem.W.codeIn K cdv qual = true) (k : PySem.W.keepIn K (.ref f) = true) : MetAt K C m qual st := ⟨⟨f, _, fun_mk l c k, ⟨a, i, k⟩⟩⟩
structure ClsAt (K : PySem.W.Frag) (C : Addr) : Prop where
  cl : Cls K C
  makes : PySem.W.makesIn K C = true
  kp : PySem.W.keepIn K (.ref C) = true
theorem ClsAt.mk' {K : PySem.W.Frag} {C f : Addr} {m : Str} (c : ClsAt K C) (h : Meth K C "__init__" f) : Mk K C f := ⟨c.makes, h.at_, h.fn, c.kp⟩
structure NonA (mg : Str → Option Value) : Prop where
  len_ : mg "len" = none
  int_ : mg "int" = none
  str_ : mg "str" = none
  range_ : mg "range" = none
  sorted_ : mg "sorted" = none
  min_ : mg "min" = none
  abs_ : mg "abs" = none
  list_ : mg "list" = none
  enumerate_ : mg "enumerate" = none
  isinstance_ : mg "isinstance" = none
  all_ : mg "all" = none
  set_ : mg "set" = none
theorem non_mk {K : PySem.W.Frag} {h : Heap} {mg : Str → Option Value} (X : K.In h) (G : h.Ns mainGlobals mg) (z0 : PySem.W.nsIn K mainGlobals "len" = some none) (z1 : PySem.W.nsIn K mainGlobals "int" = some none) (z2 : PySem.W.nsIn K mainGlobals "str" = some none) (z3 : PySem.W.nsIn K mainGlobals "range" = some none) (z4 : PySem.W.nsIn K mainGlobals "sorted" = some none) (z5 : PySem.W.nsIn K mainGlobals "min" = some none) (z6 : PySem.W.nsIn K mainGlobals "abs" = some none) (z7 : PySem.W.nsIn K mainGlobals "list" = some none) (z8 : PySem.W.nsIn K mainGlobals "enumerate" = some none) (z9 : PySem.W.nsIn K mainGlobals "isinstance" = some none) (z10 : PySem.W.nsIn K mainGlobals "all" = some none) (z11 : PySem.W.nsIn K mainGlobals "set" = some none) : NonA mg :=
  ⟨PySem.W.mg_none_of X G z0, PySem.W.mg_none_of X G z1, PySem.W.mg_none_of X G z2, PySem.W.mg_none_of X G z3, PySem.W.mg_none_of X G z4, PySem.W.mg_none_of X G z5, PySem.W.mg_none_of X G z6, PySem.W.mg_none_of X G z7, PySem.W.mg_none_of X G z8, PySem.W.mg_none_of X G z9, PySem.W.mg_none_of X G z10, PySem.W.mg_none_of X G z11⟩
theorem kd_mk {K : PySem.W.Frag} {h : Heap} {mg : Str → Option Value} (X : K.In h) (G : h.Ns mainGlobals mg) {z1 : Int} {t1 t2 t3 t4 : PySem.Tok} {a : Addr} {o : Obj} {its : Array Value} {n : Nat}
    (k1 : PySem.W.nsIn K mainGlobals "LEAST_SMALL" = some (some (.int z1 t1))) (k2 : PySem.W.nsIn K mainGlobals "MOST_SMALL" = some (some (.int 32767 t2))) (k3 : PySem.W.nsIn K mainGlobals "MOST_GREAT" = some (some (.int 1000000000 t3))) (k4 : PySem.W.nsIn K mainGlobals "MOST_LETTERS" = some (some (.int 40 t4)))
    (k5 : PySem.W.nsIn K mainGlobals "NULL" = some (some (.ref a))) (l : K.lookup a = some o) (hc : o.cls = .type "tuple") (hd : o.data = .seq its n) (hz : its.size ≤ sizeLine) (hv : Vals Val.nul.enc its.toList) (e1 : z1 = -32768) : Kd K mg :=
  ⟨⟨t1, by rw [← e1]; exact PySem.W.mg_of X G k1⟩, ⟨t2, PySem.W.mg_of X G k2⟩, ⟨t3, PySem.W.mg_of X G k3⟩, ⟨t4, PySem.W.mg_of X G k4⟩, ⟨a, PySem.W.mg_of X G k5, fun _ => .inr ⟨o, its, n, l, hc, hd, hz, hv⟩⟩⟩
theorem mi_mk {K : PySem.W.Frag} {h : Heap} {mg : Str → Option Value} (X : K.In h) (G : h.Ns mainGlobals mg) {z : Int} {t : PySem.Tok} (a : PySem.W.nsIn K mainGlobals "MOST_ITEMS" = some (some (.int z t))) (e : z = 30000) : ∃ t, mg "MOST_ITEMS" = some (.int 30000 t) := ⟨t, by rw [← e]; exact PySem.W.mg_of X G a⟩
theorem wt_mk {K : PySem.W.Frag} {h : Heap} {mg : Str → Option Value} {C : Addr} (X : K.In h) (G : h.Ns mainGlobals mg) (cl : Cls K C) (a1 : PySem.W.findIn K (.ref C) "shapes" = some none) (a2 : PySem.W.findIn K (.ref C) "kinds" = some none) (a3 : PySem.W.findIn K (.ref C) "children" = some none) (a4 : PySem.W.findIn K (.ref C) "widened" = some none)
    (a5 : PySem.W.findIn K (.ref C) "cells" = some none) (a6 : PySem.W.findIn K (.ref C) "fresh" = some none) (a7 : PySem.W.findIn K (.ref C) "printed" = some none) (g : PySem.W.nsIn K mainGlobals "World" = some (some (.ref C))) : WT K mg C := ⟨cl, a1, a2, a3, a4, a5, a6, a7, PySem.W.mg_of X G g⟩
theorem dt_mk {K : PySem.W.Frag} {h : Heap} {mg : Str → Option Value} {C : Addr} (X : K.In h) (G : h.Ns mainGlobals mg) (cl : Cls K C) (a1 : PySem.W.findIn K (.ref C) "world" = some none) (a2 : PySem.W.findIn K (.ref C) "met" = some none) (g : PySem.W.nsIn K mainGlobals "Dump" = some (some (.ref C))) : DT K mg C := ⟨cl, a1, a2, PySem.W.mg_of X G g⟩
theorem txt_mk {P : Program} {K : PySem.W.Frag} {mg : Str → Option Value} {C fI : Addr} {nm q : Str} {N : Addr} {bs bm : List Value} {sn : List Str} {sub : List Value} {ab : Bool} {col : Option Bool} {dd : Option Addr} {m0 m1 m2 m3 m5 : Option Value}
    {oc : Value} {od : Option Addr} {qn : Str} {doc pm ct : Value} {an : Option Addr} {cc cda : Addr} {osl : Array (Option Value)} {p1 p2 : Pos} {ccl : Value} {cdd : Option Addr} {vs : Array Value} {file : Str} {tf : PySem.Tok} {ccs : Array (Option Value)} {cl : Value} {cld : Option Addr} {csl : Array (Option Value)}
    (xL : K.lookup C = some (excClassObj nm q C N bs bm true sn sub ab col dd m0 m1 m2 m3 m5 "Exception.__new__")) (xb : bm = PySem.ESX.exTail)
    (al : PySem.W.alongIn K "__init__" (((Value.ref C :: bm).dropWhile (· != .ref C)).drop 1) = some (some (.builtin "Exception.__init__")))
    (sa : PySem.W.findIn K (.ref C) "__setattr__" = some (some (.builtin "object.__setattr__"))) (ga : PySem.W.findIn K (.ref C) "__getattribute__" = some (some (.builtin "BaseException.__getattribute__"))) (gg : PySem.W.findIn K (.ref C) "__getattr__" = some none)
    (noN : PySem.W.findIn K (.ref C) "value" = some none) (iC : PySem.W.findIn K (.ref C) "__init__" = some (some (.ref fI))) (tI : PySem.W.typeIn K (.ref fI) = some (.type "function")) (kC : PySem.W.keepIn K (.ref C) = true)
    (exC : PySem.W.subIn K (.ref C) (.type "BaseException") = some true) (veC : PySem.W.subIn K (.ref C) (.type "Exception") = some true) (tyC : PySem.W.typeIn K (.ref C) = some (.type "type")) (hdC : PySem.W.hasDictIn K C = true) (cD : (PySem.W.clsIn K C).isSome = true) (sD : PySem.W.mroIn K C (.ref C) = some true)
    (tp : PySem.W.nsIn K cStatics "thirdparty.any" = some none) (su : PySem.W.nsIn K mainGlobals "super" = some none)
    (l : K.lookup fI = some ⟨oc, od, .func (PySem.W.ksFn "__init__" qn (PySem.ExcV.iArgs p1 p2) PySem.ExcV.iBody PySem.ExcV.iScope .none .none doc pm an (.ref cda) ct cc), osl⟩) (c : PySem.W.codeIn K (.ref cda) qn = true)
    (lc : K.lookup cda = some ⟨ccl, cdd, .fields vs, ccs⟩) (v2 : vs[2]? = some (.str file tf)) (fl : ((P.main.file : Str) == file) = true) (ll : K.lookup cc = some ⟨cl, cld, .cell (some (.ref C)), csl⟩) : PySem.ExcV.Txt P K mg C C fI :=
  { cls := ⟨nm, q, N, bs, bm, sn, sub, ab, col, dd, m0, m1, m2, m3, m5, xL, xb, al⟩, sa := sa, ga := ga, gg := gg, noN := noN, iC := iC, tI := tI, kC := kC, exC := exC, veC := veC, tyC := tyC, hdC := hdC, cD := cD, sD := sD, tp := tp, su := su
    fn := ⟨oc, od, qn, doc, pm, ct, an, cc, cda, osl, p1, p2, l, c, ⟨ccl, cdd, vs, file, tf, ccs, lc, v2, fl⟩, ⟨cl, cld, csl, ll⟩⟩ }
theorem all_mk {P : Program} {w : World} {K : PySem.W.Frag} {h : Heap} {mg : Str → Option Value} {fa C CT CD fI : Addr} (X : K.In h) (G : h.Ns mainGlobals mg) (hfa : mg "law" = some (.ref fa)) (Z : NonA mg) (N : Kd K mg) (T : WT K mg C) (TD : DT K mg CD) (kW : ClsAt K C) (kD : ClsAt K CD) (tx : PySem.ExcV.Txt P K mg CT CT fI) (gT : mg "Thrown" = some (.ref CT))
    (sup : (P.main.scope.names.lookup ("super" : Str)).isSome = false) (te : PySem.W.exmOne K (.ref CT) (.ref CT) = some true) (hmi : ∃ t, mg "MOST_ITEMS" = some (.int 30000 t))
    (mi : MetAt K C "__init__" "World.__init__" (sW 0))
    (msl : MetAt K C "slot_of" "World.slot_of" (sW 1))
    (mow : MetAt K C "owner" "World.owner" (sW 2))
    (mch : MetAt K C "child" "World.child" (sW 3))
    (mna : MetAt K C "names_of" "World.names_of" (sW 4))
    (mgr : MetAt K C "grown" "World.grown" (sW 5))
    (mno : MetAt K C "note" "World.note" (sW 6))
    (mpc : MetAt K C "put_cell" "World.put_cell" (sW 7))
    (mce : MetAt K C "cell" "World.cell" (sW 8))
    (mnob : MetAt K C "new_object" "World.new_object" (sW 9))
    (mnl : MetAt K C "new_list" "World.new_list" (sW 10))
    (mlo : MetAt K C "load" "World.load" (sW 12))
    (mst : MetAt K C "store" "World.store" (sW 13))
    (mgw : MetAt K C "grow" "World.grow" (sW 14))
    (mit : MetAt K C "item" "World.item" (sW 15))
    (msi : MetAt K C "setitem" "World.setitem" (sW 16))
    (mle : MetAt K C "length" "World.length" (sW 17))
    (map : MetAt K C "append" "World.append" (sW 18))
    (mki : MetAt K C "kind" "World.kind" (sW 19))
    (mfo : MetAt K C "function_of" "World.function_of" (sW 20))
    (mso : MetAt K C "shape_of" "World.shape_of" (sW 22))
    (mou : MetAt K C "out" "World.out" (sW 23))
    (mge : MetAt K C "get" "World.get" (sW 24))
    (mpu : MetAt K C "put" "World.put" (sW 25))
    (mai : MetAt K C "at_index" "World.at_index" (sW 26))
    (mol : MetAt K C "of_list" "World.of_list" (sW 27))
    (mgn : MetAt K C "generic" "World.generic" (sW 28))
    (mdi : MetAt K CD "__init__" "Dump.__init__" (sD 0))
    (mdt : MetAt K CD "text" "Dump.text" (sD 1))
    (mdo : MetAt K CD "opened" "Dump.opened" (sD 2))
    (mdb : MetAt K CD "between" "Dump.between" (sD 3))
    (mdp : MetAt K CD "plain" "Dump.plain" (sD 4))
    (dfsm : DefAt K mg "is_small" sSmall)
    (dfko : DefAt K mg "kind_of" sKindOf)
    (dfsa : DefAt K mg "same" sSame)
    (dfjo : DefAt K mg "joined" sJoined)
    (dfto : DefAt K mg "text_of" sTextOf)
    (dfdu : DefAt K mg "dumped" sDumped)
    (dffi : DefAt K mg "fits" sFits)
    (dfiw : DefAt K mg "is_world" sIsWorld)
    (dfdr : DefAt K mg "_law_draws" sDraws)
    (dfmx : DefAt K mg "_law_mix" sMix)
    (dfdn : DefAt K mg "_law_drawn" sDrawn)
    (dfte : DefAt K mg "_law_told" sTold)
    (dfsg : DefAt K mg "_law_sign" sSign)
    (dfld : DefAt K mg "_law_dump" sLDump)
    (dfls : DefAt K mg "_law_shapes" sSh)
    (dflf : DefAt K mg "_law_full" sFull)
    (dfla : DefAt K mg "law" sLaw) :
    ∃ fd : FuncData, (∀ (s : Shared) (v : Value), BindsTo s fd ⟨[v], []⟩ [("script", v)]) ∧ ∀ base : Heap, K.In base → base.Ns mainGlobals mg → FnOk P w K mg base CX0 12 fa fd ["script"] (spLaw K) := by
  obtain ⟨fi, qi, Fi, Mi⟩ := mi.ex
  obtain ⟨fsl, qsl, Fsl, Msl⟩ := msl.ex
  obtain ⟨fow, qow, Fow, Mow⟩ := mow.ex
  obtain ⟨fch, qch, Fch, Mch⟩ := mch.ex
  obtain ⟨fna, qna, Fna, Mna⟩ := mna.ex
  obtain ⟨fgr, qgr, Fgr, Mgr⟩ := mgr.ex
  obtain ⟨fno, qno, Fno, Mno⟩ := mno.ex
  obtain ⟨fpc, qpc, Fpc, Mpc⟩ := mpc.ex
  obtain ⟨fce, qce, Fce, Mce⟩ := mce.ex
  obtain ⟨fnob, qnob, Fnob, Mnob⟩ := mnob.ex
  obtain ⟨fnl, qnl, Fnl, Mnl⟩ := mnl.ex
  obtain ⟨flo, qlo, Flo, Mlo⟩ := mlo.ex
  obtain ⟨fst, qst, Fst, Mst⟩ := mst.ex
  obtain ⟨fgw, qgw, Fgw, Mgw⟩ := mgw.ex
  obtain ⟨fit, qit, Fit, Mit⟩ := mit.ex
  obtain ⟨fsi, qsi, Fsi, Msi⟩ := msi.ex
  obtain ⟨fle, qle, Fle, Mle⟩ := mle.ex
  obtain ⟨fap, qap, Fap, Map⟩ := map.ex
  obtain ⟨fki, qki, Fki, Mki⟩ := mki.ex
  obtain ⟨ffo, qfo, Ffo, Mfo⟩ := mfo.ex
  obtain ⟨fso, qso, Fso, Mso⟩ := mso.ex
  obtain ⟨fou, qou, Fou, Mou⟩ := mou.ex
  obtain ⟨fge, qge, Fge, Mge⟩ := mge.ex
  obtain ⟨fpu, qpu, Fpu, Mpu⟩ := mpu.ex
  obtain ⟨fai, qai, Fai, Mai⟩ := mai.ex
  obtain ⟨fol, qol, Fol, Mol⟩ := mol.ex
  obtain ⟨fgn, qgn, Fgn, Mgn⟩ := mgn.ex
  obtain ⟨fdi, qdi, Fdi, Mdi⟩ := mdi.ex
  obtain ⟨fdt, qdt, Fdt, Mdt⟩ := mdt.ex
  obtain ⟨fdo, qdo, Fdo, Mdo⟩ := mdo.ex
  obtain ⟨fdb, qdb, Fdb, Mdb⟩ := mdb.ex
  obtain ⟨fdp, qdp, Fdp, Mdp⟩ := mdp.ex
  obtain ⟨afsm, qfsm, Ffsm, gfsm⟩ := dfsm.ex
  obtain ⟨afko, qfko, Ffko, gfko⟩ := dfko.ex
  obtain ⟨afsa, qfsa, Ffsa, gfsa⟩ := dfsa.ex
  obtain ⟨afjo, qfjo, Ffjo, gfjo⟩ := dfjo.ex
  obtain ⟨afto, qfto, Ffto, gfto⟩ := dfto.ex
  obtain ⟨afdu, qfdu, Ffdu, gfdu⟩ := dfdu.ex
  obtain ⟨affi, qffi, Fffi, gffi⟩ := dffi.ex
  obtain ⟨afiw, qfiw, Ffiw, gfiw⟩ := dfiw.ex
  obtain ⟨afdr, qfdr, Ffdr, gfdr⟩ := dfdr.ex
  obtain ⟨afmx, qfmx, Ffmx, gfmx⟩ := dfmx.ex
  obtain ⟨afdn, qfdn, Ffdn, gfdn⟩ := dfdn.ex
  obtain ⟨afte, qfte, Ffte, gfte⟩ := dfte.ex
  obtain ⟨afsg, qfsg, Ffsg, gfsg⟩ := dfsg.ex
  obtain ⟨afld, qfld, Ffld, gfld⟩ := dfld.ex
  obtain ⟨afls, qfls, Ffls, gfls⟩ := dfls.ex
  obtain ⟨aflf, qflf, Fflf, gflf⟩ := dflf.ex
  obtain ⟨afla, qfla, Ffla, gfla⟩ := dfla.ex
  have e := hfa.symm.trans gfla
  cases e
  have ci : Mc K C "__init__" fi qi ["self"] := ⟨Mi, Fi.binds fun _ _ _ _ _ _ us hl => match us, hl with | [_], _ => rfl⟩
  have csl : Mc K C "slot_of" fsl qsl ["self", "shape", "name"] := ⟨Msl, Fsl.binds fun _ _ _ _ _ _ us hl => match us, hl with | [_, _, _], _ => rfl⟩
  have cow : Mc K C "owner" fow qow ["self", "shape", "k"] := ⟨Mow, Fow.binds fun _ _ _ _ _ _ us hl => match us, hl with | [_, _, _], _ => rfl⟩
  have cch : Mc K C "child" fch qch ["self", "shape", "name"] := ⟨Mch, Fch.binds fun _ _ _ _ _ _ us hl => match us, hl with | [_, _, _], _ => rfl⟩
  have cna : Mc K C "names_of" fna qna ["self", "shape"] := ⟨Mna, Fna.binds fun _ _ _ _ _ _ us hl => match us, hl with | [_, _], _ => rfl⟩
  have cgr : Mc K C "grown" fgr qgr ["self", "shape", "name", "value"] := ⟨Mgr, Fgr.binds fun _ _ _ _ _ _ us hl => match us, hl with | [_, _, _, _], _ => rfl⟩
  have cno : Mc K C "note" fno qno ["self", "shape", "value"] := ⟨Mno, Fno.binds fun _ _ _ _ _ _ us hl => match us, hl with | [_, _, _], _ => rfl⟩
  have cce : Mc K C "cell" fce qce ["self", "value"] := ⟨Mce, Fce.binds fun _ _ _ _ _ _ us hl => match us, hl with | [_, _], _ => rfl⟩
  have cnob : Mc K C "new_object" fnob qnob ["self"] := ⟨Mnob, Fnob.binds fun _ _ _ _ _ _ us hl => match us, hl with | [_], _ => rfl⟩
  have cnl : Mc K C "new_list" fnl qnl ["self", "values"] := ⟨Mnl, Fnl.binds fun _ _ _ _ _ _ us hl => match us, hl with | [_, _], _ => rfl⟩
  have clo : Mc K C "load" flo qlo ["self", "value", "k"] := ⟨Mlo, Flo.binds fun _ _ _ _ _ _ us hl => match us, hl with | [_, _, _], _ => rfl⟩
  have cst : Mc K C "store" fst qst ["self", "value", "k", "told"] := ⟨Mst, Fst.binds fun _ _ _ _ _ _ us hl => match us, hl with | [_, _, _, _], _ => rfl⟩
  have cgw : Mc K C "grow" fgw qgw ["self", "value", "shape", "told"] := ⟨Mgw, Fgw.binds fun _ _ _ _ _ _ us hl => match us, hl with | [_, _, _, _], _ => rfl⟩
  have cit : Mc K C "item" fit qit ["self", "value", "i"] := ⟨Mit, Fit.binds fun _ _ _ _ _ _ us hl => match us, hl with | [_, _, _], _ => rfl⟩
  have csi : Mc K C "setitem" fsi qsi ["self", "value", "i", "told"] := ⟨Msi, Fsi.binds fun _ _ _ _ _ _ us hl => match us, hl with | [_, _, _, _], _ => rfl⟩
  have cle : Mc K C "length" fle qle ["self", "value"] := ⟨Mle, Fle.binds fun _ _ _ _ _ _ us hl => match us, hl with | [_, _], _ => rfl⟩
  have cap : Mc K C "append" fap qap ["self", "value", "told"] := ⟨Map, Fap.binds fun _ _ _ _ _ _ us hl => match us, hl with | [_, _, _], _ => rfl⟩
  have cki : Mc K C "kind" fki qki ["self", "value"] := ⟨Mki, Fki.binds fun _ _ _ _ _ _ us hl => match us, hl with | [_, _], _ => rfl⟩
  have cfo : Mc K C "function_of" ffo qfo ["self", "value"] := ⟨Mfo, Ffo.binds fun _ _ _ _ _ _ us hl => match us, hl with | [_, _], _ => rfl⟩
  have cso : Mc K C "shape_of" fso qso ["self", "value"] := ⟨Mso, Fso.binds fun _ _ _ _ _ _ us hl => match us, hl with | [_, _], _ => rfl⟩
  have cou : Mc K C "out" fou qou ["self", "value"] := ⟨Mou, Fou.binds fun _ _ _ _ _ _ us hl => match us, hl with | [_, _], _ => rfl⟩
  have cge : Mc K C "get" fge qge ["self", "value", "name"] := ⟨Mge, Fge.binds fun _ _ _ _ _ _ us hl => match us, hl with | [_, _, _], _ => rfl⟩
  have cpu : Mc K C "put" fpu qpu ["self", "value", "name", "told"] := ⟨Mpu, Fpu.binds fun _ _ _ _ _ _ us hl => match us, hl with | [_, _, _, _], _ => rfl⟩
  have cai : Mc K C "at_index" fai qai ["self", "value", "index"] := ⟨Mai, Fai.binds fun _ _ _ _ _ _ us hl => match us, hl with | [_, _, _], _ => rfl⟩
  have col : Mc K C "of_list" fol qol ["self", "what", "args"] := ⟨Mol, Fol.binds fun _ _ _ _ _ _ us hl => match us, hl with | [_, _, _], _ => rfl⟩
  have cgn : Mc K C "generic" fgn qgn ["self", "what", "name", "args"] := ⟨Mgn, Fgn.binds fun _ _ _ _ _ _ us hl => match us, hl with | [_, _, _, _], _ => rfl⟩
  have cdi : Mc K CD "__init__" fdi qdi ["self", "world"] := ⟨Mdi, Fdi.binds fun _ _ _ _ _ _ us hl => match us, hl with | [_, _], _ => rfl⟩
  have cdt : Mc K CD "text" fdt qdt ["self", "value"] := ⟨Mdt, Fdt.binds fun _ _ _ _ _ _ us hl => match us, hl with | [_, _], _ => rfl⟩
  have cdo : Mc K CD "opened" fdo qdo ["self", "value"] := ⟨Mdo, Fdo.binds fun _ _ _ _ _ _ us hl => match us, hl with | [_, _], _ => rfl⟩
  have cdb : Mc K CD "between" fdb qdb ["self", "values", "names"] := ⟨Mdb, Fdb.binds fun _ _ _ _ _ _ us hl => match us, hl with | [_, _, _], _ => rfl⟩
  have cdp : Mc K CD "plain" fdp qdp ["self", "value"] := ⟨Mdp, Fdp.binds fun _ _ _ _ _ _ us hl => match us, hl with | [_, _], _ => rfl⟩
  have cfsm : Fc K mg "is_small" afsm qfsm ["value"] := ⟨gfsm, Ffsm.kp, Ffsm.binds fun _ _ _ _ _ _ us hl => match us, hl with | [_], _ => rfl⟩
  have cfko : Fc K mg "kind_of" afko qfko ["value"] := ⟨gfko, Ffko.kp, Ffko.binds fun _ _ _ _ _ _ us hl => match us, hl with | [_], _ => rfl⟩
  have cfsa : Fc K mg "same" afsa qfsa ["one", "two"] := ⟨gfsa, Ffsa.kp, Ffsa.binds fun _ _ _ _ _ _ us hl => match us, hl with | [_, _], _ => rfl⟩
  have cfjo : Fc K mg "joined" afjo qfjo ["sign", "one", "two"] := ⟨gfjo, Ffjo.kp, Ffjo.binds fun _ _ _ _ _ _ us hl => match us, hl with | [_, _, _], _ => rfl⟩
  have cfto : Fc K mg "text_of" afto qfto ["value", "kind"] := ⟨gfto, Ffto.kp, Ffto.binds fun _ _ _ _ _ _ us hl => match us, hl with | [_, _], _ => rfl⟩
  have cfdu : Fc K mg "dumped" afdu qfdu ["world", "values"] := ⟨gfdu, Ffdu.kp, Ffdu.binds fun _ _ _ _ _ _ us hl => match us, hl with | [_, _], _ => rfl⟩
  have cffi : Fc K mg "fits" affi qffi ["world", "cell"] := ⟨gffi, Fffi.kp, Fffi.binds fun _ _ _ _ _ _ us hl => match us, hl with | [_, _], _ => rfl⟩
  have cfiw : Fc K mg "is_world" afiw qfiw ["world"] := ⟨gfiw, Ffiw.kp, Ffiw.binds fun _ _ _ _ _ _ us hl => match us, hl with | [_], _ => rfl⟩
  have cfdr : Fc K mg "_law_draws" afdr qfdr ["script"] := ⟨gfdr, Ffdr.kp, Ffdr.binds fun _ _ _ _ _ _ us hl => match us, hl with | [_], _ => rfl⟩
  have cfmx : Fc K mg "_law_mix" afmx qfmx ["draws", "k", "many"] := ⟨gfmx, Ffmx.kp, Ffmx.binds fun _ _ _ _ _ _ us hl => match us, hl with | [_, _, _], _ => rfl⟩
  have cfdn : Fc K mg "_law_drawn" afdn qfdn ["draws", "k", "refs"] := ⟨gfdn, Ffdn.kp, Ffdn.binds fun _ _ _ _ _ _ us hl => match us, hl with | [_, _, _], _ => rfl⟩
  have cfte : Fc K mg "_law_told" afte qfte ["world", "what", "name", "args"] := ⟨gfte, Ffte.kp, Ffte.binds fun _ _ _ _ _ _ us hl => match us, hl with | [_, _, _, _], _ => rfl⟩
  have cfsg : Fc K mg "_law_sign" afsg qfsg ["sign", "one", "two"] := ⟨gfsg, Ffsg.kp, Ffsg.binds fun _ _ _ _ _ _ us hl => match us, hl with | [_, _, _], _ => rfl⟩
  have cfld : Fc K mg "_law_dump" afld qfld ["told", "table", "met"] := ⟨gfld, Ffld.kp, Ffld.binds fun _ _ _ _ _ _ us hl => match us, hl with | [_, _, _], _ => rfl⟩
  have cfls : Fc K mg "_law_shapes" afls qfls ["world", "table", "came"] := ⟨gfls, Ffls.kp, Ffls.binds fun _ _ _ _ _ _ us hl => match us, hl with | [_, _, _], _ => rfl⟩
  have cflf : Fc K mg "_law_full" aflf qflf [] := ⟨gflf, Fflf.kp, Fflf.binds fun _ _ _ _ _ _ us hl => match us, hl with | [], _ => rfl⟩
  have B : Th P K mg CT fI := ⟨tx, gT, sup, Z.len_, Z.abs_⟩
  have Bn_ : Bn mg := ⟨Z.len_, Z.int_, Z.str_, Z.range_, Z.sorted_⟩
  have Fr : Free mg := ⟨Z.range_, Z.min_, Z.len_, Z.abs_, Z.int_⟩
  have MW : Mk K C fi := ⟨kW.makes, Mi.at_, Mi.fn, kW.kp⟩
  have MD : Mk K CD fdi := ⟨kD.makes, Mdi.at_, Mdi.fn, kD.kp⟩
  refine ⟨qfla, ?_, fun base _ _ => ?_⟩
  · obtain ⟨oc, od, kV, doc, pm, an, cdv, ct, osl, rfl, _, _⟩ := Ffla.ex
    exact fun s v => .of_eq rfl
  · have Gfsm := ok_small (P := P) (w := w) (base := base) Ffsm N
    have Gfko := ok_kindOf (P := P) (w := w) (mg := mg) (base := base) Ffko
    have Gfsa := ok_same (P := P) (w := w) (mg := mg) (base := base) Ffsa
    have Gfjo := ok_joined (P := P) (w := w) (base := base) Ffjo N B
    have Gfto := ok_textOf (P := P) (w := w) (base := base) Ffto Z.str_
    have Gi := ok_initW (P := P) (w := w) (base := base) Fi T
    have Gsl := ok_slotOf (P := P) (w := w) (base := base) Fsl T
    have Gow := ok_owner (P := P) (w := w) (base := base) Fow T
    have Gch := ok_child (P := P) (w := w) (base := base) Fch T
    have Gna := ok_namesOf (P := P) (w := w) (base := base) Fna T
    have Ggr := ok_grown Fgr T Z.len_ Gfsm cfsm
    have Gno := ok_note Fno T Gfsm cfsm
    have Gpc := ok_putCell (P := P) (w := w) (base := base) Fpc T Z.list_
    have Gce := ok_cell (P := P) (w := w) (base := base) Fce T
    have Gnob := ok_newObject Fnob T Gpc Mpc
    have Gnl := ok_newList Fnl T Z.list_ Gpc Mpc
    have Glo := ok_load Flo T Gce cce
    have Gst := ok_store Fst T Gce cce Gno cno Gow cow
    have Ggw := ok_grow Fgw T Gce cce Gno cno
    have Git := ok_item Fit T Gce cce
    have Gsi := ok_setitem Fsi T Gce cce
    have Gle := ok_length Fle T Z.len_ Gce cce
    have Gap := ok_append Fap T Gce cce
    have Gki := ok_kind Fki T Gce cce Gfko cfko
    have Gfo := ok_functionOf Ffo T Gce cce
    have Gso := ok_shapeOf Fso T Gce cce
    have Gou := ok_out Fou T Gki cki Gfto cfto
    have Gge := ok_get Fge T B N Gso cso Gsl csl Glo clo
    have Gpu := ok_put Fpu T B Gso cso Gsl csl Gst cst Ggw cgw Ggr cgr
    have Gai := ok_atIndex Fai T B Gki cki Gle cle
    have Gol := ok_ofList Fol T B N hmi Git cit Gai cai Gsi csi Gki cki Gle cle Gap cap
    have Ggn := ok_generic Fgn T B Gge cge Gpu cpu Gol col Gfsa cfsa Gfjo cfjo
    have Gfte := ok_told Ffte T B te Ggn cgn
    have Gdi := ok_initD (P := P) (w := w) (base := base) Fdi TD
    have Gdp := ok_plain (P := P) (w := w) (base := base) Fdp Z.str_
    have Gdb := ok_between (P := P) (w := w) (base := base) Fdb Z.len_ Z.enumerate_
    have Gdo := ok_opened Fdo T TD Z.str_ Gdp cdp Gdb cdb Gce cce Gna cna
    have Gdt := ok_text Fdt T TD Z.len_ Z.isinstance_ Z.str_ Gdo cdo
    have Gfdu := ok_dumped Ffdu TD MD Gdi cdi.b Gdt cdt
    have Gffi := ok_fits Fffi T Z.len_ Z.enumerate_ Gfsm cfsm Gow cow
    have Gfiw := ok_isWorld Ffiw T Z.all_ Gffi cffi
    have Gfdr := ok_draws (P := P) (w := w) (base := base) Ffdr Fr
    have Gfmx := ok_mix (P := P) (w := w) (base := base) Ffmx Fr
    have Gfdn := ok_drawn Ffdn Z.len_ Gfmx cfmx
    have Gfsg := ok_sign (P := P) (w := w) (base := base) Ffsg Z.len_ Z.int_ Z.abs_
    have Gfld := ok_ldump (P := P) (w := w) (base := base) Ffld cfld Z.str_ 10
    have Gfls := ok_shapes Ffls T Z.len_ Z.sorted_ Z.list_ Z.range_ Z.set_ Gso cso Gna cna Gsl csl Gch cch Gow cow Gfsm cfsm
    have Gflf := ok_full Fflf T MW Gi ci.b Gnl cnl Gfte cfte
    exact ok_law Ffla T Bn_ ⟨Gfte, cfte, Gfdn, cfdn, Gfsg, cfsg, Gfsa, cfsa, Gou, cou, Gfmx, cfmx⟩
      ⟨Gfdr, cfdr, MW, Gi, ci.b, Gnob, cnob, Gnl, cnl, Gfdu, cfdu, Gfld, cfld, Gfiw, cfiw, Gfls, cfls, Gfjo, cfjo, Gfo, cfo, Gflf, cflf⟩
end My
open PySem PySem.W PyProof.Rows
set_option maxRecDepth 100000 in
set_option maxHeartbeats 8000000 in
open_top hd for PySem.Challenge.rw_guessedandkept_k03_whole_deeds_in_worlds
open PySem PySem.W PyProof.Rows
set_option maxHeartbeats 0 in
theorem PySem.Challenge.cw_guessedandkept_k03_whole_deeds_in_worlds_holds : PySem.Challenge.rw_guessedandkept_k03_whole_deeds_in_worlds.Holds :=
  hd (by
  k_fill
  refine L2.walk_of (l := PySem.Challenge.rw_guessedandkept_k03_whole_deeds_in_worlds) (n := 63) (k := 12) (x := "script") (CX := fun _ => L2.CX0) (sp := fun w => My.spLaw _) rfl (by decide) rfl ⟨rfl, by decide, by decide⟩ (fun w h Y => PySem.W.kIn_of Y) ?F (fun _ _ a ns hl _ hS => ⟨a, ns, rfl, hS, hl, fun _ => rfl⟩) (fun _ _ _ _ _ h => h)
  case F =>
    intro w mg fa h KX G hmg0
    have hmg : mg "law" = some (.ref fa) := hmg0
    clear hmg0
    refine' My.all_mk KX G hmg ?Z ?N ?T ?TD ?kW ?kD ?tx ?gT ?sup ?te ?hmi ?mi ?msl ?mow ?mch ?mna ?mgr ?mno ?mpc ?mce ?mnob ?mnl ?mlo ?mst ?mgw ?mit ?msi ?mle ?map ?mki ?mfo ?mso ?mou ?mge ?mpu ?mai ?mol ?mgn ?mdi ?mdt ?mdo ?mdb ?mdp ?dfsm ?dfko ?dfsa ?dfjo ?dfto ?dfdu ?dffi ?dfiw ?dfdr ?dfmx ?dfdn ?dfte ?dfsg ?dfld ?dfls ?dflf ?dfla
    (case T => refine' My.wt_mk KX G ?cl ?a1 ?a2 ?a3 ?a4 ?a5 ?a6 ?a7 ?g; (case g => k_is); (case cl => refine' ⟨?p, ?q, ?r, ?s⟩; (case p => k_is); (case q => k_is); (case r => k_is); (case s => k_is)); (case a1 => k_is); (case a2 => k_is); (case a3 => k_is); (case a4 => k_is); (case a5 => k_is); (case a6 => k_is); (case a7 => k_is))
    (case TD => refine' My.dt_mk KX G ?cl ?a1 ?a2 ?g; (case g => k_is); (case cl => refine' ⟨?p, ?q, ?r, ?s⟩; (case p => k_is); (case q => k_is); (case r => k_is); (case s => k_is)); (case a1 => k_is); (case a2 => k_is))
    (case kW => refine' ⟨?cl, ?mk, ?kp⟩; (case cl => refine' ⟨?p, ?q, ?r, ?s⟩; (case p => k_is); (case q => k_is); (case r => k_is); (case s => k_is)); (case mk => k_is); (case kp => k_is))
    (case kD => refine' ⟨?cl, ?mk, ?kp⟩; (case cl => refine' ⟨?p, ?q, ?r, ?s⟩; (case p => k_is); (case q => k_is); (case r => k_is); (case s => k_is)); (case mk => k_is); (case kp => k_is))
    (case gT => refine' PySem.W.mg_of KX G ?x; (case x => k_is))
    (case tx =>
      refine' My.txt_mk ?xL ?xb ?al ?sa ?ga ?gg ?noN ?iC ?tI ?kC ?exC ?veC ?tyC ?hdC ?cD ?sD ?tp ?su ?l ?c ?lc ?v2 ?fl ?ll
      (case xL => k_is); (case xb => first | rfl | kernel_rfl); (case al => first | k_is | rfl | kernel_rfl); (case sa => k_is); (case ga => k_is); (case gg => k_is); (case noN => k_is); (case iC => k_is); (case tI => k_is); (case kC => k_is); (case exC => k_is); (case veC => k_is); (case tyC => k_is); (case hdC => k_is); (case cD => first | k_is | rfl | kernel_rfl); (case sD => first | k_is | rfl | kernel_rfl); (case tp => k_is); (case su => k_is); (case l => k_is); (case c => k_is); (case lc => k_is); (case v2 => rfl); (case fl => decide +kernel); (case ll => k_is))
    (case sup => decide +kernel)
    (case te => first | k_is | rfl | kernel_rfl)
    (case hmi => refine' My.mi_mk KX G ?x ?e; (case x => k_is); (case e => rfl))
    (case Z => refine' My.non_mk KX G ?z0 ?z1 ?z2 ?z3 ?z4 ?z5 ?z6 ?z7 ?z8 ?z9 ?z10 ?z11; (case z0 => k_is); (case z1 => k_is); (case z2 => k_is); (case z3 => k_is); (case z4 => k_is); (case z5 => k_is); (case z6 => k_is); (case z7 => k_is); (case z8 => k_is); (case z9 => k_is); (case z10 => k_is); (case z11 => k_is))
    (case N => refine' My.kd_mk KX G ?k1 ?k2 ?k3 ?k4 ?k5 ?l ?hc ?hd ?hz ?hv ?e1; (case k1 => k_is); (case k2 => k_is); (case k3 => k_is); (case k4 => k_is); (case k5 => k_is); (case l => k_is); (case hc => rfl); (case hd => rfl); (case hz => decide +kernel); (case hv => repeat' first | exact .nil | refine .cons ⟨_, rfl⟩ ?_); (case e1 => rfl))
    (case mi => refine' My.met_mk ?a ?i ?l ?c ?k; (case a => k_is); (case i => k_is); (case l => k_is); (case c => k_is); (case k => k_is))
    (case msl => refine' My.met_mk ?a ?i ?l ?c ?k; (case a => k_is); (case i => k_is); (case l => k_is); (case c => k_is); (case k => k_is))
    (case mow => refine' My.met_mk ?a ?i ?l ?c ?k; (case a => k_is); (case i => k_is); (case l => k_is); (case c => k_is); (case k => k_is))
    (case mch => refine' My.met_mk ?a ?i ?l ?c ?k; (case a => k_is); (case i => k_is); (case l => k_is); (case c => k_is); (case k => k_is))
    (case mna => refine' My.met_mk ?a ?i ?l ?c ?k; (case a => k_is); (case i => k_is); (case l => k_is); (case c => k_is); (case k => k_is))
    (case mgr => refine' My.met_mk ?a ?i ?l ?c ?k; (case a => k_is); (case i => k_is); (case l => k_is); (case c => k_is); (case k => k_is))
    (case mno => refine' My.met_mk ?a ?i ?l ?c ?k; (case a => k_is); (case i => k_is); (case l => k_is); (case c => k_is); (case k => k_is))
    (case mpc => refine' My.met_mk ?a ?i ?l ?c ?k; (case a => k_is); (case i => k_is); (case l => k_is); (case c => k_is); (case k => k_is))
    (case mce => refine' My.met_mk ?a ?i ?l ?c ?k; (case a => k_is); (case i => k_is); (case l => k_is); (case c => k_is); (case k => k_is))
    (case mnob => refine' My.met_mk ?a ?i ?l ?c ?k; (case a => k_is); (case i => k_is); (case l => k_is); (case c => k_is); (case k => k_is))
    (case mnl => refine' My.met_mk ?a ?i ?l ?c ?k; (case a => k_is); (case i => k_is); (case l => k_is); (case c => k_is); (case k => k_is))
    (case mlo => refine' My.met_mk ?a ?i ?l ?c ?k; (case a => k_is); (case i => k_is); (case l => k_is); (case c => k_is); (case k => k_is))
    (case mst => refine' My.met_mk ?a ?i ?l ?c ?k; (case a => k_is); (case i => k_is); (case l => k_is); (case c => k_is); (case k => k_is))
    (case mgw => refine' My.met_mk ?a ?i ?l ?c ?k; (case a => k_is); (case i => k_is); (case l => k_is); (case c => k_is); (case k => k_is))
    (case mit => refine' My.met_mk ?a ?i ?l ?c ?k; (case a => k_is); (case i => k_is); (case l => k_is); (case c => k_is); (case k => k_is))
    (case msi => refine' My.met_mk ?a ?i ?l ?c ?k; (case a => k_is); (case i => k_is); (case l => k_is); (case c => k_is); (case k => k_is))
    (case mle => refine' My.met_mk ?a ?i ?l ?c ?k; (case a => k_is); (case i => k_is); (case l => k_is); (case c => k_is); (case k => k_is))
    (case map => refine' My.met_mk ?a ?i ?l ?c ?k; (case a => k_is); (case i => k_is); (case l => k_is); (case c => k_is); (case k => k_is))
    (case mki => refine' My.met_mk ?a ?i ?l ?c ?k; (case a => k_is); (case i => k_is); (case l => k_is); (case c => k_is); (case k => k_is))
    (case mfo => refine' My.met_mk ?a ?i ?l ?c ?k; (case a => k_is); (case i => k_is); (case l => k_is); (case c => k_is); (case k => k_is))
    (case mso => refine' My.met_mk ?a ?i ?l ?c ?k; (case a => k_is); (case i => k_is); (case l => k_is); (case c => k_is); (case k => k_is))
    (case mou => refine' My.met_mk ?a ?i ?l ?c ?k; (case a => k_is); (case i => k_is); (case l => k_is); (case c => k_is); (case k => k_is))
    (case mge => refine' My.met_mk ?a ?i ?l ?c ?k; (case a => k_is); (case i => k_is); (case l => k_is); (case c => k_is); (case k => k_is))
    (case mpu => refine' My.met_mk ?a ?i ?l ?c ?k; (case a => k_is); (case i => k_is); (case l => k_is); (case c => k_is); (case k => k_is))
    (case mai => refine' My.met_mk ?a ?i ?l ?c ?k; (case a => k_is); (case i => k_is); (case l => k_is); (case c => k_is); (case k => k_is))
    (case mol => refine' My.met_mk ?a ?i ?l ?c ?k; (case a => k_is); (case i => k_is); (case l => k_is); (case c => k_is); (case k => k_is))
    (case mgn => refine' My.met_mk ?a ?i ?l ?c ?k; (case a => k_is); (case i => k_is); (case l => k_is); (case c => k_is); (case k => k_is))
    (case mdi => refine' My.met_mk ?a ?i ?l ?c ?k; (case a => k_is); (case i => k_is); (case l => k_is); (case c => k_is); (case k => k_is))
    (case mdt => refine' My.met_mk ?a ?i ?l ?c ?k; (case a => k_is); (case i => k_is); (case l => k_is); (case c => k_is); (case k => k_is))
    (case mdo => refine' My.met_mk ?a ?i ?l ?c ?k; (case a => k_is); (case i => k_is); (case l => k_is); (case c => k_is); (case k => k_is))
    (case mdb => refine' My.met_mk ?a ?i ?l ?c ?k; (case a => k_is); (case i => k_is); (case l => k_is); (case c => k_is); (case k => k_is))
    (case mdp => refine' My.met_mk ?a ?i ?l ?c ?k; (case a => k_is); (case i => k_is); (case l => k_is); (case c => k_is); (case k => k_is))
    (case dfsm => refine' My.def_mk KX G ?a ?l ?c ?k; (case a => k_is); (case l => k_is); (case c => k_is); (case k => k_is))
    (case dfko => refine' My.def_mk KX G ?a ?l ?c ?k; (case a => k_is); (case l => k_is); (case c => k_is); (case k => k_is))
    (case dfsa => refine' My.def_mk KX G ?a ?l ?c ?k; (case a => k_is); (case l => k_is); (case c => k_is); (case k => k_is))
    (case dfjo => refine' My.def_mk KX G ?a ?l ?c ?k; (case a => k_is); (case l => k_is); (case c => k_is); (case k => k_is))
    (case dfto => refine' My.def_mk KX G ?a ?l ?c ?k; (case a => k_is); (case l => k_is); (case c => k_is); (case k => k_is))
    (case dfdu => refine' My.def_mk KX G ?a ?l ?c ?k; (case a => k_is); (case l => k_is); (case c => k_is); (case k => k_is))
    (case dffi => refine' My.def_mk KX G ?a ?l ?c ?k; (case a => k_is); (case l => k_is); (case c => k_is); (case k => k_is))
    (case dfiw => refine' My.def_mk KX G ?a ?l ?c ?k; (case a => k_is); (case l => k_is); (case c => k_is); (case k => k_is))
    (case dfdr => refine' My.def_mk KX G ?a ?l ?c ?k; (case a => k_is); (case l => k_is); (case c => k_is); (case k => k_is))
    (case dfmx => refine' My.def_mk KX G ?a ?l ?c ?k; (case a => k_is); (case l => k_is); (case c => k_is); (case k => k_is))
    (case dfdn => refine' My.def_mk KX G ?a ?l ?c ?k; (case a => k_is); (case l => k_is); (case c => k_is); (case k => k_is))
    (case dfte => refine' My.def_mk KX G ?a ?l ?c ?k; (case a => k_is); (case l => k_is); (case c => k_is); (case k => k_is))
    (case dfsg => refine' My.def_mk KX G ?a ?l ?c ?k; (case a => k_is); (case l => k_is); (case c => k_is); (case k => k_is))
    (case dfld => refine' My.def_mk KX G ?a ?l ?c ?k; (case a => k_is); (case l => k_is); (case c => k_is); (case k => k_is))
    (case dfls => refine' My.def_mk KX G ?a ?l ?c ?k; (case a => k_is); (case l => k_is); (case c => k_is); (case k => k_is))
    (case dflf => refine' My.def_mk KX G ?a ?l ?c ?k; (case a => k_is); (case l => k_is); (case c => k_is); (case k => k_is))
    (case dfla => refine' My.def_mk KX G ?a ?l ?c ?k; (case a => k_is); (case l => k_is); (case c => k_is); (case k => k_is)))
